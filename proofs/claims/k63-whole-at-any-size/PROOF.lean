import PyProof.Rows.All
import Wide.All
import OpenK.AllK
import Wide.FinOn
import HandS.GenList
import HandS.AnyAll
import HandS.Comp
import HandS.Lambda
import KE.SortKeyHeap
import KE.KMinKey
import HandS.Dict
import HandS.SortKw
import HandS.Slots
import KE.GoesMore
import HandS.Iter
import HandS.ForMost
import HandS.Exc
import HandS.ExcOwn
import HandS.TryMany
import HandS.Walk
import HandS.More
import HandS.Style
import HandS.TupAny
import HandS.SortInts
import HandS.SortRule
import HandS.Strs
import HandS.ListItems
import HandS.WordsExc
import HandS.EndTab
import HandS.RaiseMore
import KE.KStateDown
import HandS.Head0
import HandS.Head1
import HandS.Head2
import HandS.HeadHook1
import HandS.HeadHook2
import HandS.HeadHook3
import HandS.HeadHook4
import HandS.HeadWalk
import PySem.Challenge.RW_pairmart_k63_whole_at_any_size
set_option Elab.async false
/-! ## Gx -/
section
set_option Elab.async false
set_option linter.all false
set_option maxRecDepth 100000
set_option maxHeartbeats 4000000
namespace GX
open PySem PySem.Spec PyProof.Rows L2 GenW

abbrev gEnv (X : Cx) (scope : Scope) (C : Addr) (code : Value) : Env := genEnv scope (cloFrom X.env.cells scope.names []) C code builtinsNs X.env
/-- the context of a generator expression's element: its frame C, entered at s -/
def genCx (X : Cx) (s : Shared) (H : Hp) (scope : Scope) (C : Addr) (code : Value) (fp : List Addr) : Cx where
  prog := X.prog
  w := X.w
  K := X.K
  mg := X.mg
  base := X.base
  A := X.A.in1.in1.deeper (gEnv X scope C code)
  N := X.N
  s_0 := s
  H_0 := H
  env := gEnv X scope C code
  outer := X.stack
  stack := gEnv X scope C code :: X.stack
  ex := fp
  fn := fun _ => false
  calm := true
  pn := []
  xe := fun _ _ => False
structure GexS (N : List Str) (sc scope : Scope) (x : Str) (j : Nat) : Prop where
  kind : scope.kind = .function
  co : scope.isCoroutine = false
  cell : ∀ y ∈ scope.names, y.2 ≠ .cell
  dot : scope.names.lookup (".0" : Str) = some NameKind.local
  loc : scope.names.lookup x = some .local
  own : ∀ y ∈ scope.names, y.2 = .local → y.1 = ".0" ∨ y.1 = x
  free : ∀ y ∈ scope.names, y.2 = .free → sc.names.lookup y.1 = some .cell ∨ sc.names.lookup y.1 = some .free
  atj : N[j]? = some x
  nd : N.Nodup
  nodot : (".0" : Str) ∉ N
def gexB (N : List Str) (sc scope : Scope) (x : Str) (j : Nat) : Bool :=
  decide (scope.kind = .function) && !scope.isCoroutine && (scope.names.all fun y => !decide (y.2 = .cell) && (!decide (y.2 = .local) || decide (y.1 = (".0" : Str)) || decide (y.1 = x)) && (!decide (y.2 = .free) || decide (sc.names.lookup y.1 = some .cell) || decide (sc.names.lookup y.1 = some .free))) &&
  decide (scope.names.lookup (".0" : Str) = some NameKind.local) && decide (scope.names.lookup x = some .local) && decide (N[j]? = some x) && decide N.Nodup && decide ((".0" : Str) ∉ N)
theorem gex_by {N : List Str} {sc scope : Scope} {x : Str} {j : Nat} (h : gexB N sc scope x j = true) : GexS N sc scope x j := by
  unfold gexB at h
  simp only [Bool.and_eq_true, Bool.or_eq_true, Bool.not_eq_true', decide_eq_true_eq, decide_eq_false_iff_not, List.all_eq_true] at h
  obtain ⟨⟨⟨⟨⟨⟨⟨h1, h2⟩, h3⟩, h4⟩, h5⟩, h6⟩, h7⟩, h8⟩ := h
  refine ⟨h1, h2, fun y hy => (h3 y hy).1.1, h4, h5, fun y hy e => ?_, fun y hy e => ?_, h6, h7, h8⟩
  · rcases (h3 y hy).1.2 with (z | z) | z
    · exact absurd e z
    · exact .inl z
    · exact .inr z
  · rcases (h3 y hy).2 with (z | z) | z
    · exact absurd e z
    · exact .inl z
    · exact .inr z
theorem over_gen {A : Around} {elt : Expr} {gs : List Comprehension} {scope : Scope} {pos : Pos} {it acc : Value} {env : Env} : A.over (.compLoop (.GeneratorExp elt gs scope pos) 0 it acc env) [] = A.deeper env := by
  first
    | rfl
    | (obtain ⟨hd, d, fr, gs, u⟩ := A; simp [Around.over, Around.deeper, marksOver, frameCount, unitsOf, envsOf, guardsOf, pushEnvs, pushGuards, Code.envs, Code.env?, Code.isFrame, Code.guards, Code.isGuard, Code.weight, Code.frames, Code.isCreation, Code.isCaller, Code.cUnits])
theorem over_gen0 {A : Around} {elt : Expr} {gs : List Comprehension} {scope : Scope} {pos : Pos} {it acc : Value} {env : Env} : A.over (.compStart (.GeneratorExp elt gs scope pos) 0 it acc env) [] = A.deeper env := by
  first
    | rfl
    | (obtain ⟨hd, d, fr, gs, u⟩ := A; simp [Around.over, Around.deeper, marksOver, frameCount, unitsOf, envsOf, guardsOf, pushEnvs, pushGuards, Code.envs, Code.env?, Code.isFrame, Code.guards, Code.isGuard, Code.weight, Code.frames, Code.isCreation, Code.isCaller, Code.cUnits])
section
variable {X : Cx} {pins : List (Addr × Obj)} {σ : L2.St} {H : Hp} {s : Shared}
theorem GexS.has {scope : Scope} {x : Str} {j : Nat} (G : GexS X.N X.env.scope scope x j) (ok : X.Ok) : ∀ y ∈ scope.names, y.2 = .free → ∃ c, X.env.cells.lookup y.1 = some c := fun y hy e => by
  rcases G.free y hy e with k | k
  · exact ok.has _ (.inl k)
  · exact ok.has _ (.inr k)
theorem gen_inv {scope : Scope} {x : Str} {j : Nat} {C : Addr} {code : Value} {fp : List Addr} {h : Heap} {g : Array GenState} {d : Drawn} {tk : Nat} {mC : Str → Option Value} (I : Inv X pins σ H s) (G : GexS X.N X.env.scope scope x j) (hd : X.A.handled = none)
    (kp : ∀ b o, s.heap.get? b = some o → h.get? b = some o) (hC : s.heap.objs.size ≤ C) (hn : h.Ns C mC) (hg : AllBare g)
    (hfp : ∀ b ∈ fp, FpOk X pins H b) (hfo : ∀ b ∈ fp, ∃ o, s.heap.get? b = some o) :
    Inv (genCx X s H scope C code fp) [] (σ.set j none) H { s with heap := h, gens := g, drawn := d, toks := tk } := by
  have e0 := I.env0
  have hfree := G.has I.ok
  have cm : ∀ {y c}, (cloFrom X.env.cells scope.names []).lookup y = some c → X.env.cells.lookup y = some c := fun {y c} e => by
    rcases cloFrom_mem (PySem.mem_of_lookup e) with hm | ⟨h1, h2⟩
    · cases hm
    · obtain ⟨c1, hc⟩ := hfree _ h1 rfl
      have hc : X.env.cells.lookup y = some c1 := hc
      have e2 : c = c1 := by
        rw [h2, hc] <;> rfl
      rw [e2]
      exact hc
  have look : ∀ {y}, scope.names.lookup y = some .free → ∃ c, (cloFrom X.env.cells scope.names []).lookup y = some c := fun {y} hl => by
    have hy : (y, NameKind.free) ∈ scope.names := PySem.mem_of_lookup hl
    exact mem_lookup (cloFrom_has (cells := X.env.cells) (acc := []) hy)
  have cellK : ∀ {c : Addr} {v : Option Value}, s.heap.IsCell c v → h.IsCell c v := fun {c v} ⟨o, ho, hd⟩ => ⟨o, kp _ _ ho, hd⟩
  have lt : ∀ b ∈ fp, b < s.heap.objs.size := fun b hb => let ⟨o, e⟩ := hfo b hb; Heap.lt_size e
  refine ⟨⟨e0.mod, G.kind, I.ok.glob, rfl, hC, fun y z c e1 e2 => I.ok.inj y z c (cm e1) (cm e2), fun y hy => ?_, fun y c z _ => ?_, fun _ => hd, Around.frames_deeper (A := X.A.in1.in1) e0.frames, .inr ⟨rfl, rfl⟩, fun b z => ⟨Nat.ne_of_lt (Nat.lt_of_lt_of_le (lt b z) hC), fun y c e => (hfp b z).2.2.2.2.1 y c (cm e)⟩, e0.bs, e0.bsz, fun b o eb z => ?_,
      fun b z hm => ?_, e0.funs, e0.frf⟩,
    rfl, hg, Un.kept kp, ⟨_, hn, fun i y v e1 e2 e3 => ?_⟩, fun y c e => ?_, e0.hok.fresh hC, fun y c e => ?_, fun q hq => absurd (show q ∈ ([] : List (Addr × Obj)) ++ [] from hq) (by simp), e0.hok.kept kp, by rw [List.length_set]; exact I.len⟩
  · have hy : scope.names.lookup y = some .cell ∨ scope.names.lookup y = some .free := hy
    rcases hy with hy | hy
    · exact absurd rfl (G.cell _ (PySem.mem_of_lookup hy))
    · exact look hy
  · have z : false = true := z
    cases z
  · rcases (hfp b z).2.2.2.1 with q | q
    · exact I.ok.noex b o eb q
    · exact absurd (Nat.lt_of_lt_of_le (Nat.lt_of_lt_of_le (Heap.lt_size eb) I.ok.bsz) q) (Nat.lt_irrefl _)
  · rcases List.mem_cons.mp (I.stkSub b hm) with q | q
    · exact (hfp b z).2.1 q
    · exact (hfp b z).2.2.1 q
  · have e3 : Vis scope y := e3
    have hij : i ≠ j := fun z => by
      subst z
      by_cases hl : i < σ.length
      · rw [List.getElem?_set_self hl] at e2
        cases e2
      · rw [List.getElem?_eq_none (by rw [List.length_set]; omega)] at e2
        cases e2
    rw [List.getElem?_set_ne (Ne.symm hij)] at e2
    have e1 : X.N[i]? = some y := e1
    rcases e3 with k | k | k
    · rcases G.own _ (PySem.mem_of_lookup k) rfl with z | z
      · have z : y = (".0" : Str) := z
        exact absurd (List.mem_of_getElem? e1) (by rw [z]; exact G.nodot)
      · have z : y = x := z
        exact absurd (nodup_ix G.nd e1 (z ▸ G.atj)) hij
    · exact absurd rfl (G.cell _ (PySem.mem_of_lookup k))
    · obtain ⟨m, hn, hl⟩ := I.loc
      have hvis : Vis X.env.scope y := (G.free _ (PySem.mem_of_lookup k) rfl).elim (fun k => .inr (.inl k)) (fun k => .inr (.inr k))
      obtain ⟨w', r, q⟩ := hl i y v e1 e2 hvis
      obtain ⟨c2, h2⟩ := look k
      refine ⟨w', r, .inr ⟨.inr k, c2, h2, ?_⟩⟩
      have c1 := cm h2
      rcases q with ⟨k', _⟩ | ⟨_, c3, e', z⟩
      · have k' : X.env.scope.names.lookup y = some .local := k'
        rcases G.free _ (PySem.mem_of_lookup k) rfl with k2 | k2 <;> rw [show X.env.scope.names.lookup y = _ from k2] at k' <;> cases k'
      · rw [c1] at e'
        cases e'
        exact cellK z
  · obtain ⟨w', z⟩ := I.cell y c (cm e)
    exact ⟨w', cellK z⟩
  · exact I.freeC y c (cm e)
end
end GX
end
/-! ## Gx2 -/
section
set_option Elab.async false
set_option linter.all false
set_option maxRecDepth 100000
set_option maxHeartbeats 4000000
namespace GX
open PySem PySem.Spec PyProof.Rows L2 GenW
/-- what is out: one answer, the state behind it -/
def GYx (Xg : Cx) (gp : List (Addr × Obj)) (sv : Bool) (Q : VK) : Protocol := fun _ _ v s kap =>
  ∃ (b : Bool) (σ' : L2.St) (H' : Hp), v = .bool b ∧ Inv Xg gp σ' H' s ∧ (b = sv → Q (.bl sv) H') ∧ (b = !sv → ∀ s'' : Shared, s''.heap = s.heap → s''.os = s.os → AllBare s''.gens → kap (.send .none) s'')
def GFx (Xg : Cx) (gp : List (Addr × Obj)) (sv : Bool) (Q : VK) : Nat → Shared → Shared → Prop := fun _ _ s => ∃ (σ' : L2.St) (H' : Hp), Inv Xg gp σ' H' s ∧ Q (.bl (!sv)) H'
abbrev GRx (Xg : Cx) (gp : List (Addr × Obj)) (sv : Bool) (Q : VK) : GenEnd := fun n s₀ r s₁ => ((r = .ok (.ret .none) ∨ r = .ok .next) ∧ GFx Xg gp sv Q n s₀ s₁) ∨ ∃ e, r = .error e ∧ (fun (_ : Value) (_ : Shared) => False) e s₁
theorem inv_same {Xg : Cx} {gp : List (Addr × Obj)} {σ : L2.St} {H : Hp} {s s'' : Shared} (I : Inv Xg gp σ H s) (h1 : s''.heap = s.heap) (h2 : s''.os = s.os) (h3 : AllBare s''.gens) : Inv Xg gp σ H s'' := by
  obtain ⟨hh, g, d, t, o⟩ := s''
  have h1 : hh = s.heap := h1
  have h2 : o = s.os := h2
  subst h1 h2
  exact I.step (g' := g) (t' := t) (d' := d) (ch := []) (fun _ z => nomatch z) (fun b ob _ _ _ q _ => q) (fun b ob _ _ _ q _ => ⟨ob.slots, q⟩) (fun _ _ _ _ n => n) (fun b ob _ q => ⟨ob, q⟩) (fun _ _ q => q) (fun _ _ _ q => q) (fun b ps q => ⟨#[], by rw [q]; simp⟩) (fun m hm => hm) I.hok h3
/-- what the generator's turns want: W by the turn and a measure -/
def GWalk (sv : Bool) (te : TE) (j : Nat) (σ : L2.St) (J : It) (Q : VK) (W : Nat → Nat → Hp → Prop) : Prop := ∀ i m H, W i m H →
  (J.stop i H ∧ Q (.bl (!sv)) H) ∨ (J.go i H ∧ ∃ N : Hp → Prop, (∀ H', N H' → ∃ m', m' < m ∧ W (i + 1) m' H') ∧ ∀ x H', J.yld i H x H' → te (σ.set j (some x)) H' fun r H2 => ∃ b, r = .bl b ∧ (b = sv → Q (.bl sv) H2) ∧ (b = !sv → N H2))
section
variable {X : Cx} {s1 : Shared} {H1 : Hp} {scope : Scope} {C : Addr} {code : Value} {x : Str} {j : Nat} {elt iter : Expr} {px pos : Pos} {te : TE} {J : It} {fp fpx : List Addr} {it : Addr} {tn : Nat → Heap → Prop} {gp : List (Addr × Obj)} {sv : Bool} {Q : VK} {W : Nat → Nat → Hp → Prop} {σ : L2.St}
theorem seg_gx (G : GexS X.N X.env.scope scope x j) (T : Turn X.prog X.w X.K (.Name x px) J fp it tn) (hel : PE (genCx X s1 H1 scope C code fpx) elt te)
    (hx : Loc scope x) (hW : GWalk sv te j σ J Q W) (hfp : ∀ b ∈ fp, ∀ H', H' b = none → FpOk (genCx X s1 H1 scope C code fpx) gp H' b) :
    ∀ (n m i : Nat) (s₀ s : Shared) (σ' : L2.St) (H : Hp), m < n → W i m H → Inv (genCx X s1 H1 scope C code fpx) gp σ' H s → (∀ v, σ'.set j v = σ.set j v) → tn i s.heap → (∀ b ∈ fp, H b = none) →
      Seg (model X.prog X.w) X.A.in1.in1 (GRx (genCx X s1 H1 scope C code fpx) gp sv Q) (GYx (genCx X s1 H1 scope C code fpx) gp sv Q) n s₀
        (.compLoop (.GeneratorExp elt [⟨.Name x px, iter, [], 0⟩] scope pos) 0 (.ref it) .none (gEnv X scope C code))
        ((model X.prog X.w).den (.compLoop (.GeneratorExp elt [⟨.Name x px, iter, [], 0⟩] scope pos) 0 (.ref it) .none (gEnv X scope C code))) [] s := by
  intro n
  induction n with
  | zero => intro m i s₀ s σ' H hm; omega
  | succ n ih =>
    intro m i s₀ s σ' H hm w I hσ st fr
    show Seg _ _ _ _ _ s₀ _ ((compTurn (.GeneratorExp elt [⟨.Name x px, iter, [], 0⟩] scope pos) 0 (.ref it) .none (gEnv X scope C code)).onRaise (leaving (gEnv X scope C code))) [] s
    rw [compTurn_gen, Sem.onRaise_eq_wrap]
    refine seg_bind_wrap (wpAny_standAt ?_)
    rcases hW i m H w with ⟨stop, qn⟩ | ⟨go, N, hN, step⟩
    · refine seg_bind_wrap ?_
      rw [over_gen]
      refine thn (T.done (genCx X s1 H1 scope C code fpx) rfl rfl rfl rfl i gp s σ' H _ I (fun b hb => hfp b hb H (fr b hb)) st stop) fun r s4 h4 => ?_
      obtain ⟨hr, I4⟩ := h4
      subst hr
      exact seg_end (.ok .next) (.inl ⟨.inr rfl, σ', H, I4, qn⟩)
    · refine seg_bind_wrap ?_
      rw [over_gen]
      refine thn (T.item (genCx X s1 H1 scope C code fpx) rfl rfl rfl rfl i gp s σ' H _ I (fun b hb => hfp b hb H (fr b hb)) st go) fun r s4 h4 => ?_
      obtain ⟨u, hr, h4⟩ := h4
      subst hr
      refine seg_bind_wrap ?_
      rw [over_gen]
      refine thn h4 fun _ s5 h5 => ?_
      obtain ⟨y, H5, I5, r5, y5, st5, fr5⟩ := h5
      have I5' := I5.pinned (fun b hb => hfp b hb H5 (fr5 b hb)) (T.obj _ _ st5)
      refine seg_bind_wrap ?_
      rw [over_gen]
      refine wpAny_mono ((pg_name (X := genCx X s1 H1 scope C code fpx) (i := j) (pos := px) G.nd G.atj hx (.inr G.loc)).run _ s5 σ' H5 y u (fun σ6 H6 => σ6 = σ'.set j (some y) ∧ H6 = H5) I5' r5 ⟨rfl, rfl⟩) (fun _ s6 h6 => ?_) fun _ _ z => False.elim z
      obtain ⟨σ6, H6, I6, e6, eH⟩ := h6
      subst eH
      subst e6
      simp only [List.forIn_nil]
      refine seg_bind_wrap (wpAny_pure ?_)
      simp only [if_true]
      have hy : ∀ v, yieldOut (gEnv X scope C code) v = yieldValue v := fun v => by
        have hco : (gEnv X scope C code).scope.isCoroutine = false := G.co
        simp only [yieldOut, hco, Bool.false_eq_true, if_false]
      simp only [hy]
      rw [Sem.bind_eq_wrap', Sem.bind_eq_wrap', Sem.wrap_wrap, Sem.wrap_wrap]
      refine seg_wrap ?_
      rw [over_gen]
      have stp := step y H6 y5
      rw [← hσ (some y)] at stp
      refine wpAny_mono (hel.run _ s6 _ H6 _ I6 stp) (fun v s7 h7 => ?_) fun _ _ z => False.elim z
      obtain ⟨r, H7, I7, rv, b, er, q1, q2⟩ := h7
      subst er
      obtain rfl : v = Value.bool b := rv
      have fr7 : ∀ b ∈ fp, H7 b = none := fun b hb => by
        obtain ⟨o, e, d⟩ := T.obj _ _ st5 b hb
        exact (I7.pin (b, o) (List.mem_append_right _ (List.mem_append_right _ (mem_pinsAt hb e)))).2.1
      have st7 : tn (i + 1) s7.heap := T.keep _ _ _ st5 fun b hb o e => (I7.pin (b, o) (List.mem_append_right _ (List.mem_append_right _ (mem_pinsAt hb e)))).1
      refine seg_at (seg_yield rfl rfl rfl ⟨b, _, H7, rfl, I7.unpinned, q1, fun hb s'' h1 h2 h3 => ?_⟩)
      obtain ⟨m', hm', w'⟩ := hN H7 (q2 hb)
      refine seg_again rfl (ih m' (i + 1) s'' s'' _ H7 (by omega) w' (inv_same I7.unpinned h1 h2 h3) (fun v => ?_) (by rw [h1]; exact st7) fr7)
      rw [List.set_set]
      exact hσ v
theorem seg_gx0 (G : GexS X.N X.env.scope scope x j) (T : Turn X.prog X.w X.K (.Name x px) J fp it tn) (hel : PE (genCx X s1 H1 scope C code fpx) elt te)
    (hx : Loc scope x) (hW : GWalk sv te j σ J Q W) (hfp : ∀ b ∈ fp, ∀ H', H' b = none → FpOk (genCx X s1 H1 scope C code fpx) gp H' b)
    (n m : Nat) (s₀ s : Shared) (σ' : L2.St) (H : Hp) (hm : m < n) (w : W 0 m H) (I : Inv (genCx X s1 H1 scope C code fpx) gp σ' H s) (hσ : ∀ v, σ'.set j v = σ.set j v) (st : tn 0 s.heap) (fr : ∀ b ∈ fp, H b = none) :
      Seg (model X.prog X.w) X.A.in1.in1 (GRx (genCx X s1 H1 scope C code fpx) gp sv Q) (GYx (genCx X s1 H1 scope C code fpx) gp sv Q) n s₀
        (.compStart (.GeneratorExp elt [⟨.Name x px, iter, [], 0⟩] scope pos) 0 (.ref it) .none (gEnv X scope C code))
        ((model X.prog X.w).den (.compStart (.GeneratorExp elt [⟨.Name x px, iter, [], 0⟩] scope pos) 0 (.ref it) .none (gEnv X scope C code))) [] s := by
  have loop := seg_gx (iter := iter) (pos := pos) G T hel hx hW hfp n m 0 s₀ s σ' H hm w I hσ st fr
  show Seg _ _ _ _ _ s₀ _ ((compStart (.GeneratorExp elt [⟨.Name x px, iter, [], 0⟩] scope pos) 0 (.ref it) .none (gEnv X scope C code)).onRaise (leaving (gEnv X scope C code))) [] s
  unfold compStart
  rw [Sem.onRaise_eq_wrap]
  show Seg _ _ _ _ _ s₀ _ ((ask >>= _).wrap _ _ _ _) [] s
  refine seg_bind_wrap (wpAny_askSetting ?_)
  split
  · exact seg_again rfl loop
  · first
      | exact seg_bind_wrap (wpAny_rule (seg_bind_wrap (wpAny_standAt (seg_bind_wrap (T.self _ 0 s _ _ st (seg_again rfl loop))))))
      | (refine seg_bind_wrap (wpAny_rule ?_); show Seg _ _ _ _ _ s₀ _ ((standAt iter.pos >>= _).wrap _ _ _ _) [] s; exact seg_bind_wrap (wpAny_standAt (seg_bind_wrap (T.self _ 0 s _ _ st (seg_again rfl loop)))))
end
end GX
end
/-! ## Gx3 -/
section
set_option Elab.async false
set_option linter.all false
set_option maxRecDepth 100000
set_option maxHeartbeats 4000000
namespace GX
open PySem PySem.Spec PyProof.Rows L2 GenW
def genObj (g : Nat) (nm qn : Value) : Obj := { cls := .type "generator", data := .fields #[.int g 0, nm, qn] }
theorem isGen_of {h : Heap} {a : Addr} {g : Nat} {nm qn : Value} (e : h.get? a = some (genObj g nm qn)) : h.IsGen a g := ⟨_, nm, qn, e, rfl, rfl, rfl⟩
section
variable {P : Program} {w : World} {A : Around} {Xg : Cx} {a : Addr} {g : Nat} {nm qn : Value} {sv : Bool} {Q : VK} {R : Result → Shared → Prop}
/-- one turn of the consumer -/
theorem next_gx {α : Type} {n : Nat} {s : Shared} {gs : GenState} {Q' : Option Value → Shared → Prop} {E : Value → Shared → Prop} (hh : A.handled = none) (hroom : A.depth < recursionLimit) (hP : Xg.prog = P) (hw : Xg.w = w)
    (hl : s.heap.NoLimit) (hg : s.heap.IsGen a g) (hgs : s.gens[g]? = some gs) (hb : AllBare s.gens)
    (hgo : gs.Goes (model P w) A.in1 (GRx Xg [(a, genObj g nm qn)] sv Q) (GYx Xg [(a, genObj g nm qn)] sv Q) n (.send .none) (s.setGen g .running))
    (hY : ∀ (b : Bool) (σ' : L2.St) (H' : Hp) (s' : Shared) (gs' : GenState), Inv Xg [(a, genObj g nm qn)] σ' H' s' → s'.gens[g]? = some gs' → (b = sv → Q (.bl sv) H') →
      (b = !sv → ∃ m, n = m + 1 ∧ gs'.Goes (model P w) A.in1 (GRx Xg [(a, genObj g nm qn)] sv Q) (GYx Xg [(a, genObj g nm qn)] sv Q) m (.send .none) (s'.setGen g .running)) → Q' (some (.bool b)) s')
    (hD : ∀ (σ' : L2.St) (H' : Hp) (s' : Shared), Inv Xg [(a, genObj g nm qn)] σ' H' s' → Q (.bl (!sv)) H' → Q' none s') :
    wpAny (model P w) A (pyNext (.ref a)) Q' E s := by
  subst hP
  subst hw
  have hgl : g < s.gens.size := by
    rcases Nat.lt_or_ge g s.gens.size with h' | h'
    · exact h'
    · rw [Array.getElem?_eq_none h'] at hgs; cases hgs
  refine wpAny_gsz (n := s.gens.size) (Nat.le_refl _) ?_
  refine next_genG (Q := fun v s' => s.gens.size ≤ s'.gens.size → Q' v s') hh hl hroom hg hgs hgo (fun v s₁ gs' hbare hv => ?_) (fun s₁ hp h' hk => ?_) (fun e s₁ z => z.elim)
  · obtain ⟨b, σ', H', rfl, I, q1, q2⟩ := hv
    intro hsz
    have hg1 : g < s₁.gens.size := by
      rw [setGen_size] at hsz
      omega
    have hbare' : AllBare (s₁.setGen g gs').gens := allBare_setGen I.bare hbare
    refine hY b σ' H' _ gs' (inv_same I rfl rfl hbare') (setGen_at hg1) q1 fun hb' => ?_
    have hk := q2 hb' ((s₁.setGen g gs').setGen g .running) rfl rfl (allBare_setGen (s := s₁.setGen g gs') hbare' rfl)
    cases n with
    | zero => exact hk.elim
    | succ m => exact ⟨m, rfl, hk⟩
  · obtain ⟨σ', H', I, q⟩ := hp
    intro _
    have I1 : Inv Xg [(a, genObj g nm qn)] σ' H' { s₁ with heap := h', toks := s₁.toks } := I.kept hk
    exact hD σ' H' _ (inv_same (s'' := { s₁.setGen g .finished with heap := h' }) I1 rfl rfl (allBare_setGen I.bare rfl)) q
theorem loop_any (hh : A.handled = none) (hroom : A.depth < recursionLimit) (hP : Xg.prog = P) (hw : Xg.w = w)
    (hR : ∀ (b : Bool) (σ' : L2.St) (H' : Hp) (s' : Shared), Inv Xg [(a, genObj g nm qn)] σ' H' s' → Q (.bl b) H' → R (.ok (.ret (.bool b))) s') :
    ∀ (n : Nat) (s : Shared) (gs : GenState), s.heap.NoLimit → s.heap.IsGen a g → s.gens[g]? = some gs → AllBare s.gens →
      gs.Goes (model P w) A.in1.in1 (GRx Xg [(a, genObj g nm qn)] true Q) (GYx Xg [(a, genObj g nm qn)] true Q) n (.send .none) (s.setGen g .running) →
      codeAny (model P w) A (.builtin "any.loop" ⟨[.ref a], []⟩) R s := by
  intro n
  induction n with
  | zero =>
    intro s gs hl hg hgs hb hgo
    refine codeAny_builtin F.entry_any_loop ?_
    rw [Around.under_plainId F.plain_any_loop _]
    show wpAny _ A.in1 (pyNext (.ref a) >>= _) _ _ s
    refine wpAny_bind (next_gx (α := Unit) (A := A.in1) hh hroom hP hw hl hg hgs hb hgo (fun b σ' H' s' gs' I e q1 q2 => ?_) (fun σ' H' s' I q => ?_))
    · cases b with
      | false =>
        obtain ⟨m, hm, _⟩ := q2 rfl
        omega
      | true =>
        refine wpAny_bind (wpAny_holding (wpAny_truthy_bool ?_))
        refine wpAny_bind (wpAny_letGo ?_)
        simp only [if_true]
        exact wpAny_bind (wpAny_rule (wpAny_pure (hR true σ' H' s' I (q1 rfl))))
    · exact wpAny_bind (wpAny_rule (wpAny_pure (hR false σ' H' s' I q)))
  | succ n ih =>
    intro s gs hl hg hgs hb hgo
    refine codeAny_builtin F.entry_any_loop ?_
    rw [Around.under_plainId F.plain_any_loop _]
    show wpAny _ A.in1 (pyNext (.ref a) >>= _) _ _ s
    refine wpAny_bind (next_gx (α := Unit) (A := A.in1) hh hroom hP hw hl hg hgs hb hgo (fun b σ' H' s' gs' I e q1 q2 => ?_) (fun σ' H' s' I q => ?_))
    · refine wpAny_bind (wpAny_holding (wpAny_truthy_bool ?_))
      refine wpAny_bind (wpAny_letGo ?_)
      cases b with
      | false =>
        obtain ⟨m, hm, hgo'⟩ := q2 rfl
        obtain rfl : n = m := Nat.succ.inj hm
        simp only [Bool.false_eq_true, if_false]
        exact wpAny_pure ⟨plainId_quiet F.plain_any_loop _, ih s' gs' I.nolimit (isGen_of (I.pin (a, genObj g nm qn) (List.mem_append_right _ List.mem_cons_self)).1) e I.bare hgo'⟩
      | true =>
        simp only [if_true]
        exact wpAny_bind (wpAny_rule (wpAny_pure (hR true σ' H' s' I (q1 rfl))))
    · exact wpAny_bind (wpAny_rule (wpAny_pure (hR false σ' H' s' I q)))
theorem loop_all (hh : A.handled = none) (hroom : A.depth < recursionLimit) (hP : Xg.prog = P) (hw : Xg.w = w)
    (hR : ∀ (b : Bool) (σ' : L2.St) (H' : Hp) (s' : Shared), Inv Xg [(a, genObj g nm qn)] σ' H' s' → Q (.bl b) H' → R (.ok (.ret (.bool b))) s') :
    ∀ (n : Nat) (s : Shared) (gs : GenState), s.heap.NoLimit → s.heap.IsGen a g → s.gens[g]? = some gs → AllBare s.gens →
      gs.Goes (model P w) A.in1.in1 (GRx Xg [(a, genObj g nm qn)] false Q) (GYx Xg [(a, genObj g nm qn)] false Q) n (.send .none) (s.setGen g .running) →
      codeAny (model P w) A (.builtin "all.loop" ⟨[.ref a], []⟩) R s := by
  intro n
  induction n with
  | zero =>
    intro s gs hl hg hgs hb hgo
    refine codeAny_builtin F.entry_all_loop ?_
    rw [Around.under_plainId F.plain_all_loop _]
    show wpAny _ A.in1 (pyNext (.ref a) >>= _) _ _ s
    refine wpAny_bind (next_gx (α := Unit) (A := A.in1) hh hroom hP hw hl hg hgs hb hgo (fun b σ' H' s' gs' I e q1 q2 => ?_) (fun σ' H' s' I q => ?_))
    · cases b with
      | true =>
        obtain ⟨m, hm, _⟩ := q2 rfl
        omega
      | false =>
        refine wpAny_bind (wpAny_holding (wpAny_truthy_bool ?_))
        refine wpAny_bind (wpAny_letGo ?_)
        simp only [Bool.false_eq_true, if_false]
        exact wpAny_bind (wpAny_rule (wpAny_pure (hR false σ' H' s' I (q1 rfl))))
    · exact wpAny_bind (wpAny_rule (wpAny_pure (hR true σ' H' s' I q)))
  | succ n ih =>
    intro s gs hl hg hgs hb hgo
    refine codeAny_builtin F.entry_all_loop ?_
    rw [Around.under_plainId F.plain_all_loop _]
    show wpAny _ A.in1 (pyNext (.ref a) >>= _) _ _ s
    refine wpAny_bind (next_gx (α := Unit) (A := A.in1) hh hroom hP hw hl hg hgs hb hgo (fun b σ' H' s' gs' I e q1 q2 => ?_) (fun σ' H' s' I q => ?_))
    · refine wpAny_bind (wpAny_holding (wpAny_truthy_bool ?_))
      refine wpAny_bind (wpAny_letGo ?_)
      cases b with
      | true =>
        obtain ⟨m, hm, hgo'⟩ := q2 rfl
        obtain rfl : n = m := Nat.succ.inj hm
        simp only [if_true]
        exact wpAny_pure ⟨plainId_quiet F.plain_all_loop _, ih s' gs' I.nolimit (isGen_of (I.pin (a, genObj g nm qn) (List.mem_append_right _ List.mem_cons_self)).1) e I.bare hgo'⟩
      | false =>
        simp only [Bool.false_eq_true, if_false]
        exact wpAny_bind (wpAny_rule (wpAny_pure (hR false σ' H' s' I (q1 rfl))))
    · exact wpAny_bind (wpAny_rule (wpAny_pure (hR true σ' H' s' I q)))
end
end GX
end
/-! ## Lx -/
section
set_option Elab.async false
set_option linter.all false
set_option maxRecDepth 100000
set_option maxHeartbeats 4000000
namespace LX
open PySem PySem.Spec PyProof.Rows L2 LamX
/-- all but the tables stay, tables stay tables -/
def ExtT (H H' : Hp) : Prop := ExtN H H' ∧ ∀ b ps, H b = some (.tbl ps) → ∃ ps', H' b = some (.tbl ps')
theorem ExtT.refl (H : Hp) : ExtT H H := ⟨ExtN.refl H, fun _ ps e => ⟨ps, e⟩⟩
theorem ExtT.trans {H H1 H2 : Hp} (a : ExtT H H1) (b : ExtT H1 H2) : ExtT H H2 := ⟨a.1.trans b.1, fun c ps e => let ⟨_, e1⟩ := a.2 c ps e; b.2 c _ e1⟩
section
variable {X : Cx} {pins : List (Addr × Obj)} {σ : L2.St} {H : Hp} {s : Shared}
/-- a code object c of the name q comes into the table at P -/
theorem grown {T : List (Addr × Str)} {P c : Addr} {q : Str} {ps : Array Value} {pos : Pos} (hP : H P = some (.tbl ps)) (nC : H c = none) (ht : TriplesOk ps.toList) (hT : Tabs T H) (hm : (P, q) ∈ T) (hu : ∀ p ∈ T, p.1 = P → p.2 = q) :
    ExtT H (upd (upd H P (.tbl (ps ++ #[rawInt pos.line, rawInt pos.col, .ref c]))) c (CodeO c q)) ∧ Tabs T (upd (upd H P (.tbl (ps ++ #[rawInt pos.line, rawInt pos.col, .ref c]))) c (CodeO c q)) := by
  have nPc : P ≠ c := ne_of_none hP nC
  have hE : ExtN H (upd (upd H P (.tbl (ps ++ #[rawInt pos.line, rawInt pos.col, .ref c]))) c (CodeO c q)) := fun b o e n => by
    rw [upd_ne (ne_of_none e nC), upd_ne (fun z => n ps (Option.some.inj (e.symm.trans (by rw [z]; exact hP))))]
    exact e
  have eL : (ps ++ #[rawInt pos.line, rawInt pos.col, .ref c]).toList = ps.toList ++ [rawInt pos.line, rawInt pos.col, .ref c] := by simp
  refine ⟨⟨hE, fun b qs e => ?_⟩, fun p hp => ?_⟩
  · rw [upd_ne (ne_of_none e nC)]
    by_cases hb : b = P
    · exact ⟨_, by rw [hb, upd_same]⟩
    · exact ⟨qs, by rw [upd_ne hb]; exact e⟩
  · by_cases hb : p.1 = P
    · rw [hu p hp hb, hb]
      obtain ⟨ps0, a1, a2, a3⟩ := hT _ hm
      have e0 : ps0 = ps := by
        have a1 : H P = some (.tbl ps0) := a1
        rw [hP] at a1
        cases a1
        rfl
      subst e0
      refine ⟨_, by rw [upd_ne nPc, upd_same], by rw [eL]; exact PySem.TriplesOk_snoc _ _ _ _ ht, fun p' cv hcv => ?_⟩
      rw [eL] at hcv
      rcases among_app _ ht hcv with z | z
      · obtain ⟨c0, e1, e2⟩ := a3 p' cv z
        exact ⟨c0, e1, hE _ _ e2 codeO_ne⟩
      · exact ⟨c, z, upd_same⟩
    · obtain ⟨ps', a1, a2, a3⟩ := hT p hp
      refine ⟨ps', by rw [upd_ne (ne_of_none a1 nC), upd_ne hb]; exact a1, a2, fun p' cv hcv => ?_⟩
      obtain ⟨c0, e1, e2⟩ := a3 p' cv hcv
      exact ⟨c0, e1, hE _ _ e2 codeO_ne⟩
theorem lam_make3 {T : List (Addr × Str)} {c P : Addr} {params : Arguments} {body : Expr} {scope : Scope} {pos : Pos} {E : Value → Shared → Prop} {Q : Value → Shared → Prop} (I : Inv X pins σ H s) (TB : TabB X.base X.mg c P) (hcode : X.env.code = .ref c)
    (hm : (P, X.env.qual ++ "<lambda>") ∈ T) (hu : ∀ p ∈ T, p.1 = P → p.2 = X.env.qual ++ "<lambda>") (hT : Tabs T H) (hdef : defaultsOf params X.env = ([], [])) (hfree : ∀ y ∈ scope.names, y.2 = .free → ∃ c, X.env.cells.lookup y.1 = some c)
    (h : ∀ (f c' : Addr) (pm ctv : Value) (H1 : Hp) (s' : Shared), Inv X pins σ H1 s' → ExtT H H1 → Tabs T H1 →
      s'.heap.get? f = some (PySem.W.kla_obj "<lambda>" (X.env.qual ++ "<lambda>") params body scope (cloFrom X.env.cells scope.names []) pm c' ctv) → H1 f = none → f ∉ frs X.stack → H1 c' = some (CodeO c' (X.env.qual ++ "<lambda>")) → Q (.ref f) s') :
    wpAny (model X.prog X.w) X.A (eval (.Lambda params body scope pos) X.env) Q E s := by
  obtain ⟨ps, hP, ht, ha⟩ := hT _ hm
  refine PySem.W.kla_eval hdef ?_
  have bP : s.heap.BuiltinsAt X.mg P := TB.bm.keeps I.bk
  have hP' : s.heap.get? P = some { cls := .none, data := .fields ps } := I.hok P _ hP
  have nofr : ∀ f, s.heap.objs.size ≤ f → f ∉ frs X.stack := fun f hf z => by
    rcases List.mem_cons.mp (I.stkSub _ z) with e | e
    · have h1 := I.lt
      rw [← e] at h1
      exact Nat.lt_irrefl _ (Nat.lt_of_lt_of_le h1 hf)
    · exact I.nofs hf e
  cases hc : codeAmong pos ps.toList with
  | none =>
    refine PySem.W.kla_makeFunction (mg := X.mg) (c := c) (P := P) (ps := ps) (closure_ok hfree) I.ok.glob (I.mod.glob.keeps I.bk) hcode (TB.code.keeps I.bk) hP' ht hc TB.gP bP fun c' ctv h' tk hx hge hlt hrec htb => ?_
    obtain ⟨c2, oc, vs, t, e2, hoc, hd, hv⟩ := hrec
    cases e2
    have hsz : s.heap.objs.size ≤ h'.objs.size := Nat.le_trans hge (Nat.le_of_lt hlt)
    have nC : H c' = none := I.hok.fresh hge
    have I1 := inv_table (t' := tk) (more := #[rawInt pos.line, rawInt pos.col, .ref c']) (h' := h'.push (PySem.W.kla_obj "<lambda>" (X.env.qual ++ "<lambda>") params body scope (cloFrom X.env.cells scope.names []) ((X.mg "__name__").getD .none) c' ctv)) I hP
      (fun b o hb e => Heap.get?_push_of_some _ (hx b o hb e)) (Heap.get?_push_of_some _ htb) hge ⟨oc, vs, t, Heap.get?_push_of_some _ hoc, hd, hv⟩
    obtain ⟨hE, hT1⟩ := grown (pos := pos) hP nC ht hT hm hu
    refine h h'.objs.size c' ((X.mg "__name__").getD .none) ctv _ _ I1 hE hT1 (Heap.get?_push_size _ rfl) ?_ (nofr _ hsz) upd_same
    have n1 : h'.objs.size ≠ c' := Nat.ne_of_gt hlt
    have n2 : h'.objs.size ≠ P := Nat.ne_of_gt (Nat.lt_of_lt_of_le (Heap.lt_size hP') hsz)
    rw [upd_ne n1, upd_ne n2]
    exact I.hok.fresh hsz
  | some cv =>
    obtain ⟨c', e, hco⟩ := ha pos cv hc
    subst e
    refine PySem.W.kla_makeFunctionHit (mg := X.mg) (c := c) (P := P) (ps := ps) (closure_ok hfree) I.ok.glob (I.mod.glob.keeps I.bk) hcode (TB.code.keeps I.bk) hP' ht hc bP fun ctv h' tk hx hsz => ?_
    have I1 : Inv X pins σ H { s with heap := h'.push (PySem.W.kla_obj "<lambda>" (X.env.qual ++ "<lambda>") params body scope (cloFrom X.env.cells scope.names []) ((X.mg "__name__").getD .none) c' ctv), toks := tk } := I.kept fun b o e => Heap.get?_push_of_some _ (hx b o e)
    exact h h'.objs.size c' ((X.mg "__name__").getD .none) ctv H _ I1 (ExtT.refl H) hT (Heap.get?_push_size _ rfl) (I.hok.fresh hsz) (nofr _ hsz) hco
/-- a lambda handed to a def: its reading -/
def tLam3 (T : List (Addr × Str)) (TT : (XK → Hp → VK → Prop) → Hp → VK → Prop) (t : XK → TE) : TE := fun σ H Q => Tabs T H ∧ ∀ H1, ExtT H H1 → Tabs T H1 → TT (fun E H' Q' => t E σ H' Q') H1 Q
theorem pe_lamcall3 {T : List (Addr × Str)} {TT : (XK → Hp → VK → Prop) → Hp → VK → Prop} {x a : Str} {g c P : Addr} {k : Nat} {pg : Arguments} {bg : List Stmt} {sg : Scope} {dV kV doc pm cdv ct oc : Value} {an od : Option Addr} {osl : Array (Option Value)} {Ng : List Str}
    {params : Arguments} {body : Expr} {scope : Scope} {t : XK → TE} {p lpos pos : Pos} (hg : Gl X x) (hm : X.mg x = some (.ref g)) (hk : PySem.W.keepIn X.K (.ref g) = true)
    (lk : X.K.lookup g = some ⟨oc, od, .func (PySem.W.fnOf x x pg bg sg dV kV doc pm an cdv ct), osl⟩) (hcg : PySem.W.codeIn X.K cdv x = true) (hb : L2.Binds X.K (PySem.W.fnOf x x pg bg sg dV kV doc pm an cdv ct) [a] []) (Sg : FnScope Ng [a] sg) (hNg : Ng[0]? = some a) (hva : Vis sg a)
    (hG : GivesTo X Ng x sg g cdv bg a (X.env.qual ++ "<lambda>") TT)
    (TB : TabB X.base X.mg c P) (hcode : X.env.code = .ref c) (hmT : (P, X.env.qual ++ "<lambda>") ∈ T) (hu : ∀ p ∈ T, p.1 = P → p.2 = X.env.qual ++ "<lambda>") (hr : Room (k + 2) X.A) (L : LamS X.env.scope scope) (hdef : defaultsOf params X.env = ([], []))
    (hbind : ∀ (q : Str) (cl : List (Str × Addr)) (pm cv ctv : Value), bindArgs (PySem.W.kla_fn "<lambda>" q params body scope cl pm cv ctv) ⟨[], []⟩ = pure [])
    (hbody : ∀ (A : Around) (outer : List Env) (s : Shared) (H : Hp) (E : XK) (f c' : Addr), Room k (A.deeper (lamEnv X scope s.heap.objs.size f c')) → PE (lamCx X A outer s H E scope f c') body (t E))
    (hdb : (x == ("__debug__" : Str)) = false := by decide) (hd : (a == ("__debug__" : Str)) = false := by decide) (hcd : (a == ("__classdict__" : Str)) = false := by decide) :
    PE X (.Call (.Name x p) [.Lambda params body scope lpos] [] pos) (tLam3 T TT t) := by
  refine ⟨fun pins s σ H Q I h => ?_⟩
  obtain ⟨hT, h⟩ := h
  refine wpAny_Call_Name_kw (ld_glob I hg hm ?_ hdb)
  refine PySem.W.callWith_K (h₀ := X.base) I.ok.mod.kin hk ?_ (by rfl) (by rfl)
  show wpAny _ _ (spliced ((false, eval (.Lambda params body scope lpos) X.env) :: backTo pos (starEach [] X.env))) _ _ s
  refine Calls.spliced_cons (lam_make3 I TB hcode hmT hu hT hdef (L.has I.ok) fun f c' pm' ctv H1 s' I1 eN T1 hf hfn hfr hco => ?_)
  refine Calls.spliced_nil ⟨I1.kIn, ?_⟩
  have rc : codeAny (model X.prog X.w) X.A (.call (.ref g) ⟨[.ref f], []⟩) (CR C8.CX0 X.stack X.prog X.w H1 s' Q C8.E0) s' := by
    refine run_ofS (N := Ng) (ps := [a]) (us := [.ref f]) (vs := [.ref f]) lk hcg Sg hr I1.env0 (hb s' [.ref f] I1.kIn rfl) (.cons rfl .nil) rfl fun hr' => ?_
    obtain ⟨t', ht', hq'⟩ := hG f c' s' H1 Q (fun E H' Q' => t E σ H' Q') (fun W pn xe E p1 p2 tk hW => pe_act (i := 0) I1 L hf hfn hfr (hbind _ _ _ _ _) tk hW hr' (fun A outer s H hr2 => hbody A outer s H E f c' hr2) hNg hva hd hcd) hco (h H1 eN T1)
    exact ⟨t', ht'.nox, hq'⟩
  refine wpAny_call (codeAny_mono rc fun r s2 hq => ?_)
  cases r with
  | error e => exact (show False from hq).elim
  | ok fl =>
    cases fl with
    | ret u => exact I1.after hq
    | next => exact False.elim hq
    | brk => exact False.elim hq
    | cont => exact False.elim hq
end
end LX
end
/-! ## Gx4 -/
section
set_option Elab.async false
set_option linter.all false
set_option maxRecDepth 100000
set_option maxHeartbeats 4000000
namespace GX
open PySem PySem.Spec PyProof.Rows L2 GenW
/-- any (sv = true), all (sv = false) of a generator expression over what wi walks; the def's table at P may grow -/
def tGex (sv : Bool) (T : List (Addr × Str)) (wi : TI) (j : Nat) (te : TE) : TE := fun σ H Q => wi σ H fun J H1 => LamX.Tabs T H1 ∧ ∀ H2, LX.ExtT H1 H2 → LamX.Tabs T H2 → ∃ W : Nat → Nat → Hp → Prop, (∃ m, W 0 m H2) ∧ GWalk sv te j σ J Q W
section
variable {X : Cx} {pins : List (Addr × Obj)} {σ : L2.St} {H : Hp} {s : Shared}
/-- the generator stands ready: what the consumer needs -/
def Ready (X : Cx) (pins : List (Addr × Obj)) (σ : L2.St) (sv : Bool) (Q : VK) (a : Addr) (s5 : Shared) : Prop :=
  ∃ (Xg : Cx) (g n : Nat) (nm qn : Value) (gs : GenState), Xg.prog = X.prog ∧ Xg.w = X.w ∧ s5.heap.NoLimit ∧ s5.heap.IsGen a g ∧ s5.gens[g]? = some gs ∧ AllBare s5.gens ∧
    gs.Goes (model X.prog X.w) X.A.in1.in1 (GRx Xg [(a, genObj g nm qn)] sv Q) (GYx Xg [(a, genObj g nm qn)] sv Q) n (.send .none) (s5.setGen g .running) ∧
    ∀ (b : Bool) (σ' : L2.St) (H' : Hp) (s' : Shared), Inv Xg [(a, genObj g nm qn)] σ' H' s' → Q (.bl b) H' → EP X pins σ Q (.bool b) s'
theorem gen_made {T : List (Addr × Str)} {c P : Addr} {elt iter : Expr} {x : Str} {px gpos : Pos} {scope : Scope} {wi : TI} {te : TE} {k j : Nat} {sv : Bool} {Q : VK} {Q' : Value → Shared → Prop}
    (hr : Room (k + 3) X.A) (TB : LamX.TabB X.base X.mg c P) (hcode : X.env.code = .ref c) (hmT : (P, X.env.qual ++ "<genexpr>") ∈ T) (hu : ∀ p ∈ T, p.1 = P → p.2 = X.env.qual ++ "<genexpr>") (G : GexS X.N X.env.scope scope x j) (hi : PI X (.Name x px) iter wi)
    (hel : ∀ (s : Shared) (H : Hp) (C : Addr) (code : Value) (fp : List Addr), Room k (X.A.in1.in1.deeper (gEnv X scope C code)) → PE (genCx X s H scope C code fp) elt te)
    (hs : ∀ v, genFold iter X.env v = pure v) (I : Inv X pins σ H s) (h : tGex sv T wi j te σ H Q)
    (hQ : ∀ a s5, Ready X pins σ sv Q a s5 → Q' (.ref a) s5) :
    wpAny (model X.prog X.w) X.A (eval (.GeneratorExp elt [⟨.Name x px, iter, [], 0⟩] scope gpos) X.env) Q' X.xe s := by
  refine wpAny_GeneratorExp_make G.co (closure_ok (G.has I.ok)) G.cell G.dot G.kind (by have := hr.dp; omega) ?_ hs
  refine thn (hi.run pins s σ H _ I h) fun xv s1 h1 => thn h1 fun itv s2 h2 => ?_
  obtain ⟨it, fp, tn, J, H2, e, I2, Tn, st2, f2, hT, hgo⟩ := h2
  obtain ⟨ps, hP, ht, hnm⟩ := hT _ hmT
  subst e
  have hPs : s2.heap.get? P = some { cls := .none, data := .fields ps } := I2.hok P _ hP
  have hPlt : P < s2.heap.objs.size := Heap.lt_size hPs
  have cd : PySem.W.CodeHd s2.heap c P := TB.code.keeps fun b u e => I2.bk b u e
  have lim2 : s2.heap.NoLimit := I2.nolimit
  have nfp : ∀ b ∈ fp, b ≠ P := fun b hb z => by
    have q := (f2 b hb).1
    rw [z, hP] at q
    cases q
  have cont : ∀ (code : Value) (h3 : Heap) (tk : Nat) (H3 : Hp), Heap.ExtBut P s2.heap h3 → s2.heap.objs.size ≤ h3.objs.size → L2.Inv X pins σ H3 { s2 with heap := h3, toks := tk } → LX.ExtT H2 H3 → LamX.Tabs T H3 → (∀ b ∈ fp, H3 b = none) →
      wpAny (model X.prog X.w) X.A (builtinsFor X.env.globals X.env.builtins) (fun bi s₄ =>
        ∀ h', h'.Ns s₄.heap.objs.size (fun y => if y = ".0" then some (.ref it) else none) → Heap.SameBut s₄.heap.objs.size (s₄.heap.push { cls := .type "frame", data := .dict #[] }) h' →
          Q' (.ref h'.objs.size) { s₄ with
            gens := s₄.gens.push (.fresh (.compStart (.GeneratorExp elt [⟨.Name x px, iter, [], 0⟩] scope gpos) 0 (.ref it) .none (genEnv scope (cloFrom X.env.cells scope.names []) s₄.heap.objs.size code bi X.env))),
            toks := s₄.toks + 1 + 1 + 1,
            heap := h'.push { cls := .type "generator", data := .fields #[.int s₄.gens.size 0, .str "<genexpr>" (s₄.toks + 1), .str (X.env.qual ++ "<genexpr>") (s₄.toks + 1 + 1)] } }) X.xe { s2 with heap := h3, toks := tk } := by
    intro code h3 tk H3 hx hsz I3 eN T3 fr3
    obtain ⟨bm, ob, e1, e2, e3, e4, e5, e6, e7, e8⟩ := TB.bm
    have hcP : cStatics ≠ P := fun e => by
      obtain ⟨_, hns, _⟩ := lim2
      obtain ⟨o', es, ep, ho, hd, _⟩ := hns
      rw [e, hPs] at ho
      cases ho
      cases hd
    have keep3 : ∀ b u, b ≠ P → s2.heap.get? b = some u → h3.get? b = some u := fun b u hb e => hx b u hb e
    refine wpAny_builtinsFor (m := X.mg) (by rw [I2.ok.glob]; exact (I2.mod.glob.keeps I2.bk).extBut hx TB.gP) e1 e2 (keep3 _ _ e4 (I2.bk _ _ e5)) e6 e7 e8 ?_
    have st3 : tn 0 h3 := Tn.keep _ _ _ st2 fun b hb o e => keep3 b o (nfp b hb) e
    have f3 : ∀ b ∈ fp, FpOk X pins H3 b := fun b hb => ⟨fr3 b hb, (f2 b hb).2⟩
    intro h' hn' hs'
    have sz' : h'.objs.size = h3.objs.size + 1 := by rw [hs'.1, Heap.size_push]
    have keep' : ∀ b o, h3.get? b = some o → h'.get? b = some o := fun b o e => hs'.extBut b o (Nat.ne_of_lt (Heap.lt_size e)) (Heap.get?_push_of_some _ e)
    refine hQ _ _ ?_
    generalize hgo5 : (Obj.mk (.type "generator") none (.fields #[.int s2.gens.size 0, .str "<genexpr>" (tk + 1), .str (X.env.qual ++ "<genexpr>") (tk + 1 + 1)]) #[]) = go5
    have hobj : go5 = genObj s2.gens.size (.str "<genexpr>" (tk + 1)) (.str (X.env.qual ++ "<genexpr>") (tk + 1 + 1)) := hgo5.symm
    have keep5 : ∀ b o, h3.get? b = some o → (h'.push go5).get? b = some o := fun b o e => Heap.get?_push_of_some _ (keep' b o e)
    have hfo : ∀ b ∈ fp, ∃ o, h3.get? b = some o ∧ ∀ v, o.data ≠ .cell v := fun b hb => Tn.obj _ _ st3 b hb
    have bare5 : AllBare (s2.gens.push (.fresh (.compStart (.GeneratorExp elt [⟨.Name x px, iter, [], 0⟩] scope gpos) 0 (.ref it) .none (gEnv X scope h3.objs.size code)))) := I2.bare.push rfl
    have J0 := gen_inv (s := { s2 with heap := h3, gens := s2.gens, drawn := s2.drawn, toks := tk }) (C := h3.objs.size) (code := code) (h := h'.push go5) (g := s2.gens.push (.fresh (.compStart (.GeneratorExp elt [⟨.Name x px, iter, [], 0⟩] scope gpos) 0 (.ref it) .none (gEnv X scope h3.objs.size code))))
      (d := s2.drawn) (tk := tk + 1 + 1 + 1) (fp := fp) I3 G hr.hd keep5 (Nat.le_refl _) (hn'.push _) bare5 f3 (fun b hb => let ⟨o, e, _⟩ := hfo b hb; ⟨o, e⟩)
    have ha5 : (h'.push go5).get? h'.objs.size = some go5 := Heap.get?_push_size _ (by rw [hobj]; rfl)
    have nA : ∀ b, b < h3.objs.size → b ≠ h'.objs.size := fun b hb z => by
      rw [z, sz'] at hb
      omega
    have nstk : h'.objs.size ∉ frs X.stack := fun hm => by
      obtain ⟨_, o, ho, _⟩ := I3.stack.mem hm
      exact nA _ (Heap.lt_size ho) rfl
    have J : Inv (genCx X { s2 with heap := h3, gens := s2.gens, drawn := s2.drawn, toks := tk } H3 scope h3.objs.size code fp) [(h'.objs.size, genObj s2.gens.size (.str "<genexpr>" (tk + 1)) (.str (X.env.qual ++ "<genexpr>") (tk + 1 + 1)))] (σ.set j none) H3
        { s2 with heap := h'.push go5, gens := s2.gens.push (.fresh (.compStart (.GeneratorExp elt [⟨.Name x px, iter, [], 0⟩] scope gpos) 0 (.ref it) .none (gEnv X scope h3.objs.size code))), drawn := s2.drawn, toks := tk + 1 + 1 + 1 } :=
      J0.pins_of fun p hp => by
        rw [List.mem_singleton.mp hp]
        refine ⟨by rw [← hobj]; exact ha5, I3.hok.fresh (by rw [sz']; exact Nat.le_succ _), fun z => ?_, nstk, fun v z => by cases z⟩
        have z : h'.objs.size = h3.objs.size := z
        rw [sz'] at z
        omega
    obtain ⟨W, ⟨m0, w0⟩, hW⟩ := hgo H3 eN T3
    have hrk : Room k (X.A.in1.in1.deeper (gEnv X scope h3.objs.size code)) := ((hr.in1).in1).deeper _
    have stkSub : ∀ b ∈ fp, b ∉ frs X.stack := fun b hb hm => by
      rcases List.mem_cons.mp (I3.stkSub b hm) with q | q
      · exact (f3 b hb).2.1 q
      · exact (f3 b hb).2.2.1 q
    have gsz : (s2.gens.push (.fresh (.compStart (.GeneratorExp elt [⟨.Name x px, iter, [], 0⟩] scope gpos) 0 (.ref it) .none (gEnv X scope h3.objs.size code)))).size = s2.gens.size + 1 := Array.size_push ..
    refine ⟨genCx X { s2 with heap := h3, gens := s2.gens, drawn := s2.drawn, toks := tk } H3 scope h3.objs.size code fp, s2.gens.size, m0 + 1, .str "<genexpr>" (tk + 1), .str (X.env.qual ++ "<genexpr>") (tk + 1 + 1), _, rfl, rfl, J.nolimit, isGen_of (J.pin _ (List.mem_append_right _ List.mem_cons_self)).1, Array.getElem?_push_size .., bare5, ⟨rfl, ?_⟩, fun b σ' H' s' J' q => ?_⟩
    · refine seg_gx0 (sv := sv) (Q := Q) (σ := σ) (W := W) G Tn (hel _ _ _ _ _ hrk) (.inl G.loc) hW (fun b hb H' hn => ⟨hn, ?_, stkSub b hb, .inl hb, fun y cc ec => J.ok.exf b hb |>.2 y cc ec, fun p hp => ?_⟩) (m0 + 1) m0 _ _ (σ.set j none) _ (Nat.lt_succ_self _) w0 (inv_same J rfl rfl (allBare_setGen bare5 rfl)) (fun v => List.set_set ..) ?_ (fun b hb => (f3 b hb).1)
      · exact (J.ok.exf b hb).1
      · have hp : p ∈ [(h'.objs.size, genObj s2.gens.size (.str "<genexpr>" (tk + 1)) (.str (X.env.qual ++ "<genexpr>") (tk + 1 + 1)))] := hp
        rw [List.mem_singleton.mp hp]
        obtain ⟨o, e, _⟩ := hfo b hb
        exact fun z => nA b (Heap.lt_size e) z.symm
      · exact Tn.keep _ _ _ st3 fun b hb o e => keep5 b o e
    · refine ⟨.bl b, H', I3.call' (ch := fp) J'.os J'.base J'.hok J'.bare (fun b hb => ⟨(f3 b hb).2.2.2.1, (f3 b hb).2.1, (f3 b hb).2.2.2.2.1, (f3 b hb).2.2.2.2.2⟩), rfl, q⟩
  have nN : ∀ b, H2 b = none → b ≠ P := fun b e z => by
    rw [z, hP] at e
    cases e
  refine ⟨lim2, ?_⟩
  cases hf : codeAmong gpos ps.toList with
  | none =>
    refine wpAny_genexprCodeX hcode (cd.code hPs ht) (cd.tab hPs) hf fun c' h' tk hx hge hlt hco' hrec htab' _ => ?_
    obtain ⟨o1, vs, f1, tf, fl, tg, inF, tx, tt, op, _, _, _, _, _, _, _, _, _, htr, _⟩ := hco'
    obtain ⟨c2, oc, vs2, t2, e2, hoc, hdc, hvc⟩ := hrec
    cases e2
    have nC : H2 c' = none := I2.hok.fresh hge
    have nPc : P ≠ c' := ne_of_none hP nC
    have I3 := LamX.inv_table (t' := tk) (more := #[rawInt gpos.line, rawInt gpos.col, .ref c']) (h' := h') I2 hP hx htab'.2 hge ⟨oc, vs2, t2, hoc, hdc, hvc⟩
    obtain ⟨hE, hT1⟩ := LX.grown (pos := gpos) hP nC ht hT hmT hu
    refine cont _ h' tk _ hx (Nat.le_trans hge (Nat.le_of_lt hlt)) I3 hE hT1 (fun b hb => ?_)
    obtain ⟨ob, eb, _⟩ := Tn.obj _ _ st2 b hb
    have nbc : b ≠ c' := Nat.ne_of_lt (Nat.lt_of_lt_of_le (Heap.lt_size eb) hge)
    rw [upd_ne nbc, upd_ne (nfp b hb)]
    exact (f2 b hb).1
  | some cv =>
    refine wpAny_genexprCode_hit hcode (cd.code hPs ht) hf ?_
    exact cont cv s2.heap s2.toks H2 (Heap.ExtBut.refl _ _) (Nat.le_refl _) I2 (LX.ExtT.refl _) hT (fun b hb => (f2 b hb).1)
theorem pe_anyX {T : List (Addr × Str)} {c P : Addr} {elt iter : Expr} {x : Str} {px p pos gpos : Pos} {scope : Scope} {wi : TI} {te : TE} {k j : Nat}
    (hr : Room (k + 3) X.A) (hg : Gl X "any") (hm : X.mg "any" = none) (TB : LamX.TabB X.base X.mg c P) (hcode : X.env.code = .ref c) (hmT : (P, X.env.qual ++ "<genexpr>") ∈ T) (hu : ∀ p ∈ T, p.1 = P → p.2 = X.env.qual ++ "<genexpr>") (G : GexS X.N X.env.scope scope x j) (hi : PI X (.Name x px) iter wi)
    (hel : ∀ (s : Shared) (H : Hp) (C : Addr) (code : Value) (fp : List Addr), Room k (X.A.in1.in1.deeper (gEnv X scope C code)) → PE (genCx X s H scope C code fp) elt te)
    (hs : ∀ v, genFold iter X.env v = pure v := by intro _; rfl)
    (he : starEach [.GeneratorExp elt [⟨.Name x px, iter, [], 0⟩] scope gpos] X.env = (false, eval (.GeneratorExp elt [⟨.Name x px, iter, [], 0⟩] scope gpos) X.env) :: starEach [] X.env := by rfl) :
    PE X (.Call (.Name "any" p) [.GeneratorExp elt [⟨.Name x px, iter, [], 0⟩] scope gpos] [] pos) (tGex true T wi j te) := by
  refine ⟨fun pins s σ H Q I h => ?_⟩
  refine wpAny_Call_Name_kw (ld_blt I hg hm boot_any ?_)
  refine PyProof.Rows.callWith_builtin1 ?_ he (by rfl)
  rw [he]
  show wpAny _ _ (spliced ((false, eval (.GeneratorExp elt [⟨.Name x px, iter, [], 0⟩] scope gpos) X.env) :: backTo pos (starEach [] X.env))) _ _ s
  refine Calls.spliced_cons (gen_made hr TB hcode hmT hu G hi hel hs I h fun a s5 hR => ?_)
  obtain ⟨Xg, g, n, nm, qn, gs, e1, e2, hl, hgn, hgs, hb, hgo, hend⟩ := hR
  refine Calls.spliced_nil ?_
  refine call_function_tree F.kind_any F.plain_any F.entry_any (F.args_any1 _) ?_
  unfold Builtin.«any»
  refine wpAny_bind (m := oneArg "any" _) (wpAny_pure ?_)
  refine wpAny_bind (wpAny_pyIter_gen hgn ?_)
  exact wpAny_pure ⟨plainId_quiet F.plain_any_loop _, loop_any (A := X.A) hr.hd (by have := hr.dp; show X.A.depth < _; omega) e1 e2 (fun b σ' H' s' J q => hend b σ' H' s' J q) n s5 gs hl hgn hgs hb hgo⟩
theorem pe_allX {T : List (Addr × Str)} {c P : Addr} {elt iter : Expr} {x : Str} {px p pos gpos : Pos} {scope : Scope} {wi : TI} {te : TE} {k j : Nat}
    (hr : Room (k + 3) X.A) (hg : Gl X "all") (hm : X.mg "all" = none) (hbt : bootBuiltins "all" = some (.builtin "all")) (TB : LamX.TabB X.base X.mg c P) (hcode : X.env.code = .ref c) (hmT : (P, X.env.qual ++ "<genexpr>") ∈ T) (hu : ∀ p ∈ T, p.1 = P → p.2 = X.env.qual ++ "<genexpr>") (G : GexS X.N X.env.scope scope x j) (hi : PI X (.Name x px) iter wi)
    (hel : ∀ (s : Shared) (H : Hp) (C : Addr) (code : Value) (fp : List Addr), Room k (X.A.in1.in1.deeper (gEnv X scope C code)) → PE (genCx X s H scope C code fp) elt te)
    (hs : ∀ v, genFold iter X.env v = pure v := by intro _; rfl)
    (he : starEach [.GeneratorExp elt [⟨.Name x px, iter, [], 0⟩] scope gpos] X.env = (false, eval (.GeneratorExp elt [⟨.Name x px, iter, [], 0⟩] scope gpos) X.env) :: starEach [] X.env := by rfl) :
    PE X (.Call (.Name "all" p) [.GeneratorExp elt [⟨.Name x px, iter, [], 0⟩] scope gpos] [] pos) (tGex false T wi j te) := by
  refine ⟨fun pins s σ H Q I h => ?_⟩
  refine wpAny_Call_Name_kw (ld_blt I hg hm hbt ?_)
  refine PyProof.Rows.callWith_builtin1 ?_ he (by rfl)
  rw [he]
  show wpAny _ _ (spliced ((false, eval (.GeneratorExp elt [⟨.Name x px, iter, [], 0⟩] scope gpos) X.env) :: backTo pos (starEach [] X.env))) _ _ s
  refine Calls.spliced_cons (gen_made hr TB hcode hmT hu G hi hel hs I h fun a s5 hR => ?_)
  obtain ⟨Xg, g, n, nm, qn, gs, e1, e2, hl, hgn, hgs, hb, hgo, hend⟩ := hR
  refine Calls.spliced_nil ?_
  refine call_function_tree F.kind_all F.plain_all F.entry_all (F.args_all1 _) ?_
  unfold Builtin.«all»
  refine wpAny_bind (m := oneArg "all" _) (wpAny_pure ?_)
  refine wpAny_bind (wpAny_pyIter_gen hgn ?_)
  exact wpAny_pure ⟨plainId_quiet F.plain_all_loop _, loop_all (A := X.A) hr.hd (by have := hr.dp; show X.A.depth < _; omega) e1 e2 (fun b σ' H' s' J q => hend b σ' H' s' J q) n s5 gs hl hgn hgs hb hgo⟩
end
end GX
end
/-! ## Sx -/
section
set_option Elab.async false
set_option linter.all false
set_option maxRecDepth 100000
set_option maxHeartbeats 4000000
namespace SX3
open PySem PySem.Spec PyProof.Rows L2
section
variable {prog : Program} {w : World} {A : Around} {s : Shared} {f c' : Addr} {q : Str} {params : Arguments} {body : Expr} {scope : Scope} {cl : List (Str × Addr)} {pm ctv v : Value} {x : Str}
/-- a lambda of one parameter is called -/
theorem lam_call1 {Pq : Value → Shared → Prop}
    (hroom : A.depth < recursionLimit) (hlim : s.heap.NoLimit)
    (hf : s.heap.get? f = some (PySem.W.kla_obj "<lambda>" q params body scope cl pm c' ctv)) (hcd : s.heap.CodeRec (.ref c') q)
    (hbind : bindArgs (PySem.W.kla_fn "<lambda>" q params body scope cl pm (.ref c') ctv) ⟨[v], []⟩ = pure [(x, v)])
    (hloc : scope.names.lookup x = some .local) (hcell : ∀ y ∈ scope.names, y.2 ≠ .cell) (hco : scope.isCoroutine = false) (hgen : scope.isGenerator = false) (hk : scope.kind = .function)
    (h : ∀ h₁ tk, h₁.Ns s.heap.objs.size (fun y => ([(x, v)] : List (Str × Value)).reverse.lookup y) → (∀ b o, s.heap.get? b = some o → h₁.get? b = some o) →
      wpAny (model prog w) (A.deeper (PySem.W.envX q scope s.heap.objs.size f (.ref c') cl)) (eval body (PySem.W.envX q scope s.heap.objs.size f (.ref c') cl)) Pq (fun _ _ => False) { s with heap := h₁, toks := tk }) :
    wpAny (model prog w) A (call (.ref f) [v]) Pq (fun _ _ => False) s := by
  refine wpAny_call (PySem.W.kla_callFunE hroom hf rfl hco hgen rfl hcd ?_)
  rw [hbind]
  refine wpAny_pure (wpAny_newFunctionEnv hcell (fun y hy => ?_) (fun h₁ hns hsb => ⟨hlim.fresh _ hsb, ?_⟩) hk)
  · rw [List.mem_singleton.mp hy]
    exact hloc
  · show codeAny _ _ (.expr body (PySem.W.envX q scope s.heap.objs.size f (.ref c') cl)) _ _
    exact PySem.W.kla_codeExpr (wpAny_mono (h _ _ hns fun b o e => hsb.extBut b o (Nat.ne_of_lt (Heap.lt_size e)) (Heap.get?_push_of_some _ e)) (fun y s' hy => hy) fun _ _ z => z.elim)
theorem name_free {env : Env} {E : Value → Shared → Prop} {n : Str} {c : Addr} {u : Value} {pos : Pos} {Q : Value → Shared → Prop} (hk : env.scope.kind = .function) (hl : env.kindOf n = some .free) (hc : env.cells.lookup n = some c) (hv : s.heap.IsCell c (some u)) (h : Q u s)
    (hd : (n == ("__debug__" : Str)) = false := by decide) (hcd : (n == ("__classdict__" : Str)) = false := by decide) : wpAny (model prog w) A (eval (.Name n pos) env) Q E s :=
  wpAny_Name (wpAny_loadName_free hk hl hc hv h hcd) hd
theorem name_loc {env : Env} {E : Value → Shared → Prop} {n : Str} {m : Str → Option Value} {u : Value} {pos : Pos} {Q : Value → Shared → Prop} (hk : env.scope.kind = .function) (hl : env.kindOf n = some .local) (hn : s.heap.Ns env.locals m) (hm : m n = some u) (h : Q u s)
    (hd : (n == ("__debug__" : Str)) = false := by decide) : wpAny (model prog w) A (eval (.Name n pos) env) Q E s :=
  wpAny_Name (wpAny_loadName_local hk hl hn hm h) hd
/-- o.index(x), o a list that is captured, x the parameter -/
theorem eval_index {env : Env} {E : Value → Shared → Prop} {n : Str} {p1 p2 p3 p4 : Pos} {c o : Addr} {m : Str → Option Value} {ys : List V} {its : List Value} {nz : Nat} {y z : V} {uy : Value} {j : Nat} {Q : Value → Shared → Prop}
    (hk : env.scope.kind = .function) (hln : env.kindOf n = some .free) (hc : env.cells.lookup n = some c) (hv : s.heap.IsCell c (some (.ref o)))
    (hlx : env.kindOf x = some .local) (hn : s.heap.Ns env.locals m) (hm : m x = some uy)
    (ho : s.heap.get? o = some { cls := .type "list", data := .seq its.toArray nz }) (rv : Vals ys its) (ry : RelV y uy) (fy : flatV y = true) (fys : ys.all flatV = true) (hlen : ys.length ≤ sizeLine)
    (hz : ys[j]? = some z) (hzj : eqV z y = true) (hno : ∀ (m : Nat) (z' : V), m < j → ys[m]? = some z' → eqV z' y = false)
    (h : Q (.int j s.toks) { s with toks := s.toks + 1 })
    (hdn : (n == ("__debug__" : Str)) = false) (hcn : (n == ("__classdict__" : Str)) = false) (hdx : (x == ("__debug__" : Str)) = false)
    (hbase : attributeBase (.Name n p1) "index" env (eval (.Name n p1) env) = eval (.Name n p1) env)
    (hline : (p2.endLine == p4.line) = true) :
    wpAny (model prog w) A (eval (.Call (.Attribute (.Name n p1) "index" p2) [.Name x p3] [] p4) env) Q E s := by
  refine wpAny_Call_method_late hbase (by rfl) hline rfl (name_free hk hln hc hv ?_ hdn hcn)
  refine ⟨"list", _, PySem.F.plainAttrs_list, PySem.F.slot_list_index, PySem.F.type_list_index, ⟨_, ho, rfl⟩, (fun a e => ?_), ?_⟩
  · cases e; exact ⟨_, ho, rfl⟩
  have hs : starEach [.Name x p3] env = (false, eval (.Name x p3) env) :: starEach [] env := by rfl
  rw [hs]
  refine Calls.callWith_builtin (by rfl) (Calls.evalArgs_plain ?_)
  show wpAny _ _ (spliced ((false, eval (.Name x p3) env) :: backTo p4 (starEach [] env))) _ _ s
  refine Calls.spliced_cons (name_loc hk hlx hn hm ?_ hdx)
  refine Calls.spliced_nil ?_
  obtain ⟨u, hu, ru⟩ := rv.get hz
  obtain ⟨hjl, hje⟩ := List.getElem?_eq_some_iff.mp hu
  have hvl := rv.length
  have hj : j < its.toArray.size := by simpa using hjl
  have hsl := sizeLine_eq
  refine call_meets PySem.F.slot_list_index ⟨_, ho, rfl⟩ PySem.F.entry_list_index (PySem.F.args_list_index_2 _ _)
    (SeqAt.list_indexAt o its.toArray nz none #[] uy (eqU y) j hj (by omega) ?_ ?_) ⟨ho, fun u' hu' => mem_eqAt ry fy rv fys u' (by simpa using hu'), h⟩
  · have e1 : its.toArray[j] = u := by simpa using hje
    rw [e1, eqU_of ru (flat_at fys hz)]
    exact hzj
  · intro m' hm' hmj
    have hml : m' < its.length := by simpa using hm'
    have hmy : m' < ys.length := by omega
    have hy' : ys[m']? = some ys[m'] := List.getElem?_eq_getElem hmy
    obtain ⟨u2, hu2, ru2⟩ := rv.get hy'
    obtain ⟨_, hme⟩ := List.getElem?_eq_some_iff.mp hu2
    have e1 : its.toArray[m'] = u2 := by simpa using hme
    rw [e1, eqU_of ru2 (flat_at fys hy')]
    exact hno m' _ hmj hy'
end
end SX3
end
/-! ## Sx2 -/
section
set_option Elab.async false
set_option linter.all false
set_option maxRecDepth 100000
set_option maxHeartbeats 4000000
namespace SX3
open PySem PySem.Spec PyProof.Rows L2 LamX LX
/-- a lambda of one parameter x that reads the one captured name n -/
structure LamK (sc scope : Scope) (x n : Str) : Prop where
  kind : scope.kind = .function
  co : scope.isCoroutine = false
  gen : scope.isGenerator = false
  cell : ∀ y ∈ scope.names, y.2 ≠ .cell
  loc : scope.names.lookup x = some .local
  frn : scope.names.lookup n = some .free
  free : ∀ y ∈ scope.names, y.2 = .free → sc.names.lookup y.1 = some .cell ∨ sc.names.lookup y.1 = some .free
def lamKB (sc scope : Scope) (x n : Str) : Bool :=
  decide (scope.kind = .function) && !scope.isCoroutine && !scope.isGenerator && (scope.names.all fun y => !decide (y.2 = .cell) && (!decide (y.2 = .free) || decide (sc.names.lookup y.1 = some .cell) || decide (sc.names.lookup y.1 = some .free))) &&
  decide (scope.names.lookup x = some .local) && decide (scope.names.lookup n = some .free)
theorem lamK_by {sc scope : Scope} {x n : Str} (h : lamKB sc scope x n = true) : LamK sc scope x n := by
  unfold lamKB at h
  simp only [Bool.and_eq_true, Bool.or_eq_true, Bool.not_eq_true', decide_eq_true_eq, decide_eq_false_iff_not, List.all_eq_true] at h
  obtain ⟨⟨⟨⟨⟨h1, h2⟩, h3⟩, h4⟩, h5⟩, h6⟩ := h
  refine ⟨h1, h2, h3, fun y hy => (h4 y hy).1, h5, h6, fun y hy e => ?_⟩
  rcases (h4 y hy).2 with (z | z) | z
  · exact absurd e z
  · exact .inl z
  · exact .inr z
theorem LamK.has {X : Cx} {scope : Scope} {x n : Str} (L : LamK X.env.scope scope x n) (ok : X.Ok) : ∀ y ∈ scope.names, y.2 = .free → ∃ c, X.env.cells.lookup y.1 = some c := fun y hy e => by
  rcases L.free y hy e with k | k
  · exact ok.has _ (.inl k)
  · exact ok.has _ (.inr k)
/-- the captured name's cell, in the lambda -/
theorem LamK.cellOf {X : Cx} {pins : List (Addr × Obj)} {σ : L2.St} {H : Hp} {s : Shared} {scope : Scope} {x n : Str} {i : Nat} {v : V} (L : LamK X.env.scope scope x n) (I : L2.Inv X pins σ H s) (hi : X.N[i]? = some n) (hv : σ[i]? = some (some v)) :
    ∃ c u, (cloFrom X.env.cells scope.names []).lookup n = some c ∧ s.heap.IsCell c (some u) ∧ L2.RelV v u := by
  have hfree := L.has I.ok
  have hm : (n, NameKind.free) ∈ scope.names := PySem.mem_of_lookup L.frn
  obtain ⟨c2, h2⟩ := mem_lookup (cloFrom_has (cells := X.env.cells) (acc := []) hm)
  have c1 : X.env.cells.lookup n = some c2 := by
    rcases cloFrom_mem (PySem.mem_of_lookup h2) with hm' | ⟨h1, he⟩
    · cases hm'
    · obtain ⟨c1, hc⟩ := hfree _ h1 rfl
      have hc : X.env.cells.lookup n = some c1 := hc
      have e2 : c2 = c1 := by
        rw [he, hc] <;> rfl
      rw [e2]
      exact hc
  obtain ⟨m, hn, hl⟩ := I.loc
  have hvis : Vis X.env.scope n := (L.free _ hm rfl).elim (fun k => .inr (.inl k)) (fun k => .inr (.inr k))
  obtain ⟨u, r, q⟩ := hl i n v hi hv hvis
  rcases q with ⟨k', _⟩ | ⟨_, c3, e', z⟩
  · have k' : X.env.scope.names.lookup n = some .local := k'
    rcases L.free _ hm rfl with k2 | k2 <;> rw [show X.env.scope.names.lookup n = _ from k2] at k' <;> cases k'
  · rw [c1] at e'
    cases e'
    exact ⟨c2, u, h2, z, r⟩
theorem codeRec_of {X : Cx} {pins : List (Addr × Obj)} {σ : L2.St} {H : Hp} {s : Shared} {c' : Addr} {q : Str} (I : L2.Inv X pins σ H s) (h : H c' = some (CodeO c' q)) : s.heap.CodeRec (.ref c') q := by
  obtain ⟨⟨oc, vs, t, hoc, hdc, hvc⟩, _, _⟩ := I.hok c' _ h
  exact ⟨c', oc, vs, t, rfl, hoc, hdc, hvc⟩
theorem each_strs : ∀ {xs : List Str} {its : List Value}, L2.Vals (xs.map V.str) its → PySem.W.EachIs (fun (v : Value) (x : Str) => ∃ t, v = Value.str x t) its xs
  | [], _, r => by
    cases r
    exact .nil
  | x :: xs, _, r => by
    cases r with
    | cons h t => exact .cons h (each_strs t)
theorem vals_each : ∀ {xs : List Str} {its : List Value}, PySem.W.EachIs (fun (v : Value) (x : Str) => ∃ t, v = Value.str x t) its xs → L2.Vals (xs.map V.str) its
  | _, _, .nil => .nil
  | _, _, .cons h t => .cons h (vals_each t)
theorem str_flat (xs : List Str) : (xs.map V.str).all flatV = true := by
  rw [List.all_eq_true]
  intro y hy
  obtain ⟨x, _, rfl⟩ := List.mem_map.mp hy
  rfl
theorem idx_at {ys : List Str} {x : Str} (h : x ∈ ys) : (ys.map V.str)[ys.idxOf x]? = some (V.str x) := by
  have hl := List.idxOf_lt_length_of_mem h
  rw [List.getElem?_map, List.getElem?_eq_getElem hl, List.getElem_idxOf]
  rfl
theorem eqV_str (a b : Str) : eqV (.str a) (.str b) = decide (a = b) := by
  show _ = _
  first | rfl | (simp [eqV])
theorem idx_no {ys : List Str} {x : Str} (m : Nat) (z : V) (hm : m < ys.idxOf x) (hz : (ys.map V.str)[m]? = some z) : eqV z (.str x) = false := by
  rw [List.getElem?_map] at hz
  have hlm : m < ys.length := Nat.lt_of_lt_of_le hm List.idxOf_le_length
  rw [List.getElem?_eq_getElem hlm] at hz
  cases hz
  rw [eqV_str]
  refine decide_eq_false fun e => ?_
  have h2 : (ys[m] == x) = false := List.not_of_lt_findIdx (p := (· == x)) hm
  rw [beq_iff_eq.mpr e] at h2
  cases h2
/-- sorted(e, key=lambda x: n.index(x)) -/
def tSortIx (K : PySem.W.Frag) (T : List (Addr × Str)) (i : Nat) (te : TE) : TE := fun σ H Q => te σ H fun v H1 => ∃ (a o : Addr) (xs ys : List Str), v = .ref a ∧ SqL K H1 a (xs.map V.str) ∧ σ[i]? = some (some (.ref o)) ∧ H1 o = some (.lst (ys.map V.str)) ∧ (∀ x ∈ xs, x ∈ ys) ∧ Tabs T H1 ∧
  ∀ H2, ExtT H1 H2 → Tabs T H2 → ∀ p, H2 p = none → Q (.ref p) (upd H2 p (.lst ((xs.mergeSort fun a b => decide ((ys.idxOf a : Int) ≤ (ys.idxOf b : Int))).map V.str)))
section
variable {X : Cx}
theorem SqL.ext {K : PySem.W.Frag} {H H' : Hp} {a : Addr} {xs : List V} (e : ExtN H H') (h : SqL K H a xs) : SqL K H' a xs := by
  rcases h with (h | ⟨o, h⟩) | h
  · exact .inl (.inl (e _ _ h fun ps z => by cases z))
  · exact .inl (.inr ⟨o, e _ _ h fun ps z => by cases z⟩)
  · exact .inr h
theorem pe_sortIx {T : List (Addr × Str)} {e : Expr} {te : TE} {x n : Str} {c P : Addr} {k i : Nat} {params : Arguments} {scope : Scope} {p lpos pos kpos p1 p2 p3 p4 : Pos} (he : PE X e te) (hg : Gl X "sorted") (hm : X.mg "sorted" = none)
    (TB : LamX.TabB X.base X.mg c P) (hcode : X.env.code = .ref c) (hmT : (P, X.env.qual ++ "<lambda>") ∈ T) (hu : ∀ p ∈ T, p.1 = P → p.2 = X.env.qual ++ "<lambda>") (hr : Room (k + 3) X.A) (L : LamK X.env.scope scope x n) (hi : X.N[i]? = some n)
    (hdef : defaultsOf params X.env = ([], []))
    (hbind : ∀ (q : Str) (cl : List (Str × Addr)) (pm cv ctv v : Value), bindArgs (PySem.W.kla_fn "<lambda>" q params (.Call (.Attribute (.Name n p1) "index" p2) [.Name x p3] [] p4) scope cl pm cv ctv) ⟨[v], []⟩ = pure [(x, v)])
    (hdn : (n == ("__debug__" : Str)) = false := by decide) (hcn : (n == ("__classdict__" : Str)) = false := by decide) (hdx : (x == ("__debug__" : Str)) = false := by decide) (hline : (p2.endLine == p4.line) = true := by rfl)
    (hst : backTo pos (starEach [e] X.env) = (false, eval e X.env) :: backTo pos (starEach [] X.env) := by rfl) (hs1 : starEach [e] X.env = (false, eval e X.env) :: starEach [] X.env := by rfl) :
    PE X (.Call (.Name "sorted" p) [e] [⟨some "key", .Lambda params (.Call (.Attribute (.Name n p1) "index" p2) [.Name x p3] [] p4) scope lpos, kpos⟩] pos) (tSortIx X.K T i te) := by
  refine ⟨fun pins s σ H Q I h => ?_⟩
  refine wpAny_Call_Name_kw (ld_blt I hg hm boot_sorted ?_)
  refine PyProof.Rows.callWith_kw ?_ hst (by rw [hst]; rfl) rfl rfl
  refine thn ((pa_cons (X := X) he pa_nil hs1).run pos pins s σ H (fun vs H1 => match vs with
    | [v] => ∃ (a o : Addr) (xs ys : List Str), v = .ref a ∧ SqL X.K H1 a (xs.map V.str) ∧ σ[i]? = some (some (.ref o)) ∧ H1 o = some (.lst (ys.map V.str)) ∧ (∀ x ∈ xs, x ∈ ys) ∧ Tabs T H1 ∧
      ∀ H2, ExtT H1 H2 → Tabs T H2 → ∀ p, H2 p = none → Q (.ref p) (upd H2 p (.lst ((xs.mergeSort fun a b => decide ((ys.idxOf a : Int) ≤ (ys.idxOf b : Int))).map V.str)))
    | _ => False) I h) fun us s1 h1 => ?_
  obtain ⟨vs, H1, I1, r1, h1⟩ := h1
  cases r1 with
  | nil => exact h1.elim
  | cons ru rt =>
  rename_i v u vs' us'
  cases rt with
  | cons _ _ => exact h1.elim
  | nil =>
  obtain ⟨a, o, xs, ys, ev2, hl, hσ, ho, hmem, hT, q⟩ := h1
  subst ev2
  obtain rfl : u = Value.ref a := ru
  show wpAny _ _ (evalAll ((do let v ← eval (.Lambda params (.Call (.Attribute (.Name n p1) "index" p2) [.Name x p3] [] p4) scope lpos) X.env; standAt pos; pure v) :: [])) _ _ s1
  refine wpAny_evalAll_cons (wpAny_bind (lam_make3 I1 TB hcode hmT hu hT hdef (L.has I1.ok) fun f c' pm ctv H2 s2 I2 eN T2 hf hfn hfr hco => wpAny_bind (wpAny_standAt (wpAny_pure (wpAny_evalAll_nil ?_)))))
  show wpAny _ _ (call (.builtin "sorted") [.ref a] [(Str.ofString "key", .ref f)]) _ _ s2
  have hl2 := SqL.ext eN.1 hl
  have ho2 : H2 o = some (.lst (ys.map V.str)) := eN.1 _ _ ho fun ps z => by cases z
  obtain ⟨its, rv, pl, hz⟩ := I2.list hl2
  have eit := each_strs rv
  have hlen : xs.length ≤ sizeLine := by rw [List.length_map] at hz; exact hz
  obtain ⟨zo, oits, nz, orv, oob⟩ := I2.hok o _ ho2
  obtain ⟨cc, u, hcl, hcell, hru⟩ := L.cellOf I2 hi hσ
  obtain rfl : u = Value.ref o := hru
  have hCR := codeRec_of I2 hco
  have hr1 : Room (k + 1) X.A.in1.in1 := (hr.in1).in1
  refine PySem.W.sorted_key_data (b := false) (R := fun (v : Value) (x : Str) => ∃ t, v = Value.str x t) (fun x : Str => PyData.int (ys.idxOf x : Int)) pl.isList eit (fun d hd d' hd' => ?_) (.inr fun d hd => ?_) hlen (fun y hy => ?_) (ksk_s1 _ _) (fun _ => ksk_l1 _ _) (fun y => ksk_t1 f y)
    (fun uv y hR hy h tk kp => ?_) (fun out c1 h' tk kp hfr0 hob holen hout => ?_)
  · obtain ⟨y, _, rfl⟩ := List.mem_map.mp hd
    obtain ⟨y', _, rfl⟩ := List.mem_map.mp hd'
    rfl
  · obtain ⟨y, _, rfl⟩ := List.mem_map.mp hd
    exact ⟨fun z => (by cases z), fun xs z => (by cases z)⟩
  · have h1 := hr.un
    show X.A.units + 2 + (PyData.int _).depth < cLine
    have h2 : ∀ z : Int, (PyData.int z).depth ≤ 1 := fun z => by simp [PyData.depth]
    have := h2 (ys.idxOf y : Int)
    omega
  · obtain ⟨t, rfl⟩ := hR
    refine lam_call1 (A := X.A.in1.in1) hr1.depth (I2.nolimit.keeps kp) (kp _ _ hf) (hCR.keeps kp) (hbind _ _ _ _ _ _) L.loc L.cell L.co L.gen L.kind fun h₁ tk1 hns kp1 => ?_
    have hy' := hmem y hy
    refine eval_index (E := fun _ _ => False) (y := V.str y) (z := V.str y) (ys := ys.map V.str) (m := fun z => ([(x, Value.str y t)] : List (Str × Value)).reverse.lookup z) L.kind L.frn hcl (hcell.keeps fun b ob e => kp1 b ob (kp b ob e)) L.loc hns (by simp) (kp1 _ _ (kp _ _ oob)) orv ⟨t, rfl⟩ rfl (str_flat ys) zo (idx_at hy') (by rw [eqV_str]; simp) (fun m' z' a b => idx_no m' z' a b) ?_ hdn hcn hdx rfl hline
    exact ⟨h₁, tk1 + 1, rfl, kp1, .int _ _⟩
  · have e1 : (xs.mergeSort (PySem.W.dataLe false fun x : Str => PyData.int (ys.idxOf x : Int))) = xs.mergeSort fun a b => decide ((ys.idxOf a : Int) ≤ (ys.idxOf b : Int)) := by
      rw [PySem.W.dataLe_int fun x : Str => (ys.idxOf x : Int)]
    rw [e1] at hout
    have rvo := vals_each hout
    have hlo : ((xs.mergeSort fun a b => decide ((ys.idxOf a : Int) ≤ (ys.idxOf b : Int))).map V.str).length ≤ sizeLine := by
      rw [List.length_map, List.length_mergeSort]
      exact hlen
    exact ⟨.ref _, upd H2 (s2.heap.objs.size + 1) (.lst ((xs.mergeSort fun a b => decide ((ys.idxOf a : Int) ≤ (ys.idxOf b : Int))).map V.str)), I2.laid (t' := tk) kp (Nat.le_succ _) ⟨hlo, out, c1, rvo, hob⟩, rfl, q H2 eN T2 _ (I2.hok.fresh (Nat.le_succ _))⟩
end
end SX3
end
/-! ## Sx3 -/
section
set_option Elab.async false
set_option linter.all false
set_option maxRecDepth 100000
set_option maxHeartbeats 4000000
namespace SX3
open PySem PySem.Spec PyProof.Rows L2 LamX LX
/-- max(e, key=lambda x: n.f[x]), the field a dict of ranks -/
def tMaxRk (K : PySem.W.Frag) (T : List (Addr × Str)) (i : Nat) (fn : Str) (te : TE) : TE := fun σ H Q => te σ H fun v H1 => ∃ (a so C dx dr : Addr) (fs : List (Str × V)) (kvs : List (Key × V)) (ns : List Int) (rk : Int → Int), v = .ref a ∧ SqL K H1 a (ns.map V.int) ∧ 0 < ns.length ∧ σ[i]? = some (some (.ref so)) ∧
  H1 so = some (.ins C dx fs) ∧ Cls K C ∧ NoAttr K C fn ∧ fs.lookup fn = some (.ref dr) ∧ H1 dr = some (.dK kvs) ∧ (∀ n ∈ ns, valV kvs (Sum.inl n : Key) = some (.int (rk n))) ∧ Tabs T H1 ∧
  ∀ H2, ExtT H1 H2 → Tabs T H2 → ∀ m, m ∈ ns → (∀ n ∈ ns, rk n ≤ rk m) → Q (.int m) H2
section
variable {prog : Program} {w : World} {A : Around} {s : Shared} {x : Str}
/-- n.f[x] -/
theorem eval_rank {K : PySem.W.Frag} {H : Hp} {env : Env} {E : Value → Shared → Prop} {n fn : Str} {p1 p2 p3 p4 : Pos} {c so C dx dr : Addr} {m : Str → Option Value} {fs : List (Str × V)} {kvs : List (Key × V)} {i r : Int} {t : Tok} {Q : Value → Shared → Prop}
    (hk : env.scope.kind = .function) (hln : env.kindOf n = some .free) (hc : env.cells.lookup n = some c) (hv : s.heap.IsCell c (some (.ref so)))
    (hlx : env.kindOf x = some .local) (hn : s.heap.Ns env.locals m) (hm : m x = some (.int i t)) (hok : HOk prog w H s.heap) (hK : K.In s.heap)
    (hs : H so = some (.ins C dx fs)) (cl : Cls K C) (na : NoAttr K C fn) (hf : fs.lookup fn = some (.ref dr)) (hd : H dr = some (.dK kvs)) (hr : valV kvs (Sum.inl i : Key) = some (.int r))
    (h : ∀ tk t', Q (.int r t') { s with toks := tk })
    (hdn : (n == ("__debug__" : Str)) = false) (hcn : (n == ("__classdict__" : Str)) = false) (hdx : (x == ("__debug__" : Str)) = false)
    (hbase : attributeBase (.Name n p1) fn env (eval (.Name n p1) env) = eval (.Name n p1) env) :
    wpAny (model prog w) A (eval (.Subscript (.Attribute (.Name n p1) fn p2) (.Name x p3) p4) env) Q E s := by
  refine subD_of PySem.F.slot_dict_getitem.lookup (fun _ _ => rfl) (attr_of hbase (name_free hk hln hc hv ?_ hdn hcn))
  obtain ⟨mA, O, rA, _, _, _⟩ := ins_get hok hs
  obtain ⟨u, hu, ru⟩ := RelO.some_of (v := V.ref dr) (o := mA fn) (by rw [← hf]; exact rA fn)
  have hh := handed_of ru
  obtain rfl : u = Value.ref dr := ru
  refine get_map hK O (cl.get fn) cl.hd na hu hh ?_
  refine name_loc (s := { s with toks := s.toks + 1 }) hk hlx hn hm ?_ hdx
  obtain ⟨z, hsm, vs, rel, dd⟩ := hok dr _ hd
  obtain ⟨w', hw, rw'⟩ := RelO.some_of (v := V.int r) (o := valueAt vs (Sum.inl i : Key)) (by rw [← hr]; exact rel.val (Sum.inl i : Key))
  obtain ⟨t', rfl⟩ := rw'
  have ti : ({ s with toks := s.toks + 1 } : Shared).TypeIs (.ref dr) "dict" := dd.typeIs (s := { s with toks := s.toks + 1 })
  exact ⟨ti, wpAny_getItem_of (s := { s with toks := s.toks + 1 }) (kV_is (k := (Sum.inl i : Key)) (u := Value.int i t) ⟨t, rfl⟩) dd.mapOf hw (h _ _)⟩
end
theorem fr_up {h₀ h h' : Heap} {L : Addr} {m : Str → Option Value} (F : Fr h₀ L h m) (k : ∀ b o, h.get? b = some o → h'.get? b = some o) : Fr h₀ L h' m :=
  ⟨F.ns.keeps k, fun b o e => k b o (F.keep b o e), F.above⟩
section
variable {X : Cx}
theorem pe_maxRk {T : List (Addr × Str)} {e : Expr} {te : TE} {x n fn : Str} {c P : Addr} {k i : Nat} {params : Arguments} {scope : Scope} {p lpos pos kpos p1 p2 p3 p4 : Pos} (he : PE X e te) (hg : Gl X "max") (hm : X.mg "max" = none) (hcalm : X.calm = true)
    (TB : LamX.TabB X.base X.mg c P) (hcode : X.env.code = .ref c) (hmT : (P, X.env.qual ++ "<lambda>") ∈ T) (hu : ∀ p ∈ T, p.1 = P → p.2 = X.env.qual ++ "<lambda>") (hr : Room (k + 3) X.A) (L : LamK X.env.scope scope x n) (hi : X.N[i]? = some n)
    (hdef : defaultsOf params X.env = ([], []))
    (hbind : ∀ (q : Str) (cl : List (Str × Addr)) (pm cv ctv v : Value), bindArgs (PySem.W.kla_fn "<lambda>" q params (.Subscript (.Attribute (.Name n p1) fn p2) (.Name x p3) p4) scope cl pm cv ctv) ⟨[v], []⟩ = pure [(x, v)])
    (hbase : ∀ env : Env, attributeBase (.Name n p1) fn env (eval (.Name n p1) env) = eval (.Name n p1) env := by intro _; rfl)
    (hdn : (n == ("__debug__" : Str)) = false := by decide) (hcn : (n == ("__classdict__" : Str)) = false := by decide) (hdx : (x == ("__debug__" : Str)) = false := by decide)
    (hst : backTo pos (starEach [e] X.env) = (false, eval e X.env) :: backTo pos (starEach [] X.env) := by rfl) (hs1 : starEach [e] X.env = (false, eval e X.env) :: starEach [] X.env := by rfl) :
    PE X (.Call (.Name "max" p) [e] [⟨some "key", .Lambda params (.Subscript (.Attribute (.Name n p1) fn p2) (.Name x p3) p4) scope lpos, kpos⟩] pos) (tMaxRk X.K T i fn te) := by
  refine ⟨fun pins s σ H Q I h => ?_⟩
  refine wpAny_Call_Name_kw (ld_blt I hg hm PyProof.Rows.boot_max ?_)
  refine PyProof.Rows.callWith_kw ?_ hst (by rw [hst]; rfl) rfl rfl
  refine thn ((pa_cons (X := X) he pa_nil hs1).run pos pins s σ H (fun vs H1 => match vs with
    | [v] => ∃ (a so C dx dr : Addr) (fs : List (Str × V)) (kvs : List (Key × V)) (ns : List Int) (rk : Int → Int), v = .ref a ∧ SqL X.K H1 a (ns.map V.int) ∧ 0 < ns.length ∧ σ[i]? = some (some (.ref so)) ∧
      H1 so = some (.ins C dx fs) ∧ Cls X.K C ∧ NoAttr X.K C fn ∧ fs.lookup fn = some (.ref dr) ∧ H1 dr = some (.dK kvs) ∧ (∀ n ∈ ns, valV kvs (Sum.inl n : Key) = some (.int (rk n))) ∧ Tabs T H1 ∧
      ∀ H2, ExtT H1 H2 → Tabs T H2 → ∀ m, m ∈ ns → (∀ n ∈ ns, rk n ≤ rk m) → Q (.int m) H2
    | _ => False) I h) fun us s1 h1 => ?_
  obtain ⟨vs, H1, I1, r1, h1⟩ := h1
  cases r1 with
  | nil => exact h1.elim
  | cons ru rt =>
  rename_i v u vs' us'
  cases rt with
  | cons _ _ => exact h1.elim
  | nil =>
  obtain ⟨a, so, C, dx, dr, fs, kvs, ns, rk, ev2, hl, hne, hσ, hso, hcl, hna, hfs, hdr, hrk, hT, q⟩ := h1
  subst ev2
  obtain rfl : u = Value.ref a := ru
  show wpAny _ _ (evalAll ((do let v ← eval (.Lambda params (.Subscript (.Attribute (.Name n p1) fn p2) (.Name x p3) p4) scope lpos) X.env; standAt pos; pure v) :: [])) _ _ s1
  refine wpAny_evalAll_cons (wpAny_bind (lam_make3 I1 TB hcode hmT hu hT hdef (L.has I1.ok) fun f c' pm ctv H2 s2 I2 eN T2 hf hfn hfr hco => wpAny_bind (wpAny_standAt (wpAny_pure (wpAny_evalAll_nil ?_)))))
  show wpAny _ _ (call (.builtin "max") [.ref a] [(Str.ofString "key", .ref f)]) _ _ s2
  have hl2 := SqL.ext eN.1 hl
  have hso2 : H2 so = some (.ins C dx fs) := eN.1 _ _ hso fun ps z => by cases z
  have hdr2 : H2 dr = some (.dK kvs) := eN.1 _ _ hdr fun ps z => by cases z
  obtain ⟨its, rv, pl, hz⟩ := I2.list hl2
  have hlen : its.length = ns.length := by rw [← rv.length, List.length_map]
  obtain ⟨cc, u, hcl2, hcell, hru⟩ := L.cellOf I2 hi hσ
  obtain rfl : u = Value.ref so := hru
  have hCR := codeRec_of I2 hco
  have hr1 : Room (k + 2) X.A.in1 := hr.in1
  obtain ⟨m, F⟩ := I2.fr
  have N : News X.base X.env.locals s2.heap (allNews X.base s2.heap X.env.locals) := news_all
  have notL : ∀ {h : Heap}, Fr X.base X.env.locals h m → News X.base X.env.locals h (allNews X.base s2.heap X.env.locals) → ∀ b o, b ≠ X.env.locals → s2.heap.get? b = some o → h.get? b = some o := fun {h} F' N' b o hb e => by
    cases qb : X.base.get? b with
    | some ob =>
      have z := I2.bk b ob qb
      rw [e] at z
      cases z
      exact F'.keep b _ qb
    | none => exact (N' (b, o) (mem_allNews hb qb e)).1
  have hLtup : a ≠ X.env.locals := fun z => by
    obtain ⟨oa, na, h1, h2, _⟩ := pl
    obtain ⟨oL, es, ep, h3, h4, _⟩ := F.ns
    rw [z, h3] at h1
    cases h1
    simp_all
  have hat : ∀ (j : Nat) (v : Value), its[j]? = some v → ∃ t, ns[j]? = some (ns.getD j 0) ∧ v = .int (ns.getD j 0) t ∧ ns.getD j 0 ∈ ns := fun j v hv => by
    have hj : j < ns.length := by
      have := (List.getElem?_eq_some_iff.mp hv).1
      omega
    have hb : (ns.map V.int)[j]? = some (V.int ns[j]) := by rw [List.getElem?_map, List.getElem?_eq_getElem hj]; rfl
    obtain ⟨u, hu, ru⟩ := rv.get hb
    rw [hv] at hu
    cases hu
    obtain ⟨t, e⟩ := (show ∃ t, v = Value.int ns[j] t from ru)
    have e2 : ns.getD j 0 = ns[j] := by simp [List.getD, hj]
    rw [e2]
    exact ⟨t, List.getElem?_eq_getElem hj, e, List.getElem_mem hj⟩
  have dictL : ∀ {h : Heap}, Fr X.base X.env.locals h m → ∃ oL es ep, h.get? X.env.locals = some oL ∧ oL.data = .dict es ep := fun F' => by
    obtain ⟨oL, es, ep, h3, h4, _⟩ := F'.ns
    exact ⟨oL, es, ep, h3, h4⟩
  have trkL : ∀ {b : Addr} {o : HO}, H2 b = some o → b ≠ X.env.locals := fun e => ne_of_none e I2.free
  have hokUp : ∀ {h : Heap}, Fr X.base X.env.locals h m → News X.base X.env.locals h (allNews X.base s2.heap X.env.locals) → HOk X.prog X.w H2 h := fun F' N' b o e =>
    (I2.hok b o e).stay (fun c v hc z => notL F' N' c v (by
      rcases hc with y | y
      · rw [y]; exact trkL e
      · exact trkL y) z) (fun _ z => z) fun _ _ z => z
  have fL : f ≠ X.env.locals := fun z => by
    obtain ⟨oL, es, ep, h3, h4⟩ := dictL F
    rw [z, h3] at hf
    cases hf
    cases h4
  have cL : cc ≠ X.env.locals := fun z => by
    obtain ⟨oL, es, ep, h3, h4⟩ := dictL F
    obtain ⟨oc, h5, h6⟩ := id hcell
    rw [z, h3] at h5
    cases h5
    rw [h4] at h6
    cases h6
  refine kmk_max (h₀ := X.base) (L := X.env.locals) (m := m) (news := allNews X.base s2.heap X.env.locals) (vs := its) (fun j => rk (ns.getD j 0)) (I2.ok.hd hcalm) F N (fun h F' N' => ?_) (by omega) (fun j v hv h tk own F' N' => ?_) (fun j v h' tk' hv hbest F' N' => ?_)
  · obtain ⟨oa, na, h1, h2, h3, h4⟩ := pl
    exact ⟨oa, notL F' N' _ _ hLtup h1, h2, na, h4⟩
  · obtain ⟨t, hns, rfl, hmem⟩ := hat j v hv
    have N0 : News X.base X.env.locals h (allNews X.base s2.heap X.env.locals) := fun p hp => N' p (List.mem_append_left _ hp)
    have hok := hokUp F' N0
    have hCR' : h.CodeRec (.ref c') (X.env.qual ++ "<lambda>") := by
      obtain ⟨⟨oc, vs, t, hoc, hdc, hvc⟩, _, _⟩ := hok c' _ hco
      exact ⟨c', oc, vs, t, rfl, hoc, hdc, hvc⟩
    have hcell' : h.IsCell cc (some (.ref so)) := by
      obtain ⟨oc, h5, h6⟩ := id hcell
      exact ⟨oc, notL F' N0 _ _ cL h5, h6⟩
    refine lam_call1 (A := X.A.in1) hr1.depth (I2.mod.nolimit.keeps F'.keep) (notL F' N0 _ _ fL hf) hCR' (hbind _ _ _ _ _ _) L.loc L.cell L.co L.gen L.kind fun h₁ tk1 hns1 kp1 => ?_
    refine eval_rank (E := fun _ _ => False) (H := H2) (K := X.K) (m := fun z => ([(x, Value.int (ns.getD j 0) t)] : List (Str × Value)).reverse.lookup z) (i := ns.getD j 0) (r := rk (ns.getD j 0)) (t := t) L.kind L.frn hcl2 (hcell'.keeps kp1) L.loc hns1 (by simp) (hok.kept kp1) ((I2.mod.kin.keeps F'.keep).keeps kp1) hso2 hcl hna hfs hdr2 (hrk _ hmem) (fun tk2 t' => ?_) hdn hcn hdx (hbase _)
    exact ⟨h₁, tk2, t', rfl, rfl, fr_up F' kp1, fun p hp => ⟨kp1 _ _ (N' p hp).1, (N' p hp).2⟩⟩
  · obtain ⟨t, hns, rfl, hmem⟩ := hat j v hv
    have J : L2.Inv X pins σ H2 { s2 with heap := h', gens := s2.gens, drawn := s2.drawn, toks := tk' } := by
      refine I2.step (ch := []) (fun b hb => absurd hb (by simp)) (fun b o hb _ _ e _ => notL F' N' b o hb e) (fun b o hb _ _ e _ => ⟨o.slots, notL F' N' b o hb e⟩) (fun _ _ _ _ n => n) (fun b o _ e => ?_) (fun _ _ z => z) (fun _ _ _ z => z) (fun b ps z => ⟨#[], by rw [z]; simp⟩) (fun m' hm' => ?_) (hokUp F' N') I2.bare
      · by_cases hb : b = X.env.locals
        · obtain ⟨oL, es, ep, h3, h4⟩ := dictL F'
          exact ⟨oL, by rw [hb]; exact h3⟩
        · exact ⟨o, notL F' N' b o hb e⟩
      · rw [SlX.ns_only hm' F.ns]
        exact F'.ns
    refine ⟨.int (ns.getD j 0), H2, J, ⟨t, rfl⟩, q H2 eN T2 _ hmem fun n hn => ?_⟩
    obtain ⟨jn, hjn, e⟩ := List.getElem_of_mem hn
    have z := (hbest jn (by omega)).1
    have e2 : ns.getD jn 0 = n := by simp [List.getD, hjn, e]
    simp only [e2] at z
    exact z
end
end SX3
end
/-! ## Nx -/
section
set_option Elab.async false
set_option linter.all false
set_option maxRecDepth 100000
set_option maxHeartbeats 4000000
namespace NX
open PySem PySem.Spec PyProof.Rows L2
theorem enum_newB {v : Value} {o : Obj} {H : Heap → Prop} (B : Begins v o H) :
    Meets (Builtin.«enumerate.__new__» ⟨[.type "enumerate", v], []⟩) (fun _ R s => H s.heap ∧
      R (.ok (.ret (.ref (s.heap.push o).objs.size))) { s with heap := (s.heap.push o).push { cls := .type "enumerate", data := .fields #[.none, .bool false, .ref s.heap.objs.size, rawInt 0, .none, .none] } }) :=
  .of_wp fun prog w A R s h => by
    obtain ⟨hp, g, d, tk, os⟩ := s
    obtain ⟨h1, h⟩ := h
    have hsub := sub_enumerate
    have q1 : ∀ {A' : Around} {E : Value → Shared → Prop} {Q : Value → Shared → Prop}, Q (.ref hp.objs.size) ⟨hp.push o, g, d, tk, os⟩ → wpAny (model prog w) A' (pyIter v) Q E ⟨hp, g, d, tk, os⟩ :=
      fun q => B.iter prog w _ _ ⟨hp, g, d, tk, os⟩ _ h1 q
    wp_walk using q1
    refine wpAny_stack_any fun st => wpAny_pure ?_
    split
    · rename_i c _ _ _ _ _
      cases (c == Value.type "enumerate")
      · wp_walk using q1
        exact ⟨_, rfl, h⟩
      · wp_walk using q1
        exact ⟨_, rfl, h⟩
    · wp_walk using q1
      exact ⟨_, rfl, h⟩
theorem call_enumB {prog : Program} {w : World} {A : Around} {E : Value → Shared → Prop} {s : Shared} {v : Value} {o : Obj} {H : Heap → Prop} {Q : Value → Shared → Prop} (B : Begins v o H) (h1 : H s.heap)
    (h : ∀ h', IsEnum h' (s.heap.objs.size + 1) s.heap.objs.size 0 .none → h'.get? s.heap.objs.size = some o → h'.objs.size = s.heap.objs.size + 2 → (∀ b o, s.heap.get? b = some o → h'.get? b = some o) → Q (.ref (s.heap.objs.size + 1)) { s with heap := h' }) :
    wpAny (model prog w) A (call (.type "enumerate") [v]) Q E s := by
  refine callType_new F.called_enumerate (by decide) (F.typeCall_enumerate_1 _) (F.newCall_enumerate_1 _) (fun obj => F.args_object_init_2 obj _) F.entry_enumerate_new (enum_newB B) ⟨h1, ?_⟩
  have hz : (s.heap.push o).objs.size = s.heap.objs.size + 1 := Heap.size_push ..
  show _ ∧ _
  rw [hz]
  have he : IsEnum ((s.heap.push o).push { cls := .type "enumerate", data := .fields #[.none, .bool false, .ref s.heap.objs.size, rawInt 0, .none, .none] }) (s.heap.objs.size + 1) s.heap.objs.size 0 .none := by
    have := Heap.get?_push_size (s.heap.push o) (o := { cls := .type "enumerate", data := .fields #[.none, .bool false, .ref s.heap.objs.size, rawInt 0, .none, .none] }) rfl
    rw [hz] at this
    exact this
  exact ⟨⟨_, he, rfl⟩, h _ he (Heap.get?_push_of_some _ (Heap.get?_push_size _ B.free)) (by rw [Heap.size_push, hz]) fun b o x => Heap.get?_push_of_some _ (Heap.get?_push_of_some _ x)⟩
/-- the tuple at a, each item in a new pair behind its number -/
def Iten (K : PySem.W.Frag) (a : Addr) : It :=
  ⟨fun i H => ∃ xs x, SqT K H a xs ∧ xs[i]? = some x, fun i H v H' => ∃ T x, v = .ref T ∧ H T = none ∧ H' = upd H T (.tup [.int (i : Nat), x]) ∧ ∀ xs, SqT K H a xs → xs[i]? = some x, fun i H => ∃ xs, SqT K H a xs ∧ xs.length = i⟩
theorem iter_ne {h : Heap} {it a : Addr} {i : Nat} {items : Array Value} (h1 : h.IsTupleIter it a i) (h2 : h.IsTuple a items) : a ≠ it := fun z => by
  obtain ⟨o, e1, _, d1⟩ := h1
  obtain ⟨o2, e2, _, n, d2⟩ := h2
  rw [z, e1] at e2
  cases e2
  rw [d1] at d2
  cases d2
theorem turn_enumT {P : Program} {w : World} {K : PySem.W.Frag} {elts : List Expr} {kk : Nat} {tpos : Pos} (a e it : Addr) :
    Turn P w K (.Tuple elts kk tpos) (Iten K a) [e, it] e (fun i h => (∃ old, IsEnum h e it ((i : Nat) : Int) old) ∧ h.IsTupleIter it a i ∧ e ≠ it) where
  mem := by simp
  obj := fun i h st b hb => by
    obtain ⟨⟨old, he⟩, ⟨o, ho, hc, hd⟩, _⟩ := st
    have e' : b = e ∨ b = it := by simpa using hb
    rcases e' with z | z
    · rw [z]
      exact ⟨_, he, fun v q => nomatch q⟩
    · rw [z]
      exact ⟨o, ho, fun v q => by rw [hd] at q; cases q⟩
  keep := fun i h h' st k => let ⟨⟨old, he⟩, hi, hne⟩ := st; ⟨⟨old, k e (by simp) _ he⟩, hi.at fun o q => k it (by simp) o q, hne⟩
  item := by
    intro X hP hw hK hc i pins s σ H E I hf st hg
    subst hP hw hK
    obtain ⟨⟨old, he⟩, hit, hne⟩ := st
    obtain ⟨xs, x, hq, hx⟩ := hg
    obtain ⟨its, rv, p, hz⟩ := I.tuple hq
    have p' : s.heap.IsTuple a its.toArray := p
    obtain ⟨u, hu, ru⟩ := rv.get hx
    have hel : e < s.heap.objs.size := Heap.lt_size he
    have hil : it < s.heap.objs.size := by
      obtain ⟨_, q, _⟩ := id hit
      exact Heap.lt_size q
    have hta := iter_ne hit p'
    have hea : e ≠ a := fun z => by
      obtain ⟨o2, e2, _, n, d2⟩ := p'
      rw [← z, he] at e2
      cases e2
      cases d2
    have hlt : i < its.toArray.size := by
      have := (List.getElem?_eq_some_iff.mp hu).1
      simpa using this
    refine wpAny_pyNext_enum_itemD (Draws.tuple (A := X.A.in1) (I.ok.hd hc) it a hta its.toArray) he ⟨hit, p'⟩ hlt hne (by simp [hne, hea]) fun uu h' tk hPx ho hst' hT hsz hk => ?_
    have euu : uu = u := by
      have h1 : its.toArray[i]? = some uu := hPx
      have h2 : its.toArray[i]? = some u := by simpa using hu
      rw [h1] at h2
      cases h2
      rfl
    subst euu
    refine ⟨_, rfl, wpAny_letOwnedTupleGo_enum (s := { s with heap := h', toks := tk + 1 }) ho fun h'' he' sb => ?_⟩
    have hT2 : h''.get? s.heap.objs.size = some { cls := .type "tuple", data := .seq #[.int i tk, uu] } := (sb.2 _ (Nat.ne_of_gt hel)).trans hT
    have new : ObjOk X.prog X.w (upd H s.heap.objs.size (.tup [.int (i : Nat), x])) h'' s.heap.objs.size (.tup [.int (i : Nat), x]) :=
      ⟨by show 2 ≤ sizeLine; decide, [.int i tk, uu], .cons ⟨_, rfl⟩ (.cons ru .nil), ⟨_, hT2, rfl, _, rfl⟩⟩
    have I1 : Inv X pins σ (upd H s.heap.objs.size (.tup [.int (i : Nat), x])) { s with heap := h'', toks := tk + 1 } :=
      I.turnedNew (ch := [e, it]) (fun b ob hb q => (sb.2 b (fun z => hb (by simp [z]))).trans (hk b ob (fun z => hb (by simp [z])) (fun z => hb (by simp [z])) q)) hf (Nat.le_refl _) new
    refine ⟨.ref s.heap.objs.size, _, I1, rfl, ⟨_, x, rfl, I.hok.fresh (Nat.le_refl _), rfl, fun ys hy => by rw [I.tuple_inj hy hq]; exact hx⟩, ⟨⟨uu, ?_⟩, hst'.1.at fun o q => (sb.2 it (Ne.symm hne)).trans q, hne⟩, fun b hb => ?_⟩
    · have e1 : ((i + 1 : Nat) : Int) = (i : Int) + 1 := by omega
      rw [e1]
      exact he'
    · have hb' : b < s.heap.objs.size := by
        have e' : b = e ∨ b = it := by simpa using hb
        rcases e' with z | z
        · rw [z]; exact hel
        · rw [z]; exact hil
      rw [upd_ne (Nat.ne_of_lt hb')]
      exact (hf b hb).1
  done := by
    intro X hP hw hK hc i pins s σ H E I hf st hg
    subst hP hw hK
    obtain ⟨⟨old, he⟩, hit, hne⟩ := st
    obtain ⟨xs, hq, hx⟩ := hg
    obtain ⟨its, rv, p, hz⟩ := I.tuple hq
    obtain ⟨f0, f1, f2, f3, f4, f5⟩ := hf it (by simp)
    have hl := rv.length
    have p' : s.heap.IsTuple a its.toArray := p
    have hil : its.toArray.size = i := by simp; omega
    rw [← hil] at hit
    exact wpAny_pyNext_enum_endD (Draws.tuple (A := X.A.in1) (I.ok.hd hc) it a (iter_ne hit p') its.toArray) he ⟨hit, p'⟩ fun h' eb => ⟨rfl, I.turned (t' := s.toks) (fun b o hb q => eb b o hb q) f0 f1 f3 f4 f5⟩
  self := fun A i s Q E st h => let ⟨⟨_, he⟩, _⟩ := st; wpAny_pyIter_enum he h
def iEnumT (K : PySem.W.Frag) (ta : TA) : TI := fun σ H R => ta σ H fun vs H1 => ∃ a xs, vs = [.ref a] ∧ SqT K H1 a xs ∧ R (Iten K a) H1
theorem pi_enumT {X : Cx} {e : Expr} {ta : TA} {p pos tpos : Pos} {elts : List Expr} {kk : Nat} (hg : Gl X "enumerate") (hm : X.mg "enumerate" = none) (ha : PA X [e] ta) (hs : starEach [e] X.env = [(false, eval e X.env)] := by rfl) :
    PI X (.Tuple elts kk tpos) (.Call (.Name "enumerate" p) [e] [] pos) (iEnumT X.K ta) := by
  refine ⟨fun pins s σ H R I h => ?_⟩
  refine Call_ (ld_blt I hg hm boot_enumerate (PyProof.Rows.callWith_type1 (thn (ha.run pos pins s σ H _ I h) fun us s1 ⟨vs, H1, I1, r1, q1⟩ => ?_) hs rfl))
  obtain ⟨a, xs, ex, hq, q⟩ := q1
  subst ex
  cases r1 with
  | cons r rr =>
    cases rr
    cases r
    obtain ⟨its, rv, p', hz⟩ := I1.tuple hq
    refine call_enumB (begins_tuple a its.toArray) p' fun h' he hit hsz hk => wpAny_pyIter_enum he ?_
    have I2 : Inv X pins σ H1 { s1 with heap := h' } := I1.kept (t' := s1.toks) hk
    refine ⟨s1.heap.objs.size + 1, [s1.heap.objs.size + 1, s1.heap.objs.size], _, _, H1, rfl, I2, turn_enumT a (s1.heap.objs.size + 1) s1.heap.objs.size, ⟨⟨.none, he⟩, ⟨_, hit, rfl, rfl⟩, Nat.succ_ne_self _⟩, fun b hb => ?_, q⟩
    have e' : b = s1.heap.objs.size + 1 ∨ b = s1.heap.objs.size := by simpa using hb
    have hle : s1.heap.objs.size ≤ b := by
      rcases e' with z | z
      · rw [z]; exact Nat.le_add_right _ _
      · rw [z]; exact Nat.le_refl _
    exact I1.fpOk hle (I1.hok.fresh hle)
end NX
end
/-! ## Ka -/
section
set_option Elab.async false
set_option linter.all false
set_option maxRecDepth 100000
set_option maxHeartbeats 2000000
namespace Pm
open PySem L2
/-! ### heaps: what is known, what may have changed -/
abbrev Gt := List (Addr × Str)
def TOk (G : Gt) (H : Hp) : Prop := LamX.Tabs G H
def isTbl : HO → Bool
  | .tbl _ => true
  | _ => false
theorem isTbl_of {o : HO} (h : ∀ ps, o ≠ .tbl ps) : isTbl o = false := by
  cases o <;> first | rfl | exact absurd rfl (h _)
theorem isTbl_no {o : HO} (h : isTbl o = false) : ∀ ps, o ≠ .tbl ps := fun ps z => by
  rw [z] at h
  cases h
/-- all but what stands at S stays; tables stay tables -/
def Kp (G : Gt) (S : List Addr) (H H' : Hp) : Prop :=
  (∀ b o, H b = some o → isTbl o = false → b ∉ S → H' b = some o) ∧ (∀ b, H' b = none → H b = none) ∧ (TOk G H → TOk G H')
abbrev Ex (G : Gt) (H H' : Hp) : Prop := Kp G [] H H'
section
variable {G : Gt} {S S' : List Addr} {H H' H1 H2 : Hp} {a p : Addr} {o u : HO}
theorem Kp.refl : Kp G S H H := ⟨fun _ _ e _ _ => e, fun _ h => h, fun h => h⟩
theorem Kp.trans (a : Kp G S H H1) (b : Kp G S H1 H2) : Kp G S H H2 := ⟨fun c o e n h => b.1 c o (a.1 c o e n h) n h, fun c h => a.2.1 c (b.2.1 c h), fun h => b.2.2 (a.2.2 h)⟩
theorem Kp.mono (a : Kp G S H H1) (h : ∀ b ∈ S, b ∈ S') : Kp G S' H H1 := ⟨fun c o e n hn => a.1 c o e n fun z => hn (h c z), a.2⟩
theorem Kp.ex (a : Ex G H H1) : Kp G S H H1 := a.mono fun _ h => nomatch h
theorem Kp.then (a : Kp G S H H1) (b : Ex G H1 H2) : Kp G S H H2 := a.trans b.ex
theorem Kp.pre (a : Ex G H H1) (b : Kp G S H1 H2) : Kp G S H H2 := a.ex.trans b
/-- a step whose changed things are new, or may be changed -/
theorem Kp.step (a : Kp G S H H1) (b : Kp G S' H1 H2) (h : ∀ x ∈ S', x ∈ S ∨ H x = none) : Kp G S H H2 :=
  ⟨fun c o e n hn => b.1 c o (a.1 c o e n hn) n fun z => (h c z).elim hn (fun y => absurd (e.symm.trans y) (fun w => nomatch w)), fun c h => a.2.1 c (b.2.1 c h), fun h => b.2.2 (a.2.2 h)⟩
theorem Kp.at (a : Kp G S H H1) (h : H p = some o) (hs : p ∉ S) (n : isTbl o = false := by rfl) : H1 p = some o := a.1 p o h n hs
theorem Kp.xat (a : Ex G H H1) (h : H p = some o) (n : isTbl o = false := by rfl) : H1 p = some o := a.1 p o h n (fun z => nomatch z)
theorem Kp.t (a : Ex G H H1) (b : Ex G H1 H2) : Ex G H H2 := Kp.trans a b
theorem Kp.free (a : Kp G S H H1) (h : H1 p = none) : H p = none := a.2.1 p h
theorem Kp.tok (a : Kp G S H H1) (h : TOk G H) : TOk G H1 := a.2.2 h
theorem tok_ext (t : TOk G H) (e : ∀ b o, H b = some o → H' b = some o) : TOk G H' := t.ext e
theorem Ex.new (h : H p = none) : Ex G H (upd H p o) := by
  have e : ∀ b u, H b = some u → upd H p o b = some u := fun b u e => by rw [upd_ne (ne_of_none e h)]; exact e
  refine ⟨fun b u z _ _ => e b u z, fun b hb => ?_, fun t => tok_ext t e⟩
  cases z : H b with
  | none => rfl
  | some u =>
    rw [e b u z] at hb
    cases hb
theorem Kp.new2 (a : Ex G H H1) (h : H1 p = none) : Ex G H (upd H1 p o) := a.t (Ex.new h)
/-- what may be changed: no table, no code object, no tuple -/
def mutO : HO → Bool
  | .lst _ => true
  | .dK _ => true
  | .dT _ => true
  | .frz _ _ => true
  | .ins _ _ _ => true
  | _ => false
theorem mutO_tbl (h : mutO o = true) : isTbl o = false := by cases o <;> first | rfl | cases h
theorem Kp.put (h : H p = some o) (m : mutO o = true) (hp : p ∈ S) : Kp G S H (upd H p u) := by
  have np : ∀ b x, H b = some x → mutO x = false → b ≠ p := fun b x e n z => by
    rw [z, h] at e
    cases e
    rw [m] at n
    cases n
  refine ⟨fun b x e n hb => ?_, fun b hb => ?_, fun t => fun q hq => ?_⟩
  · rw [upd_ne (fun z => hb (by rw [z]; exact hp))]
    exact e
  · by_cases z : b = p
    · rw [z, upd_same] at hb
      cases hb
    · rw [upd_ne z] at hb
      exact hb
  · obtain ⟨ps, h1, h2, h3⟩ := t q hq
    refine ⟨ps, by rw [upd_ne (np _ _ h1 rfl)]; exact h1, h2, fun pos cv hc => ?_⟩
    obtain ⟨c, e1, e2⟩ := h3 pos cv hc
    exact ⟨c, e1, by rw [upd_ne (np _ _ e2 rfl)]; exact e2⟩
theorem Kp.put1 (h : H p = some o) (m : mutO o = true := by rfl) : Kp G [p] H (upd H p u) := Kp.put h m (by simp)
theorem ex_rd (e : Ex G H H') (h : Rd H a u) (n : isTbl u = false := by rfl) : Rd H' a u := by
  rcases h with h | ⟨o, h⟩
  · exact .inl (e.xat h n)
  · exact .inr ⟨o, e.xat h rfl⟩
theorem kp_rd (e : Kp G S H H') (h : Rd H a u) (hs : a ∉ S) (n : isTbl u = false := by rfl) : Rd H' a u := by
  rcases h with h | ⟨o, h⟩
  · exact .inl (e.at h hs n)
  · exact .inr ⟨o, e.at h hs rfl⟩
theorem kp_l {K : PySem.W.Frag} {xs : List V} (e : Kp G S H H') (h : SqL K H a xs) (hs : a ∉ S) : SqL K H' a xs := by
  rcases h with h | h
  · exact .inl (kp_rd e h hs)
  · exact .inr h
theorem kp_t {K : PySem.W.Frag} {xs : List V} (e : Kp G S H H') (h : SqT K H a xs) (hs : a ∉ S) : SqT K H' a xs := by
  rcases h with h | h
  · exact .inl (kp_rd e h hs)
  · exact .inr h
theorem ex_l {K : PySem.W.Frag} {xs : List V} (e : Ex G H H') (h : SqL K H a xs) : SqL K H' a xs := kp_l e h (fun z => nomatch z)
theorem ex_t {K : PySem.W.Frag} {xs : List V} (e : Ex G H H') (h : SqT K H a xs) : SqT K H' a xs := kp_t e h (fun z => nomatch z)
theorem ex_dget {y : V} {r : Option V} (e : Ex G H H') (h : DGet H a y r) : DGet H' a y r := by
  rcases h with ⟨kvs, k, h1, h2, h3⟩ | ⟨kvs, k, b, h1, h2, h3, h4⟩
  · exact .inl ⟨kvs, k, ex_rd e h1, h2, h3⟩
  · exact .inr ⟨kvs, k, b, ex_rd e h1, h2, e.xat h3, h4⟩
theorem ex_isD (e : Ex G H H') (h : IsD H a) : IsD H' a := by
  rcases h with ⟨kvs, h⟩ | ⟨kvs, h⟩
  · exact .inl ⟨kvs, ex_rd e h⟩
  · exact .inr ⟨kvs, ex_rd e h⟩
theorem ne_kind {q : Addr} {o' : HO} (h : H p = some o) (h' : H q = some o') (n : o ≠ o') : p ≠ q := fun z => n (by rw [z, h'] at h; exact (Option.some.inj h).symm)
/-- from an ExtT with its tables -/
theorem Ex.ofT (e : LX.ExtT H H') (t : TOk G H → TOk G H') : Ex G H H' := by
  refine ⟨fun b o h n _ => e.1 b o h (isTbl_no n), fun b hb => ?_, t⟩
  cases z : H b with
  | none => rfl
  | some u =>
    cases n : isTbl u with
    | false =>
      rw [e.1 b u z (isTbl_no n)] at hb
      cases hb
    | true =>
      have hx : ∃ ps, u = .tbl ps := by
        cases u <;> first | exact ⟨_, rfl⟩ | cases n
      obtain ⟨ps, rfl⟩ := hx
      obtain ⟨_, w⟩ := e.2 b _ z
      rw [w] at hb
      cases hb
theorem sz_of {n : Nat} (h : n ≤ 1000000) : n ≤ sizeLine := Nat.le_trans h (by decide)
theorem sz_lt {n : Nat} (h : n < 1000000) : n < sizeLine := Nat.lt_of_lt_of_le h (by decide)
end
/-! ### contexts: what of them matters -/
structure Bs where
  P : Program
  w : World
  K : PySem.W.Frag
  mg : Str → Option Value
  base : Heap
  G : Gt
structure Ctx extends Bs where
  N : List Str
  sc : Scope
  k : Nat
  W : WX
  cg : Bool
  code : Value
  qual : Str
/-- the block of a comprehension -/
abbrev Ctx.blk (C : Ctx) (scope : Scope) : Ctx := { C with sc := scope, W := fun _ _ _ _ => False, cg := false }
abbrev Ctx.gen (C : Ctx) (scope : Scope) (k : Nat) : Ctx := { C with sc := scope, W := fun _ _ _ _ => False, cg := false, k := k }
/-- the context of a def that raises nothing; of one that may -/
abbrev ctx (B : Bs) (N : List Str) (st : Stmt) (k : Nat) (cdv : Value) (qual : Str) : Ctx := { toBs := B, N := N, sc := defScope st, k := k, W := fun _ _ _ _ => False, cg := true, code := cdv, qual := qual ++ ".<locals>." }
abbrev ctxX (B : Bs) (N : List Str) (st : Stmt) (k : Nat) (cdv : Value) (qual : Str) (W : WX) : Ctx := { toBs := B, N := N, sc := defScope st, k := k, W := W, cg := true, code := cdv, qual := qual ++ ".<locals>." }
structure Good (C : Ctx) (X : Cx) : Prop where
  P : X.prog = C.P
  w : X.w = C.w
  K : X.K = C.K
  mg : X.mg = C.mg
  base : X.base = C.base
  N : X.N = C.N
  nd : C.N.Nodup
  calm : X.calm = true
  room : Room C.k X.A
  sc : ∀ x, X.env.scope.names.lookup x = C.sc.names.lookup x ∨ (C.sc.names.lookup x = some .free ∧ X.env.scope.names.lookup x = some .cell)
  fn : ∀ x, Loc C.sc x → X.fn x = true ∨ X.env.scope.names.lookup x = some .local
  cg : C.cg = true → X.env.code = C.code ∧ X.env.qual = C.qual
  tk : Takes X C.W
  kind : X.env.scope.kind = .function
  po : PassesOwn (model X.prog X.w) X.A X.env X.xe
section
variable {C : Ctx} {X : Cx} {x : Str}
theorem Good.vis (g : Good C X) (h : Vis C.sc x) : Vis X.env.scope x := by
  rcases g.sc x with e | ⟨_, e⟩
  · rcases h with h | h | h
    · exact .inl (e.trans h)
    · exact .inr (.inl (e.trans h))
    · exact .inr (.inr (e.trans h))
  · exact .inr (.inl e)
theorem Good.loc (g : Good C X) (h : Loc C.sc x) : Loc X.env.scope x := by
  rcases g.sc x with e | ⟨_, e⟩
  · rcases h with h | h
    · exact .inl (e.trans h)
    · exact .inr (e.trans h)
  · exact .inr e
theorem Good.lcl (g : Good C X) (h : C.sc.names.lookup x = some .local) : X.env.scope.names.lookup x = some .local := by
  rcases g.sc x with e | ⟨e, _⟩
  · exact e.trans h
  · rw [h] at e
    cases e
theorem Good.gl (g : Good C X) (h : C.sc.names.lookup x = some .globalImplicit) : Gl X x := by
  rcases g.sc x with e | ⟨e, _⟩
  · exact e.trans h
  · rw [h] at e
    cases e
theorem Good.fns (g : Good C X) (h : Loc C.sc x) : X.fn x = true ∨ X.env.scope.names.lookup x = some .local := g.fn x h
theorem Good.u1 (g : Good C X) : X.A.units + 1 < cLine := by have := g.room.un; omega
theorem Good.u64 (g : Good C X) : X.A.units + 64 < cLine := by have := g.room.un; omega
theorem Good.blkOk {scope : Scope} {own : List (Str × Nat)} (g : Good C X) (h : BlkOk C.N C.sc scope own) : BlkOk X.N X.env.scope scope own := by
  refine ⟨h.kind, h.uniq, by rw [g.N]; exact h.ix, fun y hy e => ?_, by rw [g.N]; exact h.own⟩
  rcases g.sc y.1 with z | ⟨_, z⟩
  · rcases h.free y hy e with w | w
    · exact .inl (z.trans w)
    · exact .inr (z.trans w)
  · exact .inl z
theorem lookup_relabel {env : Env} {names : List (Str × NameKind)} {x : Str} :
    ((names.map fun (n, k) => if (k == NameKind.free && env.scope.kind == .function && env.kindOf n == some .cell) then (n, NameKind.cell) else (n, k)).lookup x = names.lookup x) ∨
    (names.lookup x = some .free ∧ (names.map fun (n, k) => if (k == NameKind.free && env.scope.kind == .function && env.kindOf n == some .cell) then (n, NameKind.cell) else (n, k)).lookup x = some .cell) := by
  induction names with
  | nil => exact .inl rfl
  | cons p r ih =>
    obtain ⟨n, k⟩ := p
    by_cases hc : (k == NameKind.free && env.scope.kind == .function && env.kindOf n == some .cell) = true
    · rw [List.map_cons]
      simp only [hc, if_true]
      cases hx : x == n with
      | true =>
        simp only [List.lookup_cons, hx]
        refine .inr ⟨?_, trivial⟩
        simp only [Bool.and_eq_true, beq_iff_eq] at hc
        rw [hc.1.1]
      | false =>
        simp only [List.lookup_cons, hx]
        exact ih
    · rw [List.map_cons]
      simp only [hc]
      cases hx : x == n with
      | true =>
        simp only [List.lookup_cons, hx]
        exact .inl (by simp [List.lookup_cons, hx])
      | false =>
        simp only [List.lookup_cons, hx, Bool.false_eq_true, if_false]
        exact ih
theorem Good.blk (g : Good C X) (s : Shared) (H : Hp) (scope : Scope) (cl : List (Str × Addr)) (Ca : Addr) (fp : List Addr) (hk : scope.kind = .function) : Good (C.blk scope) (X.blk s H scope (compEnvC scope cl Ca X.env) fp) where
  P := g.P
  w := g.w
  K := g.K
  mg := g.mg
  base := g.base
  N := g.N
  nd := g.nd
  calm := g.calm
  room := g.room
  sc := fun x => lookup_relabel
  fn := fun x h => by
    rcases h with h | h
    · refine .inr ?_
      rcases lookup_relabel (env := X.env) (names := scope.names) (x := x) with e | ⟨e, _⟩
      · exact e.trans h
      · rw [h] at e
        cases e
    · refine .inl ?_
      show (scope.names.lookup x == some .cell) = true
      rw [h]
      rfl
  cg := fun z => nomatch z
  tk := takes0
  kind := hk
  po := PassesOwn.never
end
end Pm
end
/-! ## Kb -/
section
set_option Elab.async false
set_option linter.all false
set_option maxRecDepth 100000
set_option maxHeartbeats 2000000
namespace Pm
open PySem L2
/-! ### readings that stand for any derivation -/
section
variable (C : Ctx)
def wE (e : Expr) : TE := fun σ H Q => ∃ t, (∀ X, Good C X → PE X e t) ∧ t σ H Q
def wT (e : Expr) : TT := fun σ H Q => ∃ t, (∀ X, Good C X → PT X e t) ∧ t σ H Q
def wTs (es : List Expr) : TT := fun σ H Q => ∃ t, (∀ X, Good C X → PTs X es t) ∧ t σ H Q
def wA (es : List Expr) : TA := fun σ H Q => ∃ t, (∀ X, Good C X → PA X es t) ∧ t σ H Q
def wI (tg iter : Expr) : TI := fun σ H R => ∃ t, (∀ X, Good C X → PI X tg iter t) ∧ t σ H R
def wG (tg : Expr) : TG := fun v σ H Q => ∃ t, (∀ X, Good C X → PG X tg t) ∧ t v σ H Q
def wO (e : Option Expr) : TO := fun σ H Q => ∃ t, (∀ X, Good C X → PO X e t) ∧ t σ H Q
def wS (ss : List Stmt) : TS := fun D σ H => ∃ t, (∀ X, Good C X → PSs X ss t) ∧ t D σ H
def w1 (s : Stmt) : TS := fun D σ H => ∃ t, (∀ X, Good C X → PS X s t) ∧ t D σ H
end
section
variable {C : Ctx} {X : Cx} (g : Good C X)
include g
theorem pe_w {e : Expr} : PE X e (wE C e) := ⟨fun pins s σ H Q I ⟨_, h, q⟩ => (h X g).run pins s σ H Q I q⟩
theorem pt_w {e : Expr} : PT X e (wT C e) := ⟨fun pins s σ H Q I ⟨_, h, q⟩ => (h X g).run pins s σ H Q I q⟩
theorem pts_w {es : List Expr} : PTs X es (wTs C es) := ⟨fun pins s σ H Q I ⟨_, h, q⟩ => (h X g).run pins s σ H Q I q⟩
theorem pa_w {es : List Expr} : PA X es (wA C es) := ⟨fun pos pins s σ H Q I ⟨_, h, q⟩ => (h X g).run pos pins s σ H Q I q⟩
theorem pss_w {ss : List Stmt} : PSs X ss (wS C ss) := ⟨fun pins s σ H D I ⟨_, h, q⟩ => (h X g).run pins s σ H D I q⟩
theorem ps_w {s : Stmt} : PS X s (w1 C s) := ⟨fun pins s σ H D I ⟨_, h, q⟩ => (h X g).run pins s σ H D I q⟩
end

/-! ### judgements -/
section
variable (C : Ctx)
/-- e gives a v of which P holds, and changes nothing but at S -/
def EK (S : List Addr) (σ : L2.St) (H : Hp) (e : Expr) (P : V → Hp → Prop) : Prop := ∀ H1, Ex C.G H H1 → ∀ Q : VK, (∀ v H2, Kp C.G S H1 H2 → P v H2 → Q v H2) → wE C e σ H1 Q
abbrev E (σ : L2.St) (H : Hp) (e : Expr) (P : V → Hp → Prop) : Prop := EK C [] σ H e P
abbrev EV (σ : L2.St) (H : Hp) (e : Expr) (v : V) : Prop := E C σ H e fun u _ => u = v
/-- a new object o -/
abbrev EN (σ : L2.St) (H : Hp) (e : Expr) (o : HO) : Prop := E C σ H e fun u H' => ∃ p, u = .ref p ∧ H p = none ∧ H' p = some o
def T (σ : L2.St) (H : Hp) (e : Expr) (b : Bool) : Prop := ∀ H1, Ex C.G H H1 → ∀ Q : Bool → Hp → Prop, (∀ H2, Ex C.G H1 H2 → Q b H2) → wT C e σ H1 Q
/-- a comparison -/
def CM (σ : L2.St) (H : Hp) (op : CmpOp) (a b : Expr) (P : V → Hp → Prop) : Prop := ∀ H1, Ex C.G H H1 → ∀ Q : VK, (∀ v H2, Ex C.G H1 H2 → P v H2 → Q v H2) → ∃ t, (∀ X, Good C X → PC X op a b t) ∧ t σ H1 Q
abbrev CV (σ : L2.St) (H : Hp) (op : CmpOp) (a b : Expr) (s : Bool) : Prop := CM C σ H op a b fun u _ => u = .bl s
def Ts (σ : L2.St) (H : Hp) (es : List Expr) (b : Bool) : Prop := ∀ H1, Ex C.G H H1 → ∀ Q : Bool → Hp → Prop, (∀ H2, Ex C.G H1 H2 → Q b H2) → wTs C es σ H1 Q
def A (σ : L2.St) (H : Hp) (es : List Expr) (P : List V → Hp → Prop) : Prop := ∀ H1, Ex C.G H H1 → ∀ Q : List V → Hp → Prop, (∀ vs H2, Ex C.G H1 H2 → P vs H2 → Q vs H2) → wA C es σ H1 Q
abbrev AV (σ : L2.St) (H : Hp) (es : List Expr) (vs : List V) : Prop := A C σ H es fun us _ => us = vs
def O (σ : L2.St) (H : Hp) (e : Option Expr) (o : Option Int) : Prop := ∀ H1, Ex C.G H H1 → ∀ Q : Option Int → Hp → Prop, (∀ H2, Ex C.G H1 H2 → Q o H2) → wO C e σ H1 Q
def EG (tg : Expr) (v : V) (σ : L2.St) (H : Hp) (σ' : L2.St) : Prop := ∀ H1, Ex C.G H H1 → ∀ Q : L2.St → Hp → Prop, Q σ' H1 → wG C tg v σ H1 Q
/-- a block -/
def S (D : Ends) (σ : L2.St) (H : Hp) (ss : List Stmt) : Prop := ∀ H1, Ex C.G H H1 → wS C ss D σ H1
/-- iter walks as; each of them is told by IV; Src stands while it walks -/
def EI {α : Type} (σ : L2.St) (H : Hp) (tg iter : Expr) (as : List α) (IV : α → V → Hp → Prop) (Src : Hp → Prop) : Prop :=
  ∀ H1, Ex C.G H H1 → ∀ R : It → Hp → Prop, (∀ J H2 (Gp : Hp → Prop) (Y : Nat → Hp → V → Hp → Prop), Ex C.G H1 H2 → Walk J as.length Gp Y → (∀ Hk Ha, Src Hk → Ex C.G Hk Ha → Gp Ha) →
    (∀ i Ha x Ha', i < as.length → Y i Ha x Ha' → Ex C.G Ha Ha' ∧ ∃ a, as[i]? = some a ∧ IV a x Ha') → R J H2) → wI C tg iter σ H1 R
end
def RV (G : Gt) (S : List Addr) (r : R2) (x y : V) (H : Hp) (P : V → Hp → Prop) : Prop := ∀ H1, Ex G H H1 → ∀ Q : VK, (∀ v H2, Kp G S H1 H2 → P v H2 → Q v H2) → r x y H1 Q
def RC (G : Gt) (S : List Addr) (r : List V → Hp → VK → Prop) (vs : List V) (H : Hp) (P : V → Hp → Prop) : Prop := ∀ H1, Ex G H H1 → ∀ Q : VK, (∀ v H2, Kp G S H1 H2 → P v H2 → Q v H2) → r vs H1 Q
/-- known, or more -/
def Cl (G : Gt) (Pv : L2.St → Hp → Prop) : L2.St → Hp → Prop := fun σ H => ∃ H0, Ex G H0 H ∧ Pv σ H0
section
variable {C : Ctx} {σ σ' : L2.St} {H H' : Hp} {SS SS' : List Addr} {e a b c : Expr} {es : List Expr} {P P' Pa : V → Hp → Prop} {x y z v w : V} {r : R2} {pos p1 p2 : Pos} {s t : Bool}
theorem EK.mono (h : EK C SS σ H e P) (k : Ex C.G H H') : EK C SS σ H' e P := fun H1 q => h H1 (k.t q)
theorem T.mono (h : T C σ H e s) (k : Ex C.G H H') : T C σ H' e s := fun H1 q => h H1 (k.t q)
theorem Ts.mono (h : Ts C σ H es s) (k : Ex C.G H H') : Ts C σ H' es s := fun H1 q => h H1 (k.t q)
theorem A.mono {PA : List V → Hp → Prop} (h : A C σ H es PA) (k : Ex C.G H H') : A C σ H' es PA := fun H1 q => h H1 (k.t q)
theorem S.mono {D : Ends} {ss : List Stmt} (h : S C D σ H ss) (k : Ex C.G H H') : S C D σ H' ss := fun H1 q => h H1 (k.t q)
theorem EK.imp (h : EK C SS σ H e P) (i : ∀ v H2, Kp C.G SS H H2 → P v H2 → P' v H2) : EK C SS σ H e P' := fun H1 k Q q => h H1 k Q fun v H2 k2 p => q v H2 k2 (i v H2 (Kp.pre k k2) p)
theorem EK.is (h : EV C σ H e v) (i : v = w) : EV C σ H e w := by
  rw [← i]
  exact h
theorem T.is (h : T C σ H e s) (i : s = t) : T C σ H e t := by
  rw [← i]
  exact h
theorem EK.big (h : E C σ H e P) : EK C SS σ H e P := fun H1 k Q q => h H1 k Q fun v H2 k2 p => q v H2 k2.ex p
theorem ek_of {t : TE} (h : ∀ X, Good C X → PE X e t) (q : ∀ H1, Ex C.G H H1 → ∀ Q : VK, (∀ v H2, Kp C.G SS H1 H2 → P v H2 → Q v H2) → t σ H1 Q) : EK C SS σ H e P := fun H1 k Q hq => ⟨t, h, q H1 k Q hq⟩
theorem t_of {u : TT} (h : ∀ X, Good C X → PT X e u) (q : ∀ H1, Ex C.G H H1 → ∀ Q : Bool → Hp → Prop, (∀ H2, Ex C.G H1 H2 → Q s H2) → u σ H1 Q) : T C σ H e s := fun H1 k Q hq => ⟨u, h, q H1 k Q hq⟩
/-! names, constants -/
theorem e_var {i : Nat} {n : Str} (hN : C.N[i]? = some n) (hv : Vis C.sc n) (hσ : σ[i]? = some (some v)) (hd : (n == ("__debug__" : Str)) = false) (hcd : (n == ("__classdict__" : Str)) = false) : EV C σ H (.Name n pos) v :=
  ek_of (fun X g => pe_var (i := i) (by rw [g.N]; exact hN) (g.vis hv) hd hcd) fun H1 _ Q q => ⟨v, hσ, q v H1 Kp.refl rfl⟩
theorem ev (i : Nat) {n : Str} (hσ : σ[i]? = some (some v) := by rfl) (hN : C.N[i]? = some n := by rfl) (hv : Vis C.sc n := by first | exact Or.inl rfl | exact Or.inr (Or.inl rfl) | exact Or.inr (Or.inr rfl)) (hd : (n == ("__debug__" : Str)) = false := by decide)
    (hcd : (n == ("__classdict__" : Str)) = false := by decide) : EV C σ H (.Name n pos) v := e_var hN hv hσ hd hcd
theorem e_c {t : TE} (h : ∀ X, Good C X → PE X e (tC v)) : EV C σ H e v := ek_of h fun H1 _ Q q => q v H1 Kp.refl rfl
theorem e_int {i : Int} {j : Nat} : EV C σ H (.Constant (.int i) j pos) (.int i) := e_c (t := tC .non) fun X _ => pe_int
theorem e_bl {j : Nat} : EV C σ H (.Constant (.bool s) j pos) (.bl s) := e_c (t := tC .non) fun X _ => pe_bl
theorem e_non {j : Nat} : EV C σ H (.Constant .none j pos) .non := e_c (t := tC .non) fun X _ => pe_non
theorem e_str {n : Str} {j : Nat} : EV C σ H (.Constant (.str n) j pos) (.str n) := e_c (t := tC .non) fun X _ => pe_str
/-! operators -/
theorem e_opB {op : Operator} {Pb : V → V → Hp → Prop} (ho : ∀ X, Good C X → OpR X (binaryOp op) r) (ha : E C σ H a Pa) (hb : ∀ x H1, Ex C.G H H1 → Pa x H1 → E C σ H1 b (Pb x))
    (hr : ∀ x y H1 H2, Ex C.G H H1 → Pa x H1 → Ex C.G H1 H2 → Pb x y H2 → RV C.G [] r x y H2 P) : E C σ H (.BinOp a op b pos) P :=
  ek_of (fun X g => pe_op (ho X g) (pe_w g) (pe_w g)) fun H1 k Q q => ha H1 k _ fun x H2 k2 p2 => hb x H2 (k.t k2) p2 H2 Kp.refl _ fun y H3 k3 p3 => hr x y H2 H3 (k.t k2) p2 k3 p3 H3 Kp.refl Q fun v H4 k4 p4 => q v H4 ((k2.t k3).t k4) p4
theorem e_op {op : Operator} (ho : ∀ X, Good C X → OpR X (binaryOp op) r) (ha : EV C σ H a x) (hb : EV C σ H b y) (hr : RV C.G [] r x y H P) : E C σ H (.BinOp a op b pos) P :=
  e_opB (Pb := fun _ u _ => u = y) ho ha (fun x' H1 k _ => hb.mono k) fun x' y' H1 H2 k1 p1 k2 p2 => by
    subst p1 p2
    exact fun H3 k3 Q q => hr H3 ((k1.t k2).t k3) Q q
theorem pc_op {X : Cx} {op : CmpOp} {ta tb : TE} (ho : OpR X (compareOp op) r) (ha : PE X a ta) (hb : PE X b tb) : PC X op a b (tOp r ta tb) :=
  ⟨fun pins s σ H Q I h => thn (ha.run pins s σ H _ I h) fun v s1 ⟨x, H1, I1, r1, q1⟩ => thn (hb.run pins s1 σ H1 _ I1 q1) fun u s2 ⟨y, H2, I2, r2, q2⟩ => ho pins s2 σ H2 x y v u _ I2 r1 r2 q2⟩
theorem c_opB {op : CmpOp} {Pb : V → V → Hp → Prop} (ho : ∀ X, Good C X → OpR X (compareOp op) r) (ha : E C σ H a Pa) (hb : ∀ x H1, Ex C.G H H1 → Pa x H1 → E C σ H1 b (Pb x))
    (hr : ∀ x y H1 H2, Ex C.G H H1 → Pa x H1 → Ex C.G H1 H2 → Pb x y H2 → RV C.G [] r x y H2 P) : CM C σ H op a b P := fun H1 k Q q =>
  ⟨tOp r (wE C a) (wE C b), fun X g => pc_op (ho X g) (pe_w g) (pe_w g), ha H1 k _ fun x H2 k2 p2 => hb x H2 (k.t k2) p2 H2 Kp.refl _ fun y H3 k3 p3 => hr x y H2 H3 (k.t k2) p2 k3 p3 H3 Kp.refl Q fun v H4 k4 p4 => q v H4 ((k2.t k3).t k4) p4⟩
theorem c_op {op : CmpOp} (ho : ∀ X, Good C X → OpR X (compareOp op) r) (ha : EV C σ H a x) (hb : EV C σ H b y) (hr : RV C.G [] r x y H P) : CM C σ H op a b P :=
  c_opB (Pb := fun _ u _ => u = y) ho ha (fun x' H1 k _ => hb.mono k) (fun x' y' H1 H2 k1 p1 k2 p2 => by
    subst p1 p2
    exact fun H3 k3 Q q => hr H3 ((k1.t k2).t k3) Q q)
theorem e_k {op : CmpOp} (h : CM C σ H op a b P) (hm : behindInMarks op b = false := by first | exact nomark _ | rfl) : E C σ H (.Compare a [op] [b] pos) P := fun H1 k Q q => by
  obtain ⟨t, h1, h2⟩ := h H1 k Q q
  exact ⟨t, fun X g => pe_cmp (h1 X g) hm, h2⟩
theorem t_k {op : CmpOp} {s : Bool} (h : CV C σ H op a b s) (hm : behindInMarks op b = false := by first | exact nomark _ | rfl) : T C σ H (.Compare a [op] [b] pos) s := fun H1 k Q q => by
  obtain ⟨t, h1, h2⟩ := h H1 k (fun v H2 => ∃ d, v = .bl d ∧ Q d H2) fun v H2 k2 e => ⟨s, e, q H2 k2⟩
  exact ⟨tB t, fun X g => pt_cmp (h1 X g) hm, h2⟩
theorem CM.is {op : CmpOp} {s' : Bool} (h : CV C σ H op a b s) (e : s = s') : CV C σ H op a b s' := by
  rw [← e]
  exact h
theorem rv_I0 {G : Gt} {f : Int → Int → V} {i j : Int} : RV G [] (rI0 f) (.int i) (.int j) H fun v _ => v = f i j := fun H1 _ _ q => ⟨i, j, rfl, rfl, q _ H1 Kp.refl rfl⟩
theorem rv_I {G : Gt} {D : Int → Int → Prop} {f : Int → Int → V} {i j : Int} (hc : D i j) : RV G [] (rI D f) (.int i) (.int j) H fun v _ => v = f i j := fun H1 _ _ q => ⟨i, j, rfl, rfl, hc, q _ H1 Kp.refl rfl⟩
theorem rv_eq {G : Gt} (h : scal x y = true) : RV G [] rEq x y H fun v _ => v = .bl (decide (x = y)) := fun H1 _ _ q => ⟨h, q _ H1 Kp.refl rfl⟩
theorem rv_ne {G : Gt} (h : scal x y = true) : RV G [] rNe x y H fun v _ => v = .bl (!decide (x = y)) := fun H1 _ _ q => ⟨h, q _ H1 Kp.refl rfl⟩
theorem e_add {i j : Int} (ha : EV C σ H a (.int i)) (hb : EV C σ H b (.int j)) : EV C σ H (.BinOp a .Add b pos) (.int (i + j)) := e_op (fun X _ => op_add) ha hb rv_I0
theorem e_sub {i j : Int} (ha : EV C σ H a (.int i)) (hb : EV C σ H b (.int j)) : EV C σ H (.BinOp a .Sub b pos) (.int (i - j)) := e_op (fun X _ => op_sub) ha hb rv_I0
theorem c_eq (h : scal x y = true) (ha : EV C σ H a x) (hb : EV C σ H b y) : CV C σ H .Eq a b (decide (x = y)) := c_op (fun X _ => op_eq) ha hb (rv_eq h)
theorem c_ne (h : scal x y = true) (ha : EV C σ H a x) (hb : EV C σ H b y) : CV C σ H .NotEq a b (!decide (x = y)) := c_op (fun X _ => op_ne) ha hb (rv_ne h)
theorem c_lt {i j : Int} (ha : EV C σ H a (.int i)) (hb : EV C σ H b (.int j)) : CV C σ H .Lt a b (decide (i < j)) := c_op (fun X _ => op_lt) ha hb rv_I0
theorem c_le {i j : Int} (ha : EV C σ H a (.int i)) (hb : EV C σ H b (.int j)) : CV C σ H .LtE a b (decide (i ≤ j)) := c_op (fun X _ => op_le) ha hb rv_I0
theorem c_gt {i j : Int} (ha : EV C σ H a (.int i)) (hb : EV C σ H b (.int j)) : CV C σ H .Gt a b (decide (j < i)) := c_op (fun X _ => op_gt) ha hb rv_I0
theorem c_ge {i j : Int} (ha : EV C σ H a (.int i)) (hb : EV C σ H b (.int j)) : CV C σ H .GtE a b (decide (j ≤ i)) := c_op (fun X _ => op_ge) ha hb rv_I0
theorem c_isN {j : Nat} (ha : EV C σ H a x) : CV C σ H .Is a (.Constant .none j p1) (decide (x = .non)) := fun H1 k Q q =>
  ⟨tIsN (wE C a), fun X g => pc_isN (pe_w g), ha H1 k _ fun u H2 k2 p2 => by
    subst p2
    exact q _ H2 k2 rfl⟩
theorem c_notN {j : Nat} (ha : EV C σ H a x) : CV C σ H .IsNot a (.Constant .none j p1) (!decide (x = .non)) := fun H1 k Q q =>
  ⟨tNotN (wE C a), fun X g => pc_notN (pe_w g), ha H1 k _ fun u H2 k2 p2 => by
    subst p2
    exact q _ H2 k2 rfl⟩
/-- x in xs, x not in xs -/
theorem c_inSeq {p : Addr} {xs : List V} (ha : EV C σ H a x) (hb : EV C σ H b (.ref p)) (hs : SqL C.K H p xs ∨ SqT C.K H p xs) (hx : flatV x = true) (hxs : xs.all flatV = true) : CV C σ H .In a b (inV x xs) :=
  c_op (r := rIn C.K false) (fun X g => by rw [← g.K]; exact op_in_seq) ha hb (fun H1 k Q q => ⟨p, xs, rfl, hs.imp (ex_l k) (ex_t k), hx, hxs, q _ H1 Kp.refl rfl⟩)
theorem c_notInSeq {p : Addr} {xs : List V} (ha : EV C σ H a x) (hb : EV C σ H b (.ref p)) (hs : SqL C.K H p xs ∨ SqT C.K H p xs) (hx : flatV x = true) (hxs : xs.all flatV = true) : CV C σ H .NotIn a b (!inV x xs) :=
  c_op (r := rIn C.K true) (fun X g => by rw [← g.K]; exact op_notIn_seq) ha hb (fun H1 k Q q => ⟨p, xs, rfl, hs.imp (ex_l k) (ex_t k), hx, hxs, q _ H1 Kp.refl rfl⟩)
/-- d[k], k in d, d.get(k) -/
theorem e_dget {d : Addr} (ha : EV C σ H a (.ref d)) (hb : EV C σ H b y) (h : DGet H d y (some v)) (hs : NoSl b := by exact fun _ _ => rfl) : EV C σ H (.Subscript a b pos) v :=
  ek_of (fun X g => pe_dget g.u1 (pe_w g) (pe_w g) hs) fun H1 k Q q => ha H1 k _ fun u H2 k2 p2 => hb H2 (k.t k2) _ fun u' H3 k3 p3 => by
    subst p2 p3
    exact ⟨d, v, rfl, ex_dget ((k.t k2).t k3) h, q _ H3 (k2.t k3) rfl⟩
theorem c_din {d : Addr} {o : Option V} (ha : EV C σ H a y) (hb : EV C σ H b (.ref d)) (h : DGet H d y o) : CV C σ H .In a b o.isSome := fun H1 k Q q =>
  ⟨tDIn (wE C a) (wE C b), fun X g => pc_din g.u1 (pe_w g) (pe_w g), ha H1 k _ fun u H2 k2 p2 => hb H2 (k.t k2) _ fun u' H3 k3 p3 => by
    subst p2 p3
    exact ⟨d, o, rfl, ex_dget ((k.t k2).t k3) h, q _ H3 (k2.t k3) rfl⟩⟩
theorem c_dnotin {d : Addr} {o : Option V} (ha : EV C σ H a y) (hb : EV C σ H b (.ref d)) (h : DGet H d y o) : CV C σ H .NotIn a b (!o.isSome) := fun H1 k Q q =>
  ⟨tDNotIn (wE C a) (wE C b), fun X g => pc_dnotin g.u1 (pe_w g) (pe_w g), ha H1 k _ fun u H2 k2 p2 => hb H2 (k.t k2) _ fun u' H3 k3 p3 => by
    subst p2 p3
    exact ⟨d, o, rfl, ex_dget ((k.t k2).t k3) h, q _ H3 (k2.t k3) rfl⟩⟩
theorem isD_of {a : Addr} {r : Option V} (h : DGet H a y r) : IsD H a := by
  rcases h with ⟨kvs, k, h1, _⟩ | ⟨kvs, k, b, h1, _⟩
  · exact .inl ⟨kvs, h1⟩
  · exact .inr ⟨kvs, h1⟩
theorem e_get1 {d : Addr} {o : Option V} {ap cp : Pos} (ha : EV C σ H a (.ref d)) (hb : EV C σ H b y) (h : DGet H d y o) (m : ∀ X, Good C X → M1 X a "get" ap b cp := by exact fun _ _ => ⟨rfl, rfl, rfl, rfl⟩) : EV C σ H (.Call (.Attribute a "get" ap) [b] [] cp) (o.getD .non) :=
  ek_of (fun X g => pe_dget1 g.u1 (pe_w g) (pe_w g) (m X g)) fun H1 k Q q => ha H1 k _ fun u H2 k2 p2 => by
    subst p2
    refine ⟨d, rfl, ex_isD (k.t k2) (isD_of h), hb H2 (k.t k2) _ fun u' H3 k3 p3 => ?_⟩
    subst p3
    exact ⟨o, ex_dget ((k.t k2).t k3) h, q _ H3 (k2.t k3) rfl⟩
theorem e_get2 {d : Addr} {o : Option V} {ap cp : Pos} (ha : EV C σ H a (.ref d)) (hb : EV C σ H b y) (hc : EV C σ H c z) (h : DGet H d y o) (m : ∀ X, Good C X → M2 X a "get" ap b c cp := by exact fun _ _ => ⟨rfl, rfl, rfl, rfl⟩) : EV C σ H (.Call (.Attribute a "get" ap) [b, c] [] cp) (o.getD z) :=
  ek_of (fun X g => pe_dget2 g.u1 (pe_w g) (pe_w g) (pe_w g) (m X g)) fun H1 k Q q => ha H1 k _ fun u H2 k2 p2 => by
    subst p2
    refine ⟨d, rfl, ex_isD (k.t k2) (isD_of h), hb H2 (k.t k2) _ fun u' H3 k3 p3 => hc H3 ((k.t k2).t k3) _ fun u2 H4 k4 p4 => ?_⟩
    subst p3 p4
    exact ⟨o, ex_dget (((k.t k2).t k3).t k4) h, q _ H4 ((k2.t k3).t k4) rfl⟩
/-- xs[i] of a list, of a tuple -/
theorem e_ixL {p : Addr} {xs : List V} {i : Int} (ha : EV C σ H a (.ref p)) (hb : EV C σ H b (.int i)) (hs : SqL C.K H p xs) (h : atI xs i = some v) (hp : PlainIx b := by exact fun _ _ => rfl) : EV C σ H (.Subscript a b pos) v :=
  ek_of (t := tOp (rIxL C.K) (wE C a) (wE C b)) (fun X g => by rw [← g.K]; exact pe_ix ix_list (pe_w g) (pe_w g) hp) fun H1 k Q q => ha H1 k _ fun u H2 k2 p2 => hb H2 (k.t k2) _ fun u' H3 k3 p3 => by
    subst p2 p3
    exact ⟨p, xs, i, v, rfl, rfl, ex_l ((k.t k2).t k3) hs, h, q _ H3 (k2.t k3) rfl⟩
theorem e_ixT {p : Addr} {xs : List V} {i : Int} (ha : EV C σ H a (.ref p)) (hb : EV C σ H b (.int i)) (hs : SqT C.K H p xs) (h : atI xs i = some v) (hp : PlainIx b := by exact fun _ _ => rfl) : EV C σ H (.Subscript a b pos) v :=
  ek_of (t := tOp (rIxT C.K) (wE C a) (wE C b)) (fun X g => by rw [← g.K]; exact pe_ix ix_tup (pe_w g) (pe_w g) hp) fun H1 k Q q => ha H1 k _ fun u H2 k2 p2 => hb H2 (k.t k2) _ fun u' H3 k3 p3 => by
    subst p2 p3
    exact ⟨p, xs, i, v, rfl, rfl, ex_t ((k.t k2).t k3) hs, h, q _ H3 (k2.t k3) rfl⟩
/-- o.f -/
theorem e_fld {p Cl dx : Addr} {fs : List (Str × V)} {f : Str} (ha : EV C σ H a (.ref p)) (ho : H p = some (.ins Cl dx fs)) (hc : Cls C.K Cl) (hn : NoAttr C.K Cl f) (hl : fs.lookup f = some v) (hb : ∀ X, Good C X → attributeBase a f X.env (eval a X.env) = eval a X.env := by exact fun _ _ => rfl) : EV C σ H (.Attribute a f pos) v :=
  ek_of (t := tFld C.K (wE C a) f) (fun X g => by rw [← g.K]; exact pe_fld (pe_w g) (hb X g)) fun H1 k Q q => ha H1 k _ fun u H2 k2 p2 => by
    subst p2
    exact ⟨p, Cl, dx, fs, v, rfl, (k.t k2).xat ho, hc, hn, hl, q _ H2 k2 rfl⟩
/-! tests -/
theorem t_val (ha : EV C σ H e (.bl s)) (he : ∀ X, Good C X → ∀ whole, isTrue e X.env whole = (do let v ← whole; standAt e.pos; holding [v] (truthy v)) := by exact fun _ _ _ => rfl) : T C σ H e s :=
  t_of (fun X g => pt_val (pe_w g) (he X g)) fun H1 k Q q => ha H1 k _ fun u H2 k2 p2 => ⟨s, p2, q H2 k2⟩
theorem t_not (ha : T C σ H a s) : T C σ H (.UnaryOp .Not a pos) (!s) := t_of (fun X g => pt_not (pt_w g)) fun H1 k Q q => ha H1 k _ fun H2 k2 => q H2 k2
theorem t_and (ha : T C σ H a s) (hb : s = true → T C σ H b t) : T C σ H (.BoolOp .And [a, b] pos) (s && t) :=
  t_of (fun X g => PW.pt (pw_and (pt_w g) (pw_and1 (pt_w g)))) fun H1 k Q q => ha H1 k _ fun H2 k2 => by
    cases s with
    | true =>
      show wT C b σ H2 Q
      exact hb rfl H2 (k.t k2) Q fun H3 k3 => q H3 (k2.t k3)
    | false => exact q H2 k2
theorem t_or (ha : T C σ H a s) (hb : s = false → T C σ H b t) : T C σ H (.BoolOp .Or [a, b] pos) (s || t) :=
  t_of (fun X g => PW.pt (pw_or (pt_w g) (pw_or1 (pt_w g)))) fun H1 k Q q => ha H1 k _ fun H2 k2 => by
    cases s with
    | true => exact q H2 k2
    | false =>
      show wT C b σ H2 Q
      exact hb rfl H2 (k.t k2) Q fun H3 k3 => q H3 (k2.t k3)
theorem t_and3 {u : Bool} (ha : T C σ H a s) (hb : s = true → T C σ H b t) (hc : s = true → t = true → T C σ H c u) : T C σ H (.BoolOp .And [a, b, c] pos) (s && t && u) :=
  t_of (fun X g => PW.pt (pw_and (pt_w g) (pw_and (pt_w g) (pw_and1 (pt_w g))))) fun H1 k Q q => ha H1 k _ fun H2 k2 => by
    cases s with
    | true =>
      show tAnd (wT C b) (wT C c) σ H2 Q
      refine hb rfl H2 (k.t k2) _ fun H3 k3 => ?_
      cases t with
      | true =>
        show wT C c σ H3 Q
        exact hc rfl rfl H3 ((k.t k2).t k3) Q fun H4 k4 => q H4 ((k2.t k3).t k4)
      | false => exact q H3 (k2.t k3)
    | false => exact q H2 k2
/-! and, or, not, if as values -/
theorem e_and (ha : EV C σ H a (.bl s)) (hb : s = true → EV C σ H b (.bl t)) : EV C σ H (.BoolOp .And [a, b] pos) (.bl (s && t)) :=
  ek_of (fun X g => pe_and (pe_w g) (pe_one (pe_w g))) fun H1 k Q q => ha H1 k _ fun u H2 k2 p2 => ⟨s, p2, by
    cases s with
    | true =>
      show wE C b σ H2 Q
      exact hb rfl H2 (k.t k2) Q fun v H3 k3 p3 => q v H3 (k2.t k3) p3
    | false => exact q _ H2 k2 rfl⟩
/-- a and b, a is True: what b gives -/
theorem e_andT (ha : EV C σ H a (.bl true)) (hb : E C σ H b P) : E C σ H (.BoolOp .And [a, b] pos) P :=
  ek_of (fun X g => pe_and (pe_w g) (pe_one (pe_w g))) fun H1 k Q q => ha H1 k _ fun u H2 k2 p2 => ⟨true, p2, by
    show wE C b σ H2 Q
    exact hb H2 (k.t k2) Q fun v H3 k3 p3 => q v H3 (k2.t k3) p3⟩
theorem e_or (ha : EV C σ H a (.bl s)) (hb : s = false → EV C σ H b (.bl t)) : EV C σ H (.BoolOp .Or [a, b] pos) (.bl (s || t)) :=
  ek_of (fun X g => pe_or (pe_w g) (pe_one (pe_w g))) fun H1 k Q q => ha H1 k _ fun u H2 k2 p2 => ⟨s, p2, by
    cases s with
    | true => exact q _ H2 k2 rfl
    | false =>
      show wE C b σ H2 Q
      exact hb rfl H2 (k.t k2) Q fun v H3 k3 p3 => q v H3 (k2.t k3) p3⟩
theorem e_not (ha : EV C σ H a (.bl s)) : EV C σ H (.UnaryOp .Not a pos) (.bl (!s)) :=
  ek_of (fun X g => pe_not (pe_w g)) fun H1 k Q q => ha H1 k _ fun u H2 k2 p2 => ⟨s, p2, q _ H2 k2 rfl⟩
theorem e_ifT (hc : T C σ H c true) (ha : EK C SS σ H a P) : EK C SS σ H (.IfExp c a b pos) P :=
  ek_of (fun X g => pe_ifExp (pt_w g) (pe_w g) (pe_w g)) fun H1 k Q q => hc H1 k _ fun H2 k2 => by
    show wE C a σ H2 Q
    exact ha H2 (k.t k2) Q fun v H3 k3 p3 => q v H3 (Kp.pre k2 k3) p3
theorem e_ifF (hc : T C σ H c false) (hb : EK C SS σ H b P) : EK C SS σ H (.IfExp c a b pos) P :=
  ek_of (fun X g => pe_ifExp (pt_w g) (pe_w g) (pe_w g)) fun H1 k Q q => hc H1 k _ fun H2 k2 => by
    show wE C b σ H2 Q
    exact hb H2 (k.t k2) Q fun v H3 k3 p3 => q v H3 (Kp.pre k2 k3) p3
/-- i <= x < j -/
theorem e_chain {op op' : CmpOp} {f f' : Int → Int → Bool} {i j l : Int} (ho : ∀ X, Good C X → OpR X (compareOp op) (rI0 fun i j => .bl (f i j))) (ho' : ∀ X, Good C X → OpR X (compareOp op') (rI0 fun i j => .bl (f' i j)))
    (ha : EV C σ H a (.int i)) (hb : EV C σ H b (.int j)) (hc : EV C σ H c (.int l)) (hm : lastMarks [op, op'] [b, c] = false := by with_unfolding_all rfl) : EV C σ H (.Compare a [op, op'] [b, c] pos) (.bl (f i j && f' j l)) :=
  ek_of (fun X g => pe_chain (ho X g) (ho' X g) (pe_w g) (pe_w g) (pe_w g) hm) fun H1 k Q q => ha H1 k _ fun u H2 k2 p2 => hb H2 (k.t k2) _ fun u2 H3 k3 p3 => by
    subst p2 p3
    refine ⟨i, j, rfl, rfl, f i j, rfl, ?_⟩
    cases hf : f i j with
    | true =>
      refine iteT (hc H3 ((k.t k2).t k3) _ fun u4 H4 k4 p4 => ?_)
      subst p4
      exact ⟨j, l, rfl, rfl, q _ H4 ((k2.t k3).t k4) (by rw [hf]; rfl)⟩
    | false => exact iteF (q _ H3 (k2.t k3) (by rw [hf]; rfl))
theorem t_chain {op op' : CmpOp} {f f' : Int → Int → Bool} {i j l : Int} (ho : ∀ X, Good C X → OpR X (compareOp op) (rI0 fun i j => .bl (f i j))) (ho' : ∀ X, Good C X → OpR X (compareOp op') (rI0 fun i j => .bl (f' i j)))
    (ha : EV C σ H a (.int i)) (hb : EV C σ H b (.int j)) (hc : EV C σ H c (.int l)) (hm : lastMarks [op, op'] [b, c] = false := by with_unfolding_all rfl) : T C σ H (.Compare a [op, op'] [b, c] pos) (f i j && f' j l) :=
  t_of (fun X g => pt_chain (ho X g) (ho' X g) (pe_w g) (pe_w g) (pe_w g) hm) fun H1 k Q q => ha H1 k _ fun u H2 k2 p2 => hb H2 (k.t k2) _ fun u2 H3 k3 p3 => by
    subst p2 p3
    refine ⟨i, j, rfl, rfl, f i j, rfl, ?_⟩
    cases hf : f i j with
    | true =>
      refine iteT (hc H3 ((k.t k2).t k3) _ fun u4 H4 k4 p4 => ?_)
      subst p4
      exact ⟨j, l, rfl, rfl, _, rfl, by have := q H4 ((k2.t k3).t k4); rwa [hf] at this⟩
    | false => exact iteF ⟨false, rfl, by have := q H3 (k2.t k3); rwa [hf] at this⟩
/-! arguments, displays -/
variable {PA : List V → Hp → Prop}
theorem a_nil : AV C σ H [] [] := fun H1 k Q q => ⟨tNil, fun _ _ => pa_nil, q _ H1 Kp.refl rfl⟩
theorem a_consB (ha : E C σ H a Pa) (hr : ∀ x H1, Ex C.G H H1 → Pa x H1 → A C σ H1 es fun vs H2 => PA (x :: vs) H2) (hs : ∀ X, Good C X → starEach (a :: es) X.env = (false, eval a X.env) :: starEach es X.env := by exact fun _ _ => rfl) : A C σ H (a :: es) PA := fun H1 k Q q =>
  ⟨tCons (wE C a) (wA C es), fun X g => pa_cons (pe_w g) (pa_w g) (hs X g), ha H1 k _ fun x H2 k2 p2 => hr x H2 (k.t k2) p2 H2 Kp.refl _ fun vs H3 k3 p3 => q _ H3 (k2.t k3) p3⟩
theorem a_cons {vs : List V} (ha : EV C σ H a x) (hr : AV C σ H es vs) (hs : ∀ X, Good C X → starEach (a :: es) X.env = (false, eval a X.env) :: starEach es X.env := by exact fun _ _ => rfl) : AV C σ H (a :: es) (x :: vs) :=
  a_consB ha (fun x' H1 k p => by
    subst p
    exact fun H2 k2 Q q => hr H2 (k.t k2) Q fun us H3 k3 p3 => q us H3 k3 (by rw [p3])) hs
theorem a_1 (ha : EV C σ H a x) (hs : ∀ X, Good C X → starEach [a] X.env = (false, eval a X.env) :: starEach [] X.env := by exact fun _ _ => rfl) : AV C σ H [a] [x] := a_cons ha a_nil hs
theorem a_1B (ha : E C σ H a Pa) (hs : ∀ X, Good C X → starEach [a] X.env = (false, eval a X.env) :: starEach [] X.env := by exact fun _ _ => rfl) : A C σ H [a] (fun vs H' => ∃ x, vs = [x] ∧ Pa x H') := fun H1 k Q q =>
  ⟨tCons (wE C a) tNil, fun X g => pa_cons (pe_w g) pa_nil (hs X g), ha H1 k _ fun x H2 k2 p2 => q _ H2 k2 ⟨x, rfl, p2⟩⟩
theorem e_tup {vs : List V} {x1} (h : AV C σ H es vs) (hl : vs.length ≤ 1000000 := by first | decide | exact Nat.le_of_ble_eq_true rfl) : EN C σ H (.Tuple es x1 pos) (.tup vs) :=
  ek_of (fun X g => pe_tup (pa_w g)) fun H1 k Q q => h H1 k _ fun us H2 k2 p2 => by
    subst p2
    exact ⟨sz_of hl, fun p hp => q _ _ (k2.new2 hp) ⟨p, rfl, (k.t k2).free hp, upd_same⟩⟩
theorem e_tupB {x1} (h : A C σ H es PA) (hl : ∀ vs H1, PA vs H1 → vs.length ≤ 1000000) : E C σ H (.Tuple es x1 pos) fun u H' => ∃ p vs H1, u = .ref p ∧ H p = none ∧ H1 p = none ∧ H' p = some (.tup vs) ∧ PA vs H1 ∧ Ex C.G H H1 ∧ Ex C.G H1 H' :=
  ek_of (fun X g => pe_tup (pa_w g)) fun H1 k Q q => h H1 k _ fun us H2 k2 p2 => 
    ⟨sz_of (hl us H2 p2), fun p hp => q _ _ (k2.new2 hp) ⟨p, us, H2, rfl, (k.t k2).free hp, hp, upd_same, p2, k.t k2, Ex.new hp⟩⟩
theorem e_lst {vs : List V} (h : AV C σ H es vs) (hl : vs.length ≤ 1000000 := by first | decide | exact Nat.le_of_ble_eq_true rfl) : EN C σ H (.List es pos) (.lst vs) :=
  ek_of (fun X g => pe_lst (pa_w g)) fun H1 k Q q => h H1 k _ fun us H2 k2 p2 => by
    subst p2
    exact ⟨sz_of hl, fun p hp => q _ _ (k2.new2 hp) ⟨p, rfl, (k.t k2).free hp, upd_same⟩⟩
theorem e_lstB (h : A C σ H es PA) (hl : ∀ vs H1, PA vs H1 → vs.length ≤ 1000000) : E C σ H (.List es pos) fun u H' => ∃ p vs H1, u = .ref p ∧ H p = none ∧ H1 p = none ∧ H' p = some (.lst vs) ∧ PA vs H1 ∧ Ex C.G H H1 ∧ Ex C.G H1 H' :=
  ek_of (fun X g => pe_lst (pa_w g)) fun H1 k Q q => h H1 k _ fun us H2 k2 p2 => 
    ⟨sz_of (hl us H2 p2), fun p hp => q _ _ (k2.new2 hp) ⟨p, us, H2, rfl, (k.t k2).free hp, hp, upd_same, p2, k.t k2, Ex.new hp⟩⟩
theorem e_dnew : EN C σ H (.Dict [] [] pos) (.dK []) := ek_of (fun X g => pe_dnewK) fun H1 k Q q p hp => q _ _ (Ex.new hp) ⟨p, rfl, k.free hp, upd_same⟩
theorem e_dnewT : EN C σ H (.Dict [] [] pos) (.dT []) := ek_of (fun X g => pe_dnewT) fun H1 k Q q p hp => q _ _ (Ex.new hp) ⟨p, rfl, k.free hp, upd_same⟩
end
end Pm
end
/-! ## Kc -/
section
set_option Elab.async false
set_option linter.all false
set_option maxRecDepth 100000
set_option maxHeartbeats 2000000
namespace Pm
open PySem L2
/-! ### promises, calls -/
abbrev Pre := List V → Hp → List Addr → (V → Hp → Prop) → Prop
def spM (G : Gt) (pre : Pre) : Sp := fun vs H Q _ => TOk G H ∧ ∃ S P, pre vs H S P ∧ ∀ v H', Kp G S H H' → P v H' → Q v H'
def PreEx (G : Gt) (pre : Pre) : Prop := ∀ vs H H' S P, Ex G H H' → pre vs H S P → pre vs H' S P
structure GF (B : Bs) (k : Nat) (x : Str) (pre : Pre) : Prop where
  ex : ∃ f fd ps, B.mg x = some (.ref f) ∧ PySem.W.keepIn B.K (.ref f) = true ∧ Binds B.K fd ps [] ∧ FnOk B.P B.w B.K B.mg B.base CX0 k f fd ps (spM B.G pre)
  cl : PreEx B.G pre
structure GM (B : Bs) (k : Nat) (Cl : Addr) (m : Str) (pre : Pre) : Prop where
  ex : ∃ f fd ps, Cls B.K Cl ∧ Meth B.K Cl m f ∧ Binds B.K fd ps [] ∧ FnOk B.P B.w B.K B.mg B.base CX0 k f fd ps (spM B.G pre)
  cl : PreEx B.G pre
structure GK (B : Bs) (k : Nat) (x : Str) (Cl : Addr) (pre : Pre) : Prop where
  ex : ∃ f fd ps, B.mg x = some (.ref Cl) ∧ Mk B.K Cl f ∧ Binds B.K fd ps [] ∧ FnOk B.P B.w B.K B.mg B.base CX0 k f fd ps (spM B.G pre)
  cl : PreEx B.G pre
section
variable {C : Ctx} {σ σ' : L2.St} {H H' : Hp} {SS SS' : List Addr} {e a b c o : Expr} {es : List Expr} {P P' Pa : V → Hp → Prop} {x y z v w : V} {r : R2} {pos p1 p2 : Pos} {s t : Bool} {k : Nat} {n m : Str} {pre : Pre} {PA : List V → Hp → Prop} {Cl p dx : Addr} {fs : List (Str × V)}
theorem Good.fn' {X : Cx} {f : Addr} {fd : FuncData} {ps : List Str} {sp : Sp} (g : Good C X) (F : FnOk C.P C.w C.K C.mg C.base CX0 k f fd ps sp) : FnOk X.prog X.w X.K X.mg X.base CX0 k f fd ps sp := by
  rw [g.P, g.w, g.K, g.mg, g.base]
  exact F
theorem e_callB (F : GF C.toBs k n pre) (hk : k ≤ C.k) (ht : TOk C.G H) (ha : A C σ H (e :: es) PA) (hp : ∀ vs H1, Ex C.G H H1 → PA vs H1 → pre vs H1 SS P) (hg : C.sc.names.lookup n = some .globalImplicit := by rfl) (hdb : (n == ("__debug__" : Str)) = false := by decide)
    (he : ∀ X, Good C X → starEach (e :: es) X.env = (false, eval e X.env) :: starEach es X.env := by exact fun _ _ => rfl) (hpl : ∀ X, Good C X → (backTo pos (starEach es X.env)).any (·.1) = false := by exact fun _ _ => rfl) : EK C SS σ H (.Call (.Name n p1) (e :: es) [] pos) P := by
  obtain ⟨f, fd, ps, hm, kp, hb, F'⟩ := F.ex
  refine ek_of (t := tCall (spM C.G pre) [] E0 (wA C (e :: es))) (fun X g => pe_call (CX := CX0) (g.fn' F') (g.room.mono hk) (g.gl hg) (by rw [g.mg]; exact hm) (by rw [g.K]; exact kp) (by rw [g.K]; exact hb) .nil pass0 (pa_w g) hdb (he X g) (hpl X g)) fun H1 k1 Q q => ?_
  refine ha H1 k1 _ fun vs H2 k2 p2 => ?_
  rw [List.append_nil]
  exact ⟨(k1.t k2).tok ht, SS, P, hp vs H2 (k1.t k2) p2, fun v H3 k3 p3 => q v H3 (Kp.pre k2 k3) p3⟩
theorem e_call {vs : List V} (F : GF C.toBs k n pre) (hk : k ≤ C.k) (ht : TOk C.G H) (ha : AV C σ H (e :: es) vs) (hp : pre vs H SS P) (hg : C.sc.names.lookup n = some .globalImplicit := by rfl) (hdb : (n == ("__debug__" : Str)) = false := by decide)
    (he : ∀ X, Good C X → starEach (e :: es) X.env = (false, eval e X.env) :: starEach es X.env := by exact fun _ _ => rfl) (hpl : ∀ X, Good C X → (backTo pos (starEach es X.env)).any (·.1) = false := by exact fun _ _ => rfl) : EK C SS σ H (.Call (.Name n p1) (e :: es) [] pos) P :=
  e_callB F hk ht ha (fun vs' H1 k1 z => by
    subst z
    exact F.cl _ _ _ _ _ k1 hp) hg hdb he hpl
theorem e_call0 (F : GF C.toBs k n pre) (hk : k ≤ C.k) (ht : TOk C.G H) (hp : pre [] H SS P) (hg : C.sc.names.lookup n = some .globalImplicit := by rfl) (hdb : (n == ("__debug__" : Str)) = false := by decide) : EK C SS σ H (.Call (.Name n p1) [] [] pos) P := by
  obtain ⟨f, fd, ps, hm, kp, hb, F'⟩ := F.ex
  refine ek_of (t := tCall (spM C.G pre) [] E0 tNil) (fun X g => pe_call0 (CX := CX0) (g.fn' F') (g.room.mono hk) (g.gl hg) (by rw [g.mg]; exact hm) (by rw [g.K]; exact kp) (by rw [g.K]; exact hb) .nil pass0 hdb) fun H1 k1 Q q => ?_
  exact ⟨k1.tok ht, SS, P, F.cl _ _ _ _ _ k1 hp, fun v H3 k3 p3 => q v H3 k3 p3⟩
theorem e_methB (M : GM C.toBs k Cl m pre) (hk : k ≤ C.k) (ht : TOk C.G H) (ho : EV C σ H o (.ref p)) (hi : H p = some (.ins Cl dx fs)) (hl : fs.lookup m = none) (ha : A C σ H (e :: es) PA) (hp : ∀ vs H1, Ex C.G H H1 → PA vs H1 → pre (.ref p :: vs) H1 SS P) {pl : Cx → Sem Bool}
    (hst : ∀ X, Good C X → starEach (e :: es) X.env = (false, eval e X.env) :: starEach es X.env := by exact fun _ _ => rfl) (hpl : ∀ X, Good C X → (backTo pos (starEach es X.env)).any (·.1) = false := by exact fun _ _ => rfl)
    (hev : ∀ X, Good C X → eval (.Call (.Attribute o m p1) (e :: es) [] pos) X.env = (do
      let ov ← eval o X.env
      standAt p1.atName
      let (f, first) ← holding [ov] (getMethod ov m (pl X))
      callWith pos f first (backTo pos (starEach (e :: es) X.env)) (backToKw pos (keywordEach [] X.env))) := by exact fun _ _ => rfl) : EK C SS σ H (.Call (.Attribute o m p1) (e :: es) [] pos) P := by
  obtain ⟨f, fd, ps, cl, hm, hb, F'⟩ := M.ex
  refine ek_of (t := tMeth Cl m (spM C.G pre) [] E0 (wE C o) (wA C (e :: es))) (fun X g => pe_meth (CX := CX0) (pl := pl X) (pe_w g) (by rw [g.K]; exact cl) (by rw [g.K]; exact hm) (g.fn' F') (g.room.mono hk) (by rw [g.K]; exact hb) .nil pass0 (pa_w g) (hst X g) (hpl X g) (hev X g)) fun H1 k1 Q q => ?_
  refine ho H1 k1 _ fun u H2 k2 p2 => ?_
  subst p2
  refine ⟨p, dx, fs, rfl, (k1.t k2).xat hi, hl, ha H2 (k1.t k2) _ fun vs H3 k3 p3 => ?_⟩
  rw [List.append_nil]
  exact ⟨((k1.t k2).t k3).tok ht, SS, P, hp vs H3 ((k1.t k2).t k3) p3, fun v H4 k4 p4 => q v H4 (Kp.pre (k2.t k3) k4) p4⟩
theorem e_meth {vs : List V} (M : GM C.toBs k Cl m pre) (hk : k ≤ C.k) (ht : TOk C.G H) (ho : EV C σ H o (.ref p)) (hi : H p = some (.ins Cl dx fs)) (hl : fs.lookup m = none) (ha : AV C σ H (e :: es) vs) (hp : pre (.ref p :: vs) H SS P) {pl : Cx → Sem Bool}
    (hst : ∀ X, Good C X → starEach (e :: es) X.env = (false, eval e X.env) :: starEach es X.env := by exact fun _ _ => rfl) (hpl : ∀ X, Good C X → (backTo pos (starEach es X.env)).any (·.1) = false := by exact fun _ _ => rfl)
    (hev : ∀ X, Good C X → eval (.Call (.Attribute o m p1) (e :: es) [] pos) X.env = (do
      let ov ← eval o X.env
      standAt p1.atName
      let (f, first) ← holding [ov] (getMethod ov m (pl X))
      callWith pos f first (backTo pos (starEach (e :: es) X.env)) (backToKw pos (keywordEach [] X.env))) := by exact fun _ _ => rfl) : EK C SS σ H (.Call (.Attribute o m p1) (e :: es) [] pos) P :=
  e_methB M hk ht ho hi hl ha (fun vs' H1 k1 z => by
    subst z
    exact M.cl _ _ _ _ _ k1 hp) (pl := pl) hst hpl hev
theorem e_meth0 (M : GM C.toBs k Cl m pre) (hk : k ≤ C.k) (ht : TOk C.G H) (ho : EV C σ H o (.ref p)) (hi : H p = some (.ins Cl dx fs)) (hl : fs.lookup m = none) (hp : pre [.ref p] H SS P) {pl : Cx → Sem Bool}
    (hev : ∀ X, Good C X → eval (.Call (.Attribute o m p1) [] [] pos) X.env = (do
      let ov ← eval o X.env
      standAt p1.atName
      let (f, first) ← holding [ov] (getMethod ov m (pl X))
      callWith pos f first (backTo pos (starEach [] X.env)) (backToKw pos (keywordEach [] X.env))) := by exact fun _ _ => rfl) : EK C SS σ H (.Call (.Attribute o m p1) [] [] pos) P := by
  obtain ⟨f, fd, ps, cl, hm, hb, F'⟩ := M.ex
  refine ek_of (t := tMeth Cl m (spM C.G pre) [] E0 (wE C o) tNil) (fun X g => pe_meth0 (CX := CX0) (pl := pl X) (pe_w g) (by rw [g.K]; exact cl) (by rw [g.K]; exact hm) (g.fn' F') (g.room.mono hk) (by rw [g.K]; exact hb) .nil pass0 (hev X g)) fun H1 k1 Q q => ?_
  refine ho H1 k1 _ fun u H2 k2 p2 => ?_
  subst p2
  exact ⟨p, dx, fs, rfl, (k1.t k2).xat hi, hl, (k1.t k2).tok ht, SS, P, M.cl _ _ _ _ _ (k1.t k2) hp, fun v H4 k4 p4 => q v H4 (Kp.pre k2 k4) p4⟩
/-- a new instance: its __init__ changes it alone -/
theorem e_makeB {PP : Addr → Hp → Prop} (F : GK C.toBs k n Cl pre) (hk : k + 1 ≤ C.k) (ht : TOk C.G H) (ha : A C σ H (e :: es) PA)
    (hp : ∀ vs H1 p dx H2, Ex C.G H H1 → PA vs H1 → H1 p = none → Ex C.G H1 H2 → H2 p = some (.ins Cl dx []) → pre (.ref p :: vs) H2 [p] (fun v H' => v = .non ∧ PP p H')) (hg : C.sc.names.lookup n = some .globalImplicit := by rfl) (hdb : (n == ("__debug__" : Str)) = false := by decide)
    (he : ∀ X, Good C X → starEach (e :: es) X.env = (false, eval e X.env) :: starEach es X.env := by exact fun _ _ => rfl) (hpl : ∀ X, Good C X → (backTo pos (starEach es X.env)).any (·.1) = false := by exact fun _ _ => rfl) :
    E C σ H (.Call (.Name n p1) (e :: es) [] pos) fun v H' => ∃ p, v = .ref p ∧ H p = none ∧ PP p H' := by
  obtain ⟨f, fd, ps, hm, mk, hb, F'⟩ := F.ex
  refine ek_of (t := tMake Cl (spM C.G pre) [] E0 (wA C (e :: es))) (fun X g => pe_make (CX := CX0) (by rw [g.K]; exact mk) (g.fn' F') (g.room.mono hk) (g.gl hg) (by rw [g.mg]; exact hm) (by rw [g.K]; exact hb) .nil pass0 (pa_w g) hdb (he X g) (hpl X g)) fun H1 k1 Q q => ?_
  refine ha H1 k1 _ fun vs H2 k2 p2 p dx hx hd ne => ?_
  rw [List.append_nil]
  have k3 : Ex C.G H2 (upd (upd H2 dx (.own p)) p (.ins Cl dx [])) := (Ex.new hd).t (Ex.new (by rw [upd_ne (Ne.symm ne)]; exact hx))
  refine ⟨((k1.t k2).t k3).tok ht, [p], _, hp vs H2 p dx _ (k1.t k2) p2 hx k3 upd_same, fun v H4 k4 p4 => ⟨p4.1, q _ _ ?_ ⟨p, rfl, (k1.t k2).free hx, p4.2⟩⟩⟩
  exact k2.t (Kp.step k3 k4 fun x hx' => .inr (by rw [List.mem_singleton.mp hx']; exact hx))
theorem e_make0 {PP : Addr → Hp → Prop} (F : GK C.toBs k n Cl pre) (hk : k + 1 ≤ C.k) (ht : TOk C.G H)
    (hp : ∀ p dx H2, H p = none → Ex C.G H H2 → H2 p = some (.ins Cl dx []) → pre [.ref p] H2 [p] (fun v H' => v = .non ∧ PP p H')) (hg : C.sc.names.lookup n = some .globalImplicit := by rfl) (hdb : (n == ("__debug__" : Str)) = false := by decide) :
    E C σ H (.Call (.Name n p1) [] [] pos) fun v H' => ∃ p, v = .ref p ∧ H p = none ∧ PP p H' := by
  obtain ⟨f, fd, ps, hm, mk, hb, F'⟩ := F.ex
  refine ek_of (t := tMake Cl (spM C.G pre) [] E0 tNil) (fun X g => pe_make0 (CX := CX0) (by rw [g.K]; exact mk) (g.fn' F') (g.room.mono hk) (g.gl hg) (by rw [g.mg]; exact hm) (by rw [g.K]; exact hb) .nil pass0 hdb) fun H1 k1 Q q => ?_
  intro p dx hx hd ne
  have k3 : Ex C.G H1 (upd (upd H1 dx (.own p)) p (.ins Cl dx [])) := (Ex.new hd).t (Ex.new (by rw [upd_ne (Ne.symm ne)]; exact hx))
  refine ⟨(k1.t k3).tok ht, [p], _, hp p dx _ (k1.free hx) (k1.t k3) upd_same, fun v H4 k4 p4 => ⟨p4.1, q _ _ ?_ ⟨p, rfl, k1.free hx, p4.2⟩⟩⟩
  exact Kp.step k3 k4 fun x hx' => .inr (by rw [List.mem_singleton.mp hx']; exact hx)
/-- a built-in -/
theorem e_bltB {id : String} {rr : List V → Hp → VK → Prop} (hc : ∀ X, Good C X → CallR X (.builtin id) rr) (hm : C.mg n = none) (hv : bootBuiltins n = some (.builtin id)) (ha : A C σ H (e :: es) PA) (hr : ∀ vs H1, Ex C.G H H1 → PA vs H1 → RC C.G SS rr vs H1 P)
    (hg : C.sc.names.lookup n = some .globalImplicit := by rfl) (hn : n ≠ "__name__" := by decide) (hdb : (n == ("__debug__" : Str)) = false := by decide)
    (he : ∀ X, Good C X → starEach (e :: es) X.env = (false, eval e X.env) :: starEach es X.env := by exact fun _ _ => rfl) (hpl : ∀ X, Good C X → (backTo pos (starEach es X.env)).any (·.1) = false := by exact fun _ _ => rfl) : EK C SS σ H (.Call (.Name n p1) (e :: es) [] pos) P :=
  ek_of (fun X g => pe_callB (hc X g) (g.gl hg) (by rw [g.mg]; exact hm) hv (pa_w g) hn hdb (he X g) (hpl X g)) fun H1 k1 Q q => ha H1 k1 _ fun vs H2 k2 p2 => hr vs H2 (k1.t k2) p2 H2 Kp.refl Q fun v H3 k3 p3 => q v H3 (Kp.pre k2 k3) p3
theorem e_blt {id : String} {rr : List V → Hp → VK → Prop} {vs : List V} (hc : ∀ X, Good C X → CallR X (.builtin id) rr) (hm : C.mg n = none) (hv : bootBuiltins n = some (.builtin id)) (ha : AV C σ H (e :: es) vs) (hr : RC C.G SS rr vs H P)
    (hg : C.sc.names.lookup n = some .globalImplicit := by rfl) (hn : n ≠ "__name__" := by decide) (hdb : (n == ("__debug__" : Str)) = false := by decide)
    (he : ∀ X, Good C X → starEach (e :: es) X.env = (false, eval e X.env) :: starEach es X.env := by exact fun _ _ => rfl) (hpl : ∀ X, Good C X → (backTo pos (starEach es X.env)).any (·.1) = false := by exact fun _ _ => rfl) : EK C SS σ H (.Call (.Name n p1) (e :: es) [] pos) P :=
  e_bltB hc hm hv ha (fun vs' H1 k1 z => by
    subst z
    exact fun H2 k2 Q q => hr H2 (k1.t k2) Q q) hg hn hdb he hpl
theorem e_tyB {TT : String} {rr : List V → Hp → VK → Prop} (hc : ∀ X, Good C X → CallR X (.type TT) rr) (hm : C.mg n = none) (hv : bootBuiltins n = some (.type TT)) (ha : A C σ H (e :: es) PA) (hr : ∀ vs H1, Ex C.G H H1 → PA vs H1 → RC C.G SS rr vs H1 P)
    (hg : C.sc.names.lookup n = some .globalImplicit := by rfl) (hn : n ≠ "__name__" := by decide) (hdb : (n == ("__debug__" : Str)) = false := by decide)
    (he : ∀ X, Good C X → starEach (e :: es) X.env = (false, eval e X.env) :: starEach es X.env := by exact fun _ _ => rfl) (hpl : ∀ X, Good C X → (backTo pos (starEach es X.env)).any (·.1) = false := by exact fun _ _ => rfl) : EK C SS σ H (.Call (.Name n p1) (e :: es) [] pos) P :=
  ek_of (fun X g => pe_callTy (hc X g) (g.gl hg) (by rw [g.mg]; exact hm) hv (pa_w g) hn hdb (he X g) (hpl X g)) fun H1 k1 Q q => ha H1 k1 _ fun vs H2 k2 p2 => hr vs H2 (k1.t k2) p2 H2 Kp.refl Q fun v H3 k3 p3 => q v H3 (Kp.pre k2 k3) p3
theorem e_ty {TT : String} {rr : List V → Hp → VK → Prop} {vs : List V} (hc : ∀ X, Good C X → CallR X (.type TT) rr) (hm : C.mg n = none) (hv : bootBuiltins n = some (.type TT)) (ha : AV C σ H (e :: es) vs) (hr : RC C.G SS rr vs H P)
    (hg : C.sc.names.lookup n = some .globalImplicit := by rfl) (hn : n ≠ "__name__" := by decide) (hdb : (n == ("__debug__" : Str)) = false := by decide)
    (he : ∀ X, Good C X → starEach (e :: es) X.env = (false, eval e X.env) :: starEach es X.env := by exact fun _ _ => rfl) (hpl : ∀ X, Good C X → (backTo pos (starEach es X.env)).any (·.1) = false := by exact fun _ _ => rfl) : EK C SS σ H (.Call (.Name n p1) (e :: es) [] pos) P :=
  e_tyB hc hm hv ha (fun vs' H1 k1 z => by
    subst z
    exact fun H2 k2 Q q => hr H2 (k1.t k2) Q q) hg hn hdb he hpl
theorem paired_imp {α β : Type} {F F' : α → β → Prop} : ∀ {as : List α} {bs : List β}, Paired F as bs → (∀ a b, F a b → F' a b) → Paired F' as bs
  | _, _, .nil, _ => .nil
  | _, _, .cons h t, i => .cons (i _ _ h) (paired_imp t i)
theorem e_lenSeq {q : Addr} {xs : List V} (hm : C.mg "len" = none) (ha : EV C σ H e (.ref q)) (hs : SqL C.K H q xs ∨ SqT C.K H q xs) (hg : C.sc.names.lookup ("len" : Str) = some .globalImplicit := by rfl)
    (he : ∀ X, Good C X → starEach [e] X.env = (false, eval e X.env) :: starEach [] X.env := by exact fun _ _ => rfl) : EV C σ H (.Call (.Name "len" p1) [e] [] pos) (.int xs.length) :=
  e_blt (rr := fun xs H Q => ∃ p ys, xs = [.ref p] ∧ (SqL C.K H p ys ∨ SqT C.K H p ys) ∧ Q (.int ys.length) H) (fun X g => by rw [← g.K]; exact call_len_seq) hm PySem.boot_len (a_1 ha he) (fun H1 k1 Q q' => ⟨q, xs, rfl, hs.imp (ex_l k1) (ex_t k1), q' _ H1 Kp.refl rfl⟩) (hg := hg) (he := he)
theorem e_lenSeqB {Pa : V → Hp → Prop} {m : Int} (hm : C.mg "len" = none) (ha : E C σ H e Pa) (hs : ∀ x H1, Ex C.G H H1 → Pa x H1 → ∃ q xs, x = .ref q ∧ (SqL C.K H1 q xs ∨ SqT C.K H1 q xs) ∧ (xs.length : Int) = m) (hg : C.sc.names.lookup ("len" : Str) = some .globalImplicit := by rfl)
    (he : ∀ X, Good C X → starEach [e] X.env = (false, eval e X.env) :: starEach [] X.env := by exact fun _ _ => rfl) : EV C σ H (.Call (.Name "len" p1) [e] [] pos) (.int m) :=
  e_bltB (rr := fun xs H Q => ∃ p ys, xs = [.ref p] ∧ (SqL C.K H p ys ∨ SqT C.K H p ys) ∧ Q (.int ys.length) H) (fun X g => by rw [← g.K]; exact call_len_seq) hm PySem.boot_len (a_1B ha he) (fun vs H1 k1 ⟨x, hv, px⟩ => by
    subst hv
    obtain ⟨q, xs, rfl, hq, hm⟩ := hs x H1 k1 px
    subst hm
    exact fun H2 k2 Q q' => ⟨q, xs, rfl, hq.imp (ex_l k2) (ex_t k2), q' _ H2 Kp.refl rfl⟩) (hg := hg) (he := he)
theorem e_lenDB {Pa : V → Hp → Prop} {m : Int} (hm : C.mg "len" = none) (ha : E C σ H e Pa) (hs : ∀ x H1, Ex C.G H H1 → Pa x H1 → ∃ q kvs, x = .ref q ∧ H1 q = some (.dK kvs) ∧ (kvs.length : Int) = m) (hg : C.sc.names.lookup ("len" : Str) = some .globalImplicit := by rfl)
    (he : ∀ X, Good C X → starEach [e] X.env = (false, eval e X.env) :: starEach [] X.env := by exact fun _ _ => rfl) : EV C σ H (.Call (.Name "len" p1) [e] [] pos) (.int m) :=
  e_bltB (fun X g => call_lenD) hm PySem.boot_len (a_1B ha he) (fun vs H1 k1 ⟨x, hv, px⟩ => by
    subst hv
    obtain ⟨q, kvs, rfl, hq, hm⟩ := hs x H1 k1 px
    subst hm
    exact fun H2 k2 Q q' => ⟨q, kvs, rfl, k2.xat hq, q' _ H2 Kp.refl rfl⟩) (hg := hg) (he := he)
theorem e_tupleOf {q : Addr} {xs : List V} (hm : C.mg "tuple" = none) (ha : EV C σ H e (.ref q)) (hs : SqL C.K H q xs ∨ SqT C.K H q xs) (hg : C.sc.names.lookup ("tuple" : Str) = some .globalImplicit := by rfl)
    (he : ∀ X, Good C X → starEach [e] X.env = (false, eval e X.env) :: starEach [] X.env := by exact fun _ _ => rfl) : E C σ H (.Call (.Name "tuple" p1) [e] [] pos) fun v H' => ∃ l, v = .ref l ∧ SqT C.K H' l xs :=
  e_ty (rr := fun xs H Q => ∃ p ys, xs = [.ref p] ∧ ((SqL C.K H p ys ∧ ∀ l, H l = none → Q (.ref l) (upd H l (.tup ys))) ∨ (SqT C.K H p ys ∧ Q (.ref p) H))) (fun X g => by rw [← g.K]; exact call_tuple_of) hm (by decide +kernel) (a_1 ha he) (fun H1 k1 Q q' => ⟨q, xs, rfl, by
    rcases hs with hs | hs
    · exact .inl ⟨ex_l k1 hs, fun l hl => q' _ _ (Ex.new hl) ⟨l, rfl, .inl (.inl upd_same)⟩⟩
    · exact .inr ⟨ex_t k1 hs, q' _ _ Kp.refl ⟨q, rfl, ex_t k1 hs⟩⟩⟩) (hg := hg) (he := he)
theorem e_tupleOfB {R : List V → Hp → Prop} (hm : C.mg "tuple" = none) (ha : E C σ H e Pa) (hs : ∀ x H1, Ex C.G H H1 → Pa x H1 → ∃ q xs, x = .ref q ∧ (SqL C.K H1 q xs ∨ SqT C.K H1 q xs) ∧ ∀ H2, Ex C.G H1 H2 → R xs H2) (hg : C.sc.names.lookup ("tuple" : Str) = some .globalImplicit := by rfl)
    (he : ∀ X, Good C X → starEach [e] X.env = (false, eval e X.env) :: starEach [] X.env := by exact fun _ _ => rfl) : E C σ H (.Call (.Name "tuple" p1) [e] [] pos) fun v H' => ∃ l xs, v = .ref l ∧ SqT C.K H' l xs ∧ R xs H' :=
  e_tyB (rr := fun xs H Q => ∃ p ys, xs = [.ref p] ∧ ((SqL C.K H p ys ∧ ∀ l, H l = none → Q (.ref l) (upd H l (.tup ys))) ∨ (SqT C.K H p ys ∧ Q (.ref p) H))) (fun X g => by rw [← g.K]; exact call_tuple_of) hm (by decide +kernel) (a_1B ha he) (fun vs H1 k1 ⟨x, hv, px⟩ => by
    subst hv
    obtain ⟨q, xs, rfl, hq, hR⟩ := hs x H1 k1 px
    refine fun H2 k2 Q q' => ⟨q, xs, rfl, ?_⟩
    rcases hq with hs | hs
    · exact .inl ⟨ex_l k2 hs, fun l hl => q' _ _ (Ex.new hl) ⟨l, xs, rfl, .inl (.inl upd_same), hR _ (k2.t (Ex.new hl))⟩⟩
    · exact .inr ⟨ex_t k2 hs, q' _ _ Kp.refl ⟨q, xs, rfl, ex_t k2 hs, hR _ k2⟩⟩) (hg := hg) (he := he)
theorem e_listOf {q : Addr} {xs : List V} (hm : C.mg "list" = none) (ha : EV C σ H e (.ref q)) (hs : SqL C.K H q xs ∨ SqT C.K H q xs) (hg : C.sc.names.lookup ("list" : Str) = some .globalImplicit := by rfl)
    (he : ∀ X, Good C X → starEach [e] X.env = (false, eval e X.env) :: starEach [] X.env := by exact fun _ _ => rfl) : EN C σ H (.Call (.Name "list" p1) [e] [] pos) (.lst xs) :=
  e_ty (rr := fun xs H Q => ∃ p ys, xs = [.ref p] ∧ (SqL C.K H p ys ∨ SqT C.K H p ys) ∧ ∀ l, H l = none → Q (.ref l) (upd H l (.lst ys))) (fun X g => by rw [← g.K]; exact call_list_of) hm (by decide +kernel) (a_1 ha he)
    (fun H1 k1 Q q' => ⟨q, xs, rfl, hs.imp (ex_l k1) (ex_t k1), fun l hl => q' _ _ (Ex.new hl) ⟨l, rfl, k1.free hl, upd_same⟩⟩) (hg := hg) (he := he)
theorem e_listD {q : Addr} {kvs : List (L2.Key × V)} (hm : C.mg "list" = none) (ha : EV C σ H e (.ref q)) (hs : Rd H q (.dK kvs)) (hg : C.sc.names.lookup ("list" : Str) = some .globalImplicit := by rfl)
    (he : ∀ X, Good C X → starEach [e] X.env = (false, eval e X.env) :: starEach [] X.env := by exact fun _ _ => rfl) : EN C σ H (.Call (.Name "list" p1) [e] [] pos) (.lst (kvs.map fun kv => kV kv.1)) :=
  e_ty (fun X g => call_listD g.calm) hm (by decide +kernel) (a_1 ha he) (fun H1 k1 Q q' => ⟨q, kvs, rfl, ex_rd k1 hs, fun l hl => q' _ _ (Ex.new hl) ⟨l, rfl, k1.free hl, upd_same⟩⟩) (hg := hg) (he := he)
theorem e_dictD {q : Addr} {kvs : List (L2.Key × V)} (hm : C.mg "dict" = none) (ha : EV C σ H e (.ref q)) (hs : Rd H q (.dK kvs)) (hg : C.sc.names.lookup ("dict" : Str) = some .globalImplicit := by rfl)
    (he : ∀ X, Good C X → starEach [e] X.env = (false, eval e X.env) :: starEach [] X.env := by exact fun _ _ => rfl) : EN C σ H (.Call (.Name "dict" p1) [e] [] pos) (.dK kvs) :=
  e_ty (fun X g => call_dictD) hm (by decide +kernel) (a_1 ha he) (fun H1 k1 Q q' => ⟨q, kvs, rfl, ex_rd k1 hs, fun l hl => q' _ _ (Ex.new hl) ⟨l, rfl, k1.free hl, upd_same⟩⟩) (hg := hg) (he := he)
/-- dict(a list of pairs) -/
theorem e_dictPB {kvs : List (L2.Key × V)} (hm : C.mg "dict" = none) (ha : E C σ H e Pa) (hs : ∀ x H1, Ex C.G H H1 → Pa x H1 → ∃ (q : Addr) (ps : List Addr), x = .ref q ∧ H1 q = some (.lst (ps.map V.ref)) ∧ Paired (fun p kv => SqT C.K H1 p [kV kv.1, kv.2]) ps kvs) (hg : C.sc.names.lookup ("dict" : Str) = some .globalImplicit := by rfl)
    (he : ∀ X, Good C X → starEach [e] X.env = (false, eval e X.env) :: starEach [] X.env := by exact fun _ _ => rfl) : EN C σ H (.Call (.Name "dict" p1) [e] [] pos) (.dK (mergeK [] kvs)) :=
  e_tyB (rr := fun xs H Q => ∃ (a : Addr) (ps : List Addr) (kvs : List (L2.Key × V)), xs = [.ref a] ∧ SqL C.K H a (ps.map V.ref) ∧ Paired (fun p kv => SqT C.K H p [kV kv.1, kv.2]) ps kvs ∧
    ∀ p, H p = none → Q (.ref p) (upd H p (.dK (mergeK [] kvs)))) (fun X g => by rw [← g.K]; exact call_dictP g.calm) hm (by decide +kernel) (a_1B ha he) (fun vs H1 k1 ⟨x, hv, px⟩ => by
    subst hv
    obtain ⟨q, ps, rfl, hq, hP⟩ := hs x H1 k1 px
    exact fun H2 k2 Q q' => ⟨q, ps, kvs, rfl, .inl (.inl (k2.xat hq)), paired_imp hP fun _ _ z => ex_t k2 z, fun p hp => q' _ _ (Ex.new hp) ⟨p, rfl, (k1.t k2).free hp, upd_same⟩⟩) (hg := hg) (he := he)
/-- sorted(texts) -/
theorem e_sortedS {q : Addr} {xs : List Str} (hm : C.mg "sorted" = none) (ha : EV C σ H e (.ref q)) (hs : SqL C.K H q (xs.map V.str)) (hl : xs.length < 64) (hg : C.sc.names.lookup ("sorted" : Str) = some .globalImplicit := by rfl)
    (he : ∀ X, Good C X → starEach [e] X.env = (false, eval e X.env) :: starEach [] X.env := by exact fun _ _ => rfl) : E C σ H (.Call (.Name "sorted" p1) [e] [] pos) fun v H' => ∃ p ys, v = .ref p ∧ H p = none ∧ ys.Perm xs ∧ PyProof.Rows.sortedS ys = true ∧ H' p = some (.lst (ys.map V.str)) :=
  e_blt (rr := rSortedS C.K) (fun X g => by rw [← g.K]; exact cr_sortedS) hm (by decide +kernel) (a_1 ha he) (fun H1 k1 Q q' => ⟨q, xs, rfl, ex_l k1 hs, hl, fun ys p h1 h2 h3 => q' _ _ (Ex.new h3) ⟨p, ys, rfl, k1.free h3, h1, h2, upd_same⟩⟩) (hg := hg) (he := he)
/-- a method of a list -/
theorem e_lmeth {id : String} {nm : Str} {rr : V → List V → Hp → VK → Prop} {l : Addr} {xs : List V} (slot : Slot "list" nm id) (hty : typeOf (.builtin id) = pure (.type "method_descriptor")) (hmt : ∀ X, Good C X → MtR X id rr) (ho : EV C σ H o (.ref l)) (hl : H l = some (.lst xs)) (ha : A C σ H (e :: es) PA)
    (hr : ∀ vs H1, Ex C.G H H1 → PA vs H1 → RC C.G SS (rr (.ref l)) vs H1 P)
    (hbase : ∀ X, Good C X → attributeBase o nm X.env (eval o X.env) = eval o X.env := by exact fun _ _ => rfl)
    (hfew : ∀ X, Good C X → ((backTo p2 (starEach (e :: es) X.env)).all (fun x => !x.1) && (backToKw p2 (keywordEach [] X.env)).all (fun x => x.1.isSome)
      && decide ((e :: es).length + ([] : List Keyword).length + (if ([] : List Keyword).isEmpty then 0 else 1) < 30)) = true := by exact fun _ _ => rfl)
    (hline : (p1.endLine == p2.line) = true := by rfl) (hs : ∀ X, Good C X → starEach (e :: es) X.env = (false, eval e X.env) :: starEach es X.env := by exact fun _ _ => rfl) (hplain : ∀ X, Good C X → (backTo p2 (starEach es X.env)).any (·.1) = false := by exact fun _ _ => rfl) :
    EK C SS σ H (.Call (.Attribute o nm p1) (e :: es) [] p2) P :=
  ek_of (t := tBM C.K "list" rr (wE C o) (wA C (e :: es))) (fun X g => by rw [← g.K]; exact pe_bm PySem.F.plainAttrs_list slot hty (hmt X g) (pe_w g) (pa_w g) (hbase X g) (hfew X g) hline (hs X g) (hplain X g)) fun H1 k1 Q q => ho H1 k1 _ fun u H2 k2 p2 => by
    subst p2
    refine ⟨.inl ⟨rfl, _, .inl (.inl ((k1.t k2).xat hl))⟩, ha H2 (k1.t k2) _ fun vs H3 k3 p3 => ?_⟩
    exact hr vs H3 ((k1.t k2).t k3) p3 H3 Kp.refl Q fun v H4 k4 p4 => q v H4 (Kp.pre (k2.t k3) k4) p4
theorem e_append {l : Addr} {xs : List V} (ho : EV C σ H o (.ref l)) (hl : H l = some (.lst xs)) (ha : E C σ H e Pa) (hz : xs.length < 1000000)
    (hbase : ∀ X, Good C X → attributeBase o "append" X.env (eval o X.env) = eval o X.env := by exact fun _ _ => rfl)
    (hfew : ∀ X, Good C X → ((backTo p2 (starEach [e] X.env)).all (fun x => !x.1) && (backToKw p2 (keywordEach [] X.env)).all (fun x => x.1.isSome)
      && decide ([e].length + ([] : List Keyword).length + (if ([] : List Keyword).isEmpty then 0 else 1) < 30)) = true := by exact fun _ _ => rfl)
    (hline : (p1.endLine == p2.line) = true := by rfl) (hs : ∀ X, Good C X → starEach [e] X.env = (false, eval e X.env) :: starEach [] X.env := by exact fun _ _ => rfl) (hplain : ∀ X, Good C X → (backTo p2 (starEach [] X.env)).any (·.1) = false := by exact fun _ _ => rfl) :
    EK C [l] σ H (.Call (.Attribute o "append" p1) [e] [] p2) fun v H' => ∃ y H1, v = .non ∧ Ex C.G H H1 ∧ Pa y H1 ∧ Kp C.G [l] H1 H' ∧ H' l = some (.lst (xs ++ [y])) :=
  e_lmeth PySem.F.slot_list_append PySem.F.type_list_append (fun X g => mt_append) ho hl (a_1B ha hs) (fun vs H1 k1 ⟨x, hv, px⟩ => by
    subst hv
    exact fun H2 k2 Q q => ⟨l, xs, x, rfl, rfl, (k1.t k2).xat hl, sz_lt hz, q _ _ (Kp.put1 ((k1.t k2).xat hl)) ⟨x, H1, rfl, k1, px, Kp.pre k2 (Kp.put1 ((k1.t k2).xat hl)), upd_same⟩⟩) hbase hfew hline hs hplain
/-! slices -/
theorem o_some {i : Int} (ha : EV C σ H e (.int i)) : O C σ H (some e) (some i) := fun H1 k1 Q q => ⟨tPart (wE C e), fun X g => po_some (pe_w g), ha H1 k1 _ fun u H2 k2 p2 => ⟨i, p2, q H2 k2⟩⟩
theorem o_none : O C σ H none none := fun H1 k1 Q q => ⟨tNoPart, fun X g => po_none, q H1 Kp.refl⟩
theorem e_slL {lo hi : Option Expr} {l u : Option Int} {q : Addr} {xs : List V} (ha : EV C σ H e (.ref q)) (hs : SqL C.K H q xs) (h1 : O C σ H lo l) (h2 : O C σ H hi u) : EN C σ H (.Subscript e (.Slice lo hi none p2) pos) (.lst (cutV xs l u)) :=
  ek_of (t := tSl (rSlL C.K) (wE C e) (wO C lo) (wO C hi)) (fun X g => by rw [← g.K]; exact pe_slice sl_list (pe_w g) ⟨fun pins s σ H Q I ⟨_, h, q⟩ => (h X g).run pins s σ H Q I q⟩ ⟨fun pins s σ H Q I ⟨_, h, q⟩ => (h X g).run pins s σ H Q I q⟩) fun H1 k1 Q q' => ha H1 k1 _ fun w H2 k2 p2 => h1 H2 (k1.t k2) _ fun H3 k3 => h2 H3 ((k1.t k2).t k3) _ fun H4 k4 => by
    subst p2
    exact ⟨q, xs, rfl, ex_l (((k1.t k2).t k3).t k4) hs, fun p hp => q' _ _ (((k2.t k3).t k4).new2 hp) ⟨p, rfl, (((k1.t k2).t k3).t k4).free hp, upd_same⟩⟩
theorem cutV_all {xs : List V} {l u : Option Int} (h : HT.sIx xs.length 0 l = 0 ∧ HT.sIx xs.length xs.length u = xs.length) : cutV xs l u = xs := by
  unfold cutV
  rw [h.1, h.2]
  simp
theorem e_slT {lo hi : Option Expr} {l u : Option Int} {q : Addr} {xs : List V} (ha : EV C σ H e (.ref q)) (hs : SqT C.K H q xs) (h1 : O C σ H lo l) (h2 : O C σ H hi u) : E C σ H (.Subscript e (.Slice lo hi none p2) pos) fun v H' => ∃ p, v = .ref p ∧ SqT C.K H' p (cutV xs l u) :=
  ek_of (t := tSl (rSlA C.K) (wE C e) (wO C lo) (wO C hi)) (fun X g => by rw [← g.K]; exact pe_slice sl_tupA (pe_w g) ⟨fun pins s σ H Q I ⟨_, h, q⟩ => (h X g).run pins s σ H Q I q⟩ ⟨fun pins s σ H Q I ⟨_, h, q⟩ => (h X g).run pins s σ H Q I q⟩) fun H1 k1 Q q' => ha H1 k1 _ fun w H2 k2 p2 => h1 H2 (k1.t k2) _ fun H3 k3 => h2 H3 ((k1.t k2).t k3) _ fun H4 k4 => by
    subst p2
    exact ⟨q, xs, rfl, ex_t (((k1.t k2).t k3).t k4) hs, fun z => q' _ _ ((k2.t k3).t k4) ⟨q, rfl, by rw [cutV_all z]; exact ex_t (((k1.t k2).t k3).t k4) hs⟩, fun _ p hp => q' _ _ (((k2.t k3).t k4).new2 hp) ⟨p, rfl, .inl (.inl upd_same)⟩⟩
end
end Pm
end
/-! ## Kd -/
section
set_option Elab.async false
set_option linter.all false
set_option maxRecDepth 100000
set_option maxHeartbeats 2000000
namespace Pm
open PySem L2
abbrev nxS (C : Ctx) (rest : List Stmt) (D : Ends) : Ends := { D with nx := fun σ H => wS C rest D σ H }
/-- the ends of a loop's body -/
abbrev lpS (C : Ctx) (rest : List Stmt) (D : Ends) (N : L2.St → Hp → Prop) : Ends := { D with nx := Cl C.G N, ct := Cl C.G N, bk := fun σ H => wS C rest D σ H }
section
variable {C : Ctx} {σ σ' : L2.St} {H H' : Hp} {SS SS' : List Addr} {e a b c o tg iter elt : Expr} {es ifs : List Expr} {P P' Pa : V → Hp → Prop} {x y z v w : V} {r : R2} {pos p1 p2 p3 : Pos} {s t : Bool} {k : Nat} {n m : Str} {PA : List V → Hp → Prop} {Cl' p dx : Addr} {fs : List (Str × V)} {D : Ends} {st : Stmt} {rest body body2 : List Stmt} {scope : Scope}
theorem s_of {u : TS} (h : ∀ X, Good C X → PS X st u) (q : ∀ H1, Ex C.G H H1 → u (nxS C rest D) σ H1) : S C D σ H (st :: rest) := fun H1 k => ⟨tSeq u (wS C rest), fun X g => pss_cons (h X g) (pss_w g), q H1 k⟩
theorem s_nil (h : ∀ H1, Ex C.G H H1 → D.nx σ H1) : S C D σ H [] := fun H1 k => ⟨tNext, fun X g => pss_nil, h H1 k⟩
theorem s_next (h : S C D σ H rest) : S C (nxS C rest D) σ H [] := s_nil h
theorem s_lp {N : L2.St → Hp → Prop} (h : N σ H) : S C (lpS C rest D N) σ H [] := s_nil fun H1 k => ⟨H, k, h⟩
theorem s_set {i : Nat} (he : EK C SS σ H e P) (hr : ∀ v H2, Kp C.G SS H H2 → P v H2 → S C D (σ.set i (some v)) H2 rest) (hi : C.N[i]? = some n := by rfl) (hx : Loc C.sc n := by first | exact .inl rfl | exact .inr rfl) (hs : ∀ X, Good C X → swapsWith e (some (.Name n p1)) pos.line X.env = pure false := by exact fun _ _ => rfl) :
    S C D σ H (.Assign [.Name n p1] e pos :: rest) :=
  s_of (fun X g => ps_set (i := i) (by rw [g.N]; exact g.nd) (by rw [g.N]; exact hi) (g.loc hx) (pe_w g) (hs X g) (g.fn n hx)) fun H1 k => he H1 k _ fun v H2 k2 p2 => hr v H2 (Kp.pre k k2) p2 H2 Kp.refl
theorem s_setV {i : Nat} (he : EV C σ H e v) (hr : S C D (σ.set i (some v)) H rest) (hi : C.N[i]? = some n := by rfl) (hx : Loc C.sc n := by first | exact .inl rfl | exact .inr rfl) (hs : ∀ X, Good C X → swapsWith e (some (.Name n p1)) pos.line X.env = pure false := by exact fun _ _ => rfl) :
    S C D σ H (.Assign [.Name n p1] e pos :: rest) :=
  s_set he (fun u H2 k p => by
    subst p
    exact hr.mono k) hi hx hs
theorem s_ret (he : EK C SS σ H e P) (hr : ∀ v H2, Kp C.G SS H H2 → P v H2 → D.rt v H2) : S C D σ H (.Return (some e) pos :: rest) := s_of (fun X g => ps_ret (pe_w g)) fun H1 k => he H1 k _ fun v H2 k2 p2 => hr v H2 (Kp.pre k k2) p2
theorem s_expr (he : EK C SS σ H e P) (hr : ∀ v H2, Kp C.G SS H H2 → P v H2 → S C D σ H2 rest) (hs : ∀ X, Good C X → swapsWith e none pos.line X.env = pure false := by exact fun _ _ => rfl) : S C D σ H (.Expr e pos :: rest) :=
  s_of (fun X g => ps_expr (pe_w g) (hs X g)) fun H1 k => he H1 k _ fun v H2 k2 p2 => hr v H2 (Kp.pre k k2) p2 H2 Kp.refl
theorem s_if {b : Bool} (hc : T C σ H c b) (h1 : b = true → S C (nxS C rest D) σ H body) (h2 : b = false → S C (nxS C rest D) σ H body2) : S C D σ H (.If c body body2 pos :: rest) :=
  s_of (fun X g => ps_if (pt_w g) (pss_w g) (pss_w g)) fun H1 k => hc H1 k _ fun H2 k2 => by
    cases b with
    | true => exact iteT (h1 rfl H2 (k.t k2))
    | false => exact iteF (h2 rfl H2 (k.t k2))
theorem s_never (h : False) : S C D σ H rest := h.elim
/-! stores -/
theorem s_dput {d : Addr} {kvs : List (L2.Key × V)} {key : L2.Key} (hv : E C σ H e Pa) (hd : ∀ v H1, Ex C.G H H1 → Pa v H1 → EV C σ H1 a (.ref d)) (hk : ∀ v H1, Ex C.G H H1 → Pa v H1 → EV C σ H1 b (kV key)) (h : H d = some (.dK kvs)) (hz : kvs.length < 1000000)
    (hr : ∀ v H1 H2, Ex C.G H H1 → Pa v H1 → Kp C.G [d] H1 H2 → H2 d = some (.dK (putK kvs key v)) → S C D σ H2 rest) (hs : ∀ X, Good C X → swapsWith e (some (.Subscript a b p1)) pos.line X.env = pure false := by exact fun _ _ => rfl) : S C D σ H (.Assign [.Subscript a b p1] e pos :: rest) :=
  s_of (fun X g => ps_dput g.u1 (pe_w g) (pe_w g) (pe_w g) (hs X g)) fun H1 k => hv H1 k _ fun v H2 k2 pv => hd v H2 (k.t k2) pv H2 Kp.refl _ fun u H3 k3 p3 => hk v H2 (k.t k2) pv H3 k3 _ fun u' H4 k4 p4 => by
    subst p3 p4
    have h4 := (((k.t k2).t k3).t k4).xat h
    exact ⟨d, _, rfl, .inl ⟨kvs, key, h4, rfl, sz_lt hz, rfl⟩, hr v H2 _ (k.t k2) pv (Kp.pre (k3.t k4) (Kp.put1 h4)) upd_same _ Kp.refl⟩
theorem s_dputV {d : Addr} {kvs : List (L2.Key × V)} {key : L2.Key} (hv : EV C σ H e v) (hd : EV C σ H a (.ref d)) (hk : EV C σ H b (kV key)) (h : H d = some (.dK kvs)) (hz : kvs.length < 1000000)
    (hr : ∀ H2, Kp C.G [d] H H2 → H2 d = some (.dK (putK kvs key v)) → S C D σ H2 rest) (hs : ∀ X, Good C X → swapsWith e (some (.Subscript a b p1)) pos.line X.env = pure false := by exact fun _ _ => rfl) : S C D σ H (.Assign [.Subscript a b p1] e pos :: rest) :=
  s_dput hv (fun _ _ k _ => hd.mono k) (fun _ _ k _ => hk.mono k) h hz (fun u H1 H2 k p k2 h2 => by
    subst p
    exact hr H2 (Kp.pre k k2) h2) hs
theorem s_ddel {d : Addr} {kvs : List (L2.Key × V)} {key : L2.Key} (hd : EV C σ H a (.ref d)) (hk : EV C σ H b (kV key)) (h : H d = some (.dK kvs)) (hi : (valV kvs key).isSome = true) (hr : ∀ H2, Kp C.G [d] H H2 → H2 d = some (.dK (dropK kvs key)) → S C D σ H2 rest) : S C D σ H (.Delete [.Subscript a b p1] pos :: rest) :=
  s_of (fun X g => ps_ddel (pe_w g) (pe_w g)) fun H1 k => hd H1 k _ fun u H3 k3 p3 => hk H3 (k.t k3) _ fun u' H4 k4 p4 => by
    subst p3 p4
    have h4 := ((k.t k3).t k4).xat h
    exact ⟨d, kvs, key, rfl, h4, rfl, hi, hr _ (Kp.pre ((k.t k3).t k4) (Kp.put1 h4)) upd_same _ Kp.refl⟩
/-- d[k] += j -/
theorem s_daug {d : Addr} {kvs : List (L2.Key × V)} {key : L2.Key} {i j : Int} (hd : EV C σ H a (.ref d)) (hk : EV C σ H b (kV key)) (hv : EV C σ H e (.int j)) (h : H d = some (.dK kvs)) (hz : kvs.length < 1000000) (hi : valV kvs key = some (.int i))
    (hr : ∀ H2, Kp C.G [d] H H2 → H2 d = some (.dK (putK kvs key (.int (i + j)))) → S C D σ H2 rest) (ha : ∀ ov iv new, augStore b ov iv new = (do holding [new, ov, iv] (setItem ov iv new); release [new, ov, iv] []; pure .next) := by exact fun _ _ _ => rfl) :
    S C D σ H (.AugAssign (.Subscript a b p1) .Add e pos :: rest) :=
  s_of (fun X g => ps_daug g.u1 (pe_w g) (pe_w g) (pe_w g) in_add ha) fun H1 k => hd H1 k _ fun u H3 k3 p3 => hk H3 (k.t k3) _ fun u' H4 k4 p4 => by
    subst p3 p4
    have h4 := ((k.t k3).t k4).xat h
    refine ⟨d, .int i, rfl, .inl ⟨kvs, key, .inl h4, rfl, hi.symm⟩, hv H4 ((k.t k3).t k4) _ fun w H5 k5 p5 => ?_⟩
    subst p5
    have h5 := k5.xat h4
    exact ⟨i, j, rfl, rfl, _, .inl ⟨kvs, key, h5, rfl, sz_lt hz, rfl⟩, hr _ (Kp.pre (((k.t k3).t k4).t k5) (Kp.put1 h5)) upd_same _ Kp.refl⟩
/-- o.f = e -/
theorem s_fld {q Cl dx : Addr} {fs : List (Str × V)} {f : Str} (hv : E C σ H e Pa) (ho : ∀ v H1, Ex C.G H H1 → Pa v H1 → EV C σ H1 a (.ref q)) (h : H q = some (.ins Cl dx fs)) (hc : Cls C.K Cl) (hn : NoAttr C.K Cl f) (hz : fs.length < 1000)
    (hr : ∀ v H1 H2, Ex C.G H H1 → Pa v H1 → Kp C.G [q] H1 H2 → H2 q = some (.ins Cl dx (putF f v fs)) → S C D σ H2 rest) (hs : ∀ X, Good C X → swapsWith e (some (.Attribute a f p1)) pos.line X.env = pure false := by exact fun _ _ => rfl) : S C D σ H (.Assign [.Attribute a f p1] e pos :: rest) :=
  s_of (u := sFld C.K (wE C a) (wE C e) f) (fun X g => by rw [← g.K]; exact ps_fld (pe_w g) (pe_w g) (hs X g)) fun H1 k => hv H1 k _ fun v H2 k2 pv => ho v H2 (k.t k2) pv H2 Kp.refl _ fun u H3 k3 p3 => by
    subst p3
    have h3 := ((k.t k2).t k3).xat h
    exact ⟨q, Cl, dx, fs, rfl, h3, hc, hn, hz, hr v H2 _ (k.t k2) pv (Kp.pre k3 (Kp.put1 h3)) upd_same _ Kp.refl⟩
theorem s_fldV {q Cl dx : Addr} {fs : List (Str × V)} {f : Str} (hv : EV C σ H e v) (ho : EV C σ H a (.ref q)) (h : H q = some (.ins Cl dx fs)) (hc : Cls C.K Cl) (hn : NoAttr C.K Cl f) (hz : fs.length < 1000)
    (hr : ∀ H2, Kp C.G [q] H H2 → H2 q = some (.ins Cl dx (putF f v fs)) → S C D σ H2 rest) (hs : ∀ X, Good C X → swapsWith e (some (.Attribute a f p1)) pos.line X.env = pure false := by exact fun _ _ => rfl) : S C D σ H (.Assign [.Attribute a f p1] e pos :: rest) :=
  s_fld hv (fun _ _ k _ => ho.mono k) h hc hn hz (fun u H1 H2 k p k2 h2 => by
    subst p
    exact hr H2 (Kp.pre k k2) h2) hs
theorem s_fldaug {q Cl dx : Addr} {fs : List (Str × V)} {f : Str} {i j : Int} (ho : EV C σ H a (.ref q)) (hv : EV C σ H e (.int j)) (h : H q = some (.ins Cl dx fs)) (hc : Cls C.K Cl) (hn : NoAttr C.K Cl f) (hz : fs.length < 1000) (hl : fs.lookup f = some (.int i))
    (hr : ∀ H2, Kp C.G [q] H H2 → H2 q = some (.ins Cl dx (putF f (.int (i + j)) fs)) → S C D σ H2 rest) : S C D σ H (.AugAssign (.Attribute a f p1) .Add e pos :: rest) :=
  s_of (u := sFldAug C.K (wE C a) (wE C e) rAdd f) (fun X g => by rw [← g.K]; exact ps_fldaug (pe_w g) (pe_w g) in_add) fun H1 k => ho H1 k _ fun u H3 k3 p3 => by
    subst p3
    have h3 := (k.t k3).xat h
    refine ⟨q, Cl, dx, fs, .int i, rfl, h3, hc, hn, hl, hv H3 (k.t k3) _ fun w H5 k5 p5 => ?_⟩
    subst p5
    have h5 := k5.xat h3
    exact ⟨i, j, rfl, rfl, dx, fs, h5, hz, hr _ (Kp.pre ((k.t k3).t k5) (Kp.put1 h5)) upd_same _ Kp.refl⟩
/-- xs[i] = e of a list -/
theorem s_lput {q : Addr} {xs : List V} {i : Int} {j : Nat} (hv : EV C σ H e v) (ho : EV C σ H a (.ref q)) (hi : EV C σ H b (.int i)) (h : H q = some (.lst xs)) (hj : ixN xs.length i = some j)
    (hr : ∀ H2, Kp C.G [q] H H2 → H2 q = some (.lst (xs.set j v)) → S C D σ H2 rest)
    (hsw : ∀ X, Good C X → swapsWithSole [.Subscript a b p1] e pos.line X.env = pure false := by exact fun _ _ => rfl) (hw : ∀ X, Good C X → swappedStores [.Subscript a b p1] e X.env = pure none := by exact fun _ _ => rfl)
    (h1 : ∀ X, Good C X → (assignEach [.Subscript a b p1] X.env).map (·.2) = [assign (.Subscript a b p1) X.env] := by exact fun _ _ => rfl)
    (ha : ∀ X, Good C X → ∀ v, assign (.Subscript a b p1) X.env v = (do
      let ov ← holding [v] (eval a X.env)
      let iv ← holding [v, ov] (eval b X.env)
      standAt p1
      holding [v, ov, iv] (setItem ov iv v)
      release [v, ov, iv] []) := by exact fun _ _ _ => rfl) : S C D σ H (.Assign [.Subscript a b p1] e pos :: rest) :=
  s_of (fun X g => ps_asg (pe_w g) (pg_sub (pe_w g) (pe_w g) set_list (ha X g)) (hsw X g) (hw X g) (h1 X g)) fun H1 k => hv H1 k _ fun w H2 k2 p2 => ho H2 (k.t k2) _ fun u H3 k3 p3 => hi H3 ((k.t k2).t k3) _ fun u4 H4 k4 p4 => by
    subst p2 p3 p4
    have h4 := (((k.t k2).t k3).t k4).xat h
    exact ⟨q, xs, i, j, rfl, rfl, h4, hj, hr _ (Kp.pre (((k.t k2).t k3).t k4) (Kp.put1 h4)) upd_same _ Kp.refl⟩
/-! targets -/
theorem eg_name (i : Nat) (hi : C.N[i]? = some n := by rfl) (hx : Loc C.sc n := by first | exact .inl rfl | exact .inr rfl) : EG C (.Name n pos) v σ H (σ.set i (some v)) := fun H1 k Q q => ⟨gName i, fun X g => pg_name (i := i) (by rw [g.N]; exact g.nd) (by rw [g.N]; exact hi) (g.loc hx) (g.fn n hx), q⟩
theorem eg_tup {ts : List Expr} {kk : Nat} {q : Addr} {xs : List V} {u : TGs} (hq : SqT C.K H q xs) (hg : ∀ X, Good C X → PGs X ts u) (hu : ∀ H1 Q, Ex C.G H H1 → Q σ' H1 → u xs σ H1 Q) (hl : xs.length = ts.length)
    (hn : ∀ X, Good C X → (assignEach ts X.env).length = ts.length := by exact fun _ _ => rfl) (hst : ∀ X, Good C X → (assignEach ts X.env).findIdx? (·.1) = none := by exact fun _ _ => rfl) : EG C (.Tuple ts kk pos) (.ref q) σ H σ' := fun H1 k Q q' =>
  ⟨gTup C.K ts.length u, fun X g => by rw [← g.K]; exact pg_tup g.calm (hg X g) (hn X g) (hst X g), q, xs, rfl, ex_t k hq, hl, hu H1 Q k q'⟩
theorem eg_tup2 {x' y' : Str} {kk : Nat} {q : Addr} (i j : Nat) (hq : SqT C.K H q [x, y]) (hi : C.N[i]? = some x' := by rfl) (hj : C.N[j]? = some y' := by rfl) (hx : Loc C.sc x' := by first | exact .inl rfl | exact .inr rfl) (hy : Loc C.sc y' := by first | exact .inl rfl | exact .inr rfl) :
    EG C (.Tuple [.Name x' p1, .Name y' p2] kk pos) (.ref q) σ H ((σ.set i (some x)).set j (some y)) :=
  eg_tup (u := gCons (gName i) (gCons (gName j) gNil)) hq (fun X g => pgs_cons (pg_name (i := i) (by rw [g.N]; exact g.nd) (by rw [g.N]; exact hi) (g.loc hx) (g.fn _ hx)) (pgs_cons (pg_name (i := j) (by rw [g.N]; exact g.nd) (by rw [g.N]; exact hj) (g.loc hy) (g.fn _ hy)) pgs_nil))
    (fun H1 Q _ q => ⟨x, [y], rfl, y, [], rfl, rfl, q⟩) rfl
theorem eg_tup3 {x' y' z' : Str} {kk : Nat} {q : Addr} (i j l : Nat) (hq : SqT C.K H q [x, y, z]) (hi : C.N[i]? = some x' := by rfl) (hj : C.N[j]? = some y' := by rfl) (hl : C.N[l]? = some z' := by rfl) (hx : Loc C.sc x' := by first | exact .inl rfl | exact .inr rfl) (hy : Loc C.sc y' := by first | exact .inl rfl | exact .inr rfl) (hz : Loc C.sc z' := by first | exact .inl rfl | exact .inr rfl) :
    EG C (.Tuple [.Name x' p1, .Name y' p2, .Name z' p3] kk pos) (.ref q) σ H (((σ.set i (some x)).set j (some y)).set l (some z)) :=
  eg_tup (u := gCons (gName i) (gCons (gName j) (gCons (gName l) gNil))) hq (fun X g => pgs_cons (pg_name (i := i) (by rw [g.N]; exact g.nd) (by rw [g.N]; exact hi) (g.loc hx) (g.fn _ hx)) (pgs_cons (pg_name (i := j) (by rw [g.N]; exact g.nd) (by rw [g.N]; exact hj) (g.loc hy) (g.fn _ hy)) (pgs_cons (pg_name (i := l) (by rw [g.N]; exact g.nd) (by rw [g.N]; exact hl) (g.loc hz) (g.fn _ hz)) pgs_nil)))
    (fun H1 Q _ q => ⟨x, [y, z], rfl, y, [z], rfl, z, [], rfl, rfl, q⟩) rfl
/-- x = e by a target of any kind -/
theorem s_asg (he : EK C SS σ H e P) (hr : ∀ v H2, Kp C.G SS H H2 → P v H2 → ∃ σ2, EG C tg v σ H2 σ2 ∧ S C D σ2 H2 rest) (hsw : ∀ X, Good C X → swapsWithSole [tg] e pos.line X.env = pure false := by exact fun _ _ => rfl) (hw : ∀ X, Good C X → swappedStores [tg] e X.env = pure none := by exact fun _ _ => rfl)
    (h1 : ∀ X, Good C X → (assignEach [tg] X.env).map (·.2) = [assign tg X.env] := by exact fun _ _ => rfl) : S C D σ H (.Assign [tg] e pos :: rest) :=
  s_of (u := tAsg (wE C e) (wG C tg)) (fun X g => ps_asg (pe_w g) ⟨fun pins s σ H v u Q I r ⟨_, h, q⟩ => (h X g).run pins s σ H v u Q I r q⟩ (hsw X g) (hw X g) (h1 X g)) fun H1 k => he H1 k _ fun v H2 k2 p2 => by
    obtain ⟨σ2, hg, hs⟩ := hr v H2 (Kp.pre k k2) p2
    exact hg H2 Kp.refl _ (hs H2 Kp.refl)
theorem swap2 {X : Cx} {x' y' : Str} {kt k2 : Nat} {pt pt2 px py : Pos} (g : Good C X) (hx : C.sc.names.lookup x' = some .local) (hy : C.sc.names.lookup y' = some .local) (hl : (px.line == py.line) = true) (hne : ([x', y'] : List Str).eraseDups.length = 2) (hst : ([a, b].any fun | .Starred .. => true | _ => false) = false) (hf : ([a, b].all (foldedForSure 8)) = false) (hc : ([a, b].all (constantsAlone 8)) = false) :
    swappedStores [.Tuple [.Name x' px, .Name y' py] kt pt] (.Tuple [a, b] k2 pt2) X.env = pure (some [x', y']) := by
  have kx : X.env.kindOf x' = some .local := g.lcl hx
  have ky : X.env.kindOf y' = some .local := g.lcl hy
  have kb : X.env.blockKind = .function := by
    unfold Env.blockKind
    rw [g.kind]
    rfl
  have hl' : py.line = px.line := (beq_iff_eq.mp hl).symm
  unfold swappedStores
  simp [kb, kx, ky, Expr.pos, hl', hne, hf, hc]
  simp at hst
  intro z
  rcases z with z | z
  · exact absurd (hst.1.symm.trans z) (by decide)
  · exact absurd (hst.2.symm.trans z) (by decide)
theorem swap3 {X : Cx} {x' y' z' : Str} {kt k2 : Nat} {pt pt2 px py pz : Pos} (g : Good C X) (hx : C.sc.names.lookup x' = some .local) (hy : C.sc.names.lookup y' = some .local) (hz : C.sc.names.lookup z' = some .local) (hl : (px.line == py.line) = true) (hl2 : (px.line == pz.line) = true) (hne : ([x', y', z'] : List Str).eraseDups.length = 3) (hst : ([a, b, c].any fun | .Starred .. => true | _ => false) = false) (hf : ([a, b, c].all (foldedForSure 8)) = false) (hc : ([a, b, c].all (constantsAlone 8)) = false) :
    swappedStores [.Tuple [.Name x' px, .Name y' py, .Name z' pz] kt pt] (.Tuple [a, b, c] k2 pt2) X.env = pure (some [x', y', z']) := by
  have kx : X.env.kindOf x' = some .local := g.lcl hx
  have ky : X.env.kindOf y' = some .local := g.lcl hy
  have kz : X.env.kindOf z' = some .local := g.lcl hz
  have kb : X.env.blockKind = .function := by
    unfold Env.blockKind
    rw [g.kind]
    rfl
  have hl' : py.line = px.line := (beq_iff_eq.mp hl).symm
  have hl2' : pz.line = px.line := (beq_iff_eq.mp hl2).symm
  unfold swappedStores
  simp [kb, kx, ky, kz, Expr.pos, hl', hl2', hne, hf, hc]
  simp at hst
  intro z
  rcases z with z | z | z
  · exact absurd (hst.1.symm.trans z) (by decide)
  · exact absurd (hst.2.1.symm.trans z) (by decide)
  · exact absurd (hst.2.2.symm.trans z) (by decide)
/-- x, y = a, b -/
theorem s_par {x' y' : Str} {kt k2 : Nat} {pt pt2 : Pos} (i j : Nat) (ha : A C σ H [a, b] PA) (hr : ∀ vs H2, Ex C.G H H2 → PA vs H2 → ∃ v w, vs = [v, w] ∧ S C D ((σ.set i (some v)).set j (some w)) H2 rest)
    (hi : C.N[i]? = some x' := by rfl) (hj : C.N[j]? = some y' := by rfl) (hij : i ≠ j := by decide) (hx : C.sc.names.lookup x' = some .local := by rfl) (hy : C.sc.names.lookup y' = some .local := by rfl) (hl : (p1.line == p2.line) = true := by rfl)
    (hne : ([x', y'] : List Str).eraseDups.length = 2 := by decide +kernel) (hst : ([a, b].any fun | .Starred .. => true | _ => false) = false := by rfl) (hf : ([a, b].all (foldedForSure 8)) = false := by rfl) (hc : ([a, b].all (constantsAlone 8)) = false := by rfl)
    (hs : ∀ X, Good C X → swapsWithSole [.Tuple [.Name x' p1, .Name y' p2] kt pt] (.Tuple [a, b] k2 pt2) pos.line X.env = pure false := by exact fun _ _ => rfl) :
    S C D σ H (.Assign [.Tuple [.Name x' p1, .Name y' p2] kt pt] (.Tuple [a, b] k2 pt2) pos :: rest) :=
  s_of (u := tPar i j (wA C [a, b])) (fun X g => ps_par g.calm (by rw [g.N]; exact g.nd) (by rw [g.N]; exact hi) (by rw [g.N]; exact hj) hij (g.lcl hx) (g.lcl hy) (pa_w g) (swap2 g hx hy hl hne hst hf hc) (hs X g)) fun H1 k => ha H1 k _ fun vs H2 k2 p2 => by
    obtain ⟨v, w, e, h⟩ := hr vs H2 (k.t k2) p2
    exact ⟨v, w, e, h H2 Kp.refl⟩
theorem s_par3 {x' y' z' : Str} {kt k2 : Nat} {pt pt2 : Pos} (i j l : Nat) (ha : A C σ H [a, b, c] PA) (hr : ∀ vs H2, Ex C.G H H2 → PA vs H2 → ∃ u v w, vs = [u, v, w] ∧ S C D (((σ.set i (some u)).set j (some v)).set l (some w)) H2 rest)
    (hi : C.N[i]? = some x' := by rfl) (hj : C.N[j]? = some y' := by rfl) (hk : C.N[l]? = some z' := by rfl) (hij : i ≠ j := by decide) (hil : i ≠ l := by decide) (hjl : j ≠ l := by decide) (hx : C.sc.names.lookup x' = some .local := by rfl) (hy : C.sc.names.lookup y' = some .local := by rfl) (hz : C.sc.names.lookup z' = some .local := by rfl) (hl : (p1.line == p2.line) = true := by rfl) (hl2 : (p1.line == p3.line) = true := by rfl)
    (hne : ([x', y', z'] : List Str).eraseDups.length = 3 := by decide +kernel) (hst : ([a, b, c].any fun | .Starred .. => true | _ => false) = false := by rfl) (hf : ([a, b, c].all (foldedForSure 8)) = false := by rfl) (hc : ([a, b, c].all (constantsAlone 8)) = false := by rfl)
    (hs : ∀ X, Good C X → swapsWithSole [.Tuple [.Name x' p1, .Name y' p2, .Name z' p3] kt pt] (.Tuple [a, b, c] k2 pt2) pos.line X.env = pure false := by exact fun _ _ => rfl) :
    S C D σ H (.Assign [.Tuple [.Name x' p1, .Name y' p2, .Name z' p3] kt pt] (.Tuple [a, b, c] k2 pt2) pos :: rest) :=
  s_of (u := tPar3 i j l (wA C [a, b, c])) (fun X g => ps_par3 g.calm (by rw [g.N]; exact g.nd) (by rw [g.N]; exact hi) (by rw [g.N]; exact hj) (by rw [g.N]; exact hk) hij hil hjl (g.lcl hx) (g.lcl hy) (g.lcl hz) (pa_w g) (swap3 g hx hy hz hl hl2 hne hst hf hc) (hs X g)) fun H1 k => ha H1 k _ fun vs H2 k2 p2 => by
    obtain ⟨u, v, w, e, h⟩ := hr vs H2 (k.t k2) p2
    exact ⟨u, v, w, e, h H2 Kp.refl⟩
end
/-! ### walks, loops -/
section
variable {C : Ctx} {σ σ' : L2.St} {H H' : Hp} {SS SS' : List Addr} {e a b c o tg iter elt : Expr} {es ifs : List Expr} {P P' Pa : V → Hp → Prop} {x y z v w : V} {r : R2} {pos p1 p2 p3 : Pos} {s t : Bool} {k : Nat} {n m : Str} {PA : List V → Hp → Prop} {q dx : Addr} {D : Ends} {st : Stmt} {rest body body2 : List Stmt} {scope : Scope} {xs : List V}
variable {α : Type} {as : List α} {IV : α → V → Hp → Prop} {Src : Hp → Prop}
/-- a list, a tuple -/
theorem ei_list {ev : α → V} (ha : EV C σ H iter (.ref q)) (hs : SqL C.K H q (as.map ev)) : EI C σ H tg iter as (fun a x _ => x = ev a) (fun H' => SqL C.K H' q (as.map ev)) := fun H1 k R hR =>
  ⟨iList C.K (wE C iter), fun X g => by rw [← g.K]; exact pi_list (pe_w g), ha H1 k _ fun u H2 k2 p2 => ⟨q, p2, ⟨_, ex_l (k.t k2) hs⟩, hR _ H2 (fun H => SqL C.K H q (as.map ev)) (YAt (as.map ev)) k2 (by have := walk_list (K := C.K) (a := q) (xs := as.map ev); rwa [List.length_map] at this) (fun _ _ h k => ex_l k h)
    (fun i Ha x Ha' hi hy => by
      obtain ⟨e1, e2⟩ := hy
      subst e1
      refine ⟨Kp.refl, as[i], by simp, ?_⟩
      rw [List.getElem?_map, List.getElem?_eq_getElem hi] at e2
      exact (Option.some.inj e2).symm)⟩⟩
theorem ei_tup {ev : α → V} (ha : EV C σ H iter (.ref q)) (hs : SqT C.K H q (as.map ev)) : EI C σ H tg iter as (fun a x _ => x = ev a) (fun H' => SqT C.K H' q (as.map ev)) := fun H1 k R hR =>
  ⟨iTup C.K (wE C iter), fun X g => by rw [← g.K]; exact pi_tup (pe_w g), ha H1 k _ fun u H2 k2 p2 => ⟨q, p2, ⟨_, ex_t (k.t k2) hs⟩, hR _ H2 (fun H => SqT C.K H q (as.map ev)) (YAt (as.map ev)) k2 (by have := walk_tup (K := C.K) (a := q) (xs := as.map ev); rwa [List.length_map] at this) (fun _ _ h k => ex_t k h)
    (fun i Ha x Ha' hi hy => by
      obtain ⟨e1, e2⟩ := hy
      subst e1
      refine ⟨Kp.refl, as[i], by simp, ?_⟩
      rw [List.getElem?_map, List.getElem?_eq_getElem hi] at e2
      exact (Option.some.inj e2).symm)⟩⟩
/-- a list of any expression, walked where it was made -/
theorem ei_listB {ev : α → V} (ha : E C σ H iter Pa) (hs : ∀ x H1, Ex C.G H H1 → Pa x H1 → ∃ q, x = .ref q ∧ H1 q = some (.lst (as.map ev))) :
    ∀ H1, Ex C.G H H1 → ∀ R : It → Hp → Prop, (∀ q H2, Ex C.G H1 H2 → H2 q = some (.lst (as.map ev)) → R (Itl C.K q) H2) → wI C tg iter σ H1 R := fun H1 k R hR =>
  ⟨iList C.K (wE C iter), fun X g => by rw [← g.K]; exact pi_list (pe_w g), ha H1 k _ fun u H2 k2 p2 => by
    obtain ⟨q, rfl, hq⟩ := hs u H2 (k.t k2) p2
    exact ⟨q, rfl, ⟨_, .inl (.inl hq)⟩, hR q H2 k2 hq⟩⟩
theorem ei_range {n : Nat} (hm : C.mg "range" = none) (ha : EV C σ H e (.int n)) (hn : n < 1000000) (hg : C.sc.names.lookup ("range" : Str) = some .globalImplicit := by rfl) (hs : ∀ X, Good C X → starEach [e] X.env = [(false, eval e X.env)] := by exact fun _ _ => rfl) :
    EI C σ H tg (.Call (.Name "range" p1) [e] [] pos) (List.range n) (fun i x _ => x = .int (i : Nat)) (fun _ => True) := fun H1 k R hR =>
  ⟨iRng1 (tCons (wE C e) tNil), fun X g => pi_range1 (g.gl hg) (by rw [g.mg]; exact hm) (pa_cons (pe_w g) pa_nil (hs X g)) (hs X g), ha H1 k _ fun u H2 k2 p2 => by
    subst p2
    refine ⟨n, rfl, by omega, by omega, hR _ H2 (fun _ => True) (YFn fun i => .int (0 + (i : Nat))) k2 (by rw [List.length_range]; exact walk_range) (fun _ _ _ _ => trivial) fun i Ha x Ha' hi hy => ?_⟩
    obtain ⟨e1, e2⟩ := hy
    subst e1
    rw [List.length_range] at hi
    exact ⟨Kp.refl, i, by simp [hi], by rw [e2]; simp⟩⟩
/-- a for -/
theorem s_for (Pv : Nat → L2.St → Hp → Prop) (hi : EI C σ H tg iter as IV Src) (h0 : Pv 0 σ H) (hsrc : ∀ i σ1 H1, i ≤ as.length → Pv i σ1 H1 → Src H1)
    (hb : ∀ i a x σ1 H1 H2, as[i]? = some a → Pv i σ1 H1 → Ex C.G H1 H2 → IV a x H2 → ∃ σ2, EG C tg x σ1 H2 σ2 ∧ S C (lpS C rest D (Pv (i + 1))) σ2 H2 body) (hd : ∀ σ1 H1, Pv as.length σ1 H1 → S C D σ1 H1 rest)
    (hs : ∀ X, Good C X → ∀ x, foldedSetIterable iter X.env x = pure x := by exact fun _ _ _ => rfl) : S C D σ H (.For tg iter body [] pos :: rest) :=
  s_of (u := tFor (wI C tg iter) (wG C tg) (wS C body)) (fun X g => ps_for g.po g.calm ⟨fun pins s σ H Q I ⟨_, h, q⟩ => (h X g).run pins s σ H Q I q⟩ ⟨fun pins s σ H v u Q I r ⟨_, h, q⟩ => (h X g).run pins s σ H v u Q I r q⟩ (pss_w g) (hs X g)) fun H1 k => hi H1 k _ fun J H2 Gp Y k2 w hG hY =>
    for_it w (fun i => Cl C.G (Pv i)) ⟨H, k.t k2, h0⟩ (fun i σ1 Ha hle ⟨H0, k0, h⟩ => hG H0 Ha (hsrc i σ1 H0 hle h) k0) (fun i x σ1 Ha Ha' hlt ⟨H0, k0, h⟩ y => by
      obtain ⟨k3, a, ha, iv⟩ := hY i Ha x Ha' hlt y
      obtain ⟨σ2, hg, hs⟩ := hb i a x σ1 H0 Ha' ha h (k0.t k3) iv
      exact hg Ha' Kp.refl _ (hs Ha' Kp.refl)) fun σ1 Ha ⟨H0, k0, h⟩ => hd σ1 H0 h Ha k0
/-- values alone: the body where the invariant holds -/
theorem s_forV {ev : α → V} (Pv : Nat → L2.St → Hp → Prop) (hi : EI C σ H tg iter as (fun a x _ => x = ev a) Src) (h0 : Pv 0 σ H) (hsrc : ∀ i σ1 H1, i ≤ as.length → Pv i σ1 H1 → Src H1)
    (hb : ∀ i a σ1 H1, as[i]? = some a → Pv i σ1 H1 → ∃ σ2, EG C tg (ev a) σ1 H1 σ2 ∧ S C (lpS C rest D (Pv (i + 1))) σ2 H1 body) (hd : ∀ σ1 H1, Pv as.length σ1 H1 → S C D σ1 H1 rest)
    (hs : ∀ X, Good C X → ∀ x, foldedSetIterable iter X.env x = pure x := by exact fun _ _ _ => rfl) : S C D σ H (.For tg iter body [] pos :: rest) :=
  s_for Pv hi h0 hsrc (fun i a x σ1 H1 H2 ha h k e => by
    subst e
    obtain ⟨σ2, hg, hs⟩ := hb i a σ1 H1 ha h
    exact ⟨σ2, fun H3 k3 => hg H3 (k.t k3), hs.mono k⟩) hd hs
theorem s_while (Pv : Nat → L2.St → Hp → Prop) (h0 : ∃ m, Pv m σ H) (hb : ∀ m σ1 H1, Pv m σ1 H1 → ∃ b, T C σ1 H1 c b ∧ (b = false → S C D σ1 H1 rest) ∧ (b = true → S C (lpS C rest D fun σ2 H2 => ∃ m', m' < m ∧ Pv m' σ2 H2) σ1 H1 body)) : S C D σ H (.While c body [] pos :: rest) :=
  s_of (u := tWhile (wT C c) (wS C body)) (fun X g => ps_while g.po (pt_w g) (pss_w g)) fun H1 k => by
    obtain ⟨m, h0⟩ := h0
    refine ⟨fun m => Cl C.G (Pv m), ⟨m, H, k, h0⟩, fun m σ1 Ha ⟨H0, k0, h⟩ => ?_⟩
    obtain ⟨b, ht, hf, hb⟩ := hb m σ1 H0 h
    refine ht Ha k0 _ fun H2 k2 => ?_
    cases b with
    | false => exact iteF (hf rfl H2 (k0.t k2))
    | true =>
      exact iteT ⟨Cl C.G (fun σ2 H2 => ∃ m', m' < m ∧ Pv m' σ2 H2), fun σ' H' ⟨H3, k3, m', hm, h3⟩ => ⟨m', hm, H3, k3, h3⟩, hb rfl H2 (k0.t k2)⟩
end
end Pm
end
/-! ## Ke -/
section
set_option Elab.async false
set_option linter.all false
set_option maxRecDepth 100000
set_option maxHeartbeats 2000000
namespace Pm
open PySem L2
section
variable {C : Ctx} {σ σ' : L2.St} {H H' : Hp} {SS SS' : List Addr} {e a b c o tg iter elt : Expr} {es ifs : List Expr} {P P' Pa : V → Hp → Prop} {x y z v w : V} {r : R2} {pos p1 p2 p3 : Pos} {s t : Bool} {k : Nat} {n m : Str} {PA : List V → Hp → Prop} {q dx : Addr} {D : Ends} {st : Stmt} {rest body body2 : List Stmt} {scope : Scope} {xs : List V}
variable {α : Type} {as : List α} {IV : α → V → Hp → Prop} {Src : Hp → Prop} {own : List (Str × Nat)}
/-! ### comprehensions -/
def LC (C : Ctx) (σ : L2.St) (H : Hp) (elt tg iter : Expr) (ifs : List Expr) (scope : Scope) (own : List (Str × Nat)) (P : V → Hp → Prop) : Prop :=
  ∀ H1, Ex C.G H H1 → ∀ Q : VK, (∀ v H2, Ex C.G H1 H2 → P v H2 → Q v H2) → tLc (wI C tg iter) (wG (C.blk scope) tg) (wTs (C.blk scope) ifs) (wE (C.blk scope) elt) (own.map (·.2)) σ H1 Q
theorem LC.imp (h : LC C σ H elt tg iter ifs scope own P) (i : ∀ v H2, Ex C.G H H2 → P v H2 → P' v H2) : LC C σ H elt tg iter ifs scope own P' := fun H1 k Q q => h H1 k Q fun v H2 k2 p => q v H2 k2 (i v H2 (k.t k2) p)
theorem pe_lcw {X : Cx} (g : Good C X) (ok : BlkOk C.N C.sc scope own) (hs : ∀ x, foldedSetIterable iter X.env x = pure x) : PE X (.ListComp elt [⟨tg, iter, ifs, 0⟩] scope pos) (tLc (wI C tg iter) (wG (C.blk scope) tg) (wTs (C.blk scope) ifs) (wE (C.blk scope) elt) (own.map (·.2))) :=
  pe_lc g.calm (by rw [g.N]; exact g.nd) ⟨fun pins s σ H Q I ⟨_, h, q⟩ => (h X g).run pins s σ H Q I q⟩ (g.blkOk ok)
    (fun s H Ca cl fp => ⟨fun pins s' σ H' v u Q I r ⟨_, h, q⟩ => (h _ (g.blk s H scope cl Ca fp ok.kind)).run pins s' σ H' v u Q I r q⟩)
    (fun s H Ca cl fp => pts_w (g.blk s H scope cl Ca fp ok.kind)) (fun s H Ca cl fp => pe_w (g.blk s H scope cl Ca fp ok.kind)) hs
theorem e_lc (own : List (Str × Nat)) (h : LC C σ H elt tg iter ifs scope own P) (ok : BlkOk C.N C.sc scope own := by exact blkOk_by (by (try dsimp only [ctx, ctxX, Ctx.blk, Ctx.gen]); decide +kernel)) (hs : ∀ X, Good C X → ∀ x, foldedSetIterable iter X.env x = pure x := by exact fun _ _ _ => rfl) : E C σ H (.ListComp elt [⟨tg, iter, ifs, 0⟩] scope pos) P :=
  ek_of (fun X g => pe_lcw g ok (hs X g)) h
theorem s_setLc {i : Nat} (own : List (Str × Nat)) (h : LC C σ H elt tg iter ifs scope own P) (hr : ∀ v H2, Ex C.G H H2 → P v H2 → S C D (σ.set i (some v)) H2 rest) (ok : BlkOk C.N C.sc scope own := by exact blkOk_by (by (try dsimp only [ctx, ctxX, Ctx.blk, Ctx.gen]); decide +kernel)) (hi : C.N[i]? = some n := by rfl) (hx : C.sc.names.lookup n = some .local := by rfl)
    (hl : (p1.line == p2.line) = true := by rfl) (ha : (scope.names.any fun (m, k) => m == n && (k == .local || k == .cell)) = false := by decide +kernel) (hs : ∀ X, Good C X → ∀ x, foldedSetIterable iter X.env x = pure x := by exact fun _ _ _ => rfl) :
    S C D σ H (.Assign [.Name n p1] (.ListComp elt [⟨tg, iter, ifs, 0⟩] scope p2) pos :: rest) :=
  s_of (u := tAsg (tLc (wI C tg iter) (wG (C.blk scope) tg) (wTs (C.blk scope) ifs) (wE (C.blk scope) elt) (own.map fun (p : Str × Nat) => p.2)) (gName i)) (fun X g => ps_setLc g.calm (by rw [g.N]; exact g.nd) (by rw [g.N]; exact hi) (g.lcl hx) (sw_true g.kind (g.lcl hx) hl ha) ⟨fun pins s σ H Q I ⟨_, h, q⟩ => (h X g).run pins s σ H Q I q⟩ (g.blkOk ok)
    (fun s H Ca cl fp => ⟨fun pins s' σ H' v u Q I r ⟨_, h, q⟩ => (h _ (g.blk s H scope cl Ca fp ok.kind)).run pins s' σ H' v u Q I r q⟩)
    (fun s H Ca cl fp => pts_w (g.blk s H scope cl Ca fp ok.kind)) (fun s H Ca cl fp => pe_w (g.blk s H scope cl Ca fp ok.kind)) (hs X g)) fun H1 k => h H1 k _ fun v H2 k2 p2 => hr v H2 (k.t k2) p2 H2 Kp.refl
theorem ts_nil : Ts C σ H [] true := fun H1 k Q q => ⟨tYes, fun X g => pts_nil, q H1 Kp.refl⟩
theorem ts_one (h : T C σ H c s) : Ts C σ H [c] s := fun H1 k Q q => ⟨wT C c, fun X g => pts_one (pt_w g), h H1 k Q q⟩
theorem paired_snoc {β : Type} {F : α → β → Prop} {a : α} {b : β} {as : List α} {bs : List β} (h : Paired F as bs) (h1 : F a b) : Paired F (as ++ [a]) (bs ++ [b]) := h.snoc h1
theorem paired_len {β : Type} {F : α → β → Prop} : ∀ {as : List α} {bs : List β}, Paired F as bs → as.length = bs.length
  | _, _, .nil => rfl
  | _, _, .cons _ t => by simp [paired_len t]
theorem take_filter_succ {p : α → Bool} {i : Nat} {a : α} (h : as[i]? = some a) : (as.take (i + 1)).filter p = (as.take i).filter p ++ (if p a = true then [a] else []) := by
  rw [List.take_add_one, h, List.filter_append]
  congr 1
  by_cases hp : p a = true <;> simp [hp]
/-- each item kept by p gives a v of which R holds -/
theorem lc_R (hi : EI C σ H tg iter as IV Src) (hsrc : ∀ H1, Ex C.G H H1 → Src H1) (p : α → Bool) (R : Addr → α → V → Hp → Prop)
    (hR : ∀ D a v H1 H2 zs, H1 D = some (.lst zs) → Kp C.G [D] H1 H2 → R D a v H1 → R D a v H2) (hlen : as.length ≤ 1000000)
    (hb : ∀ D a x H1 zs, a ∈ as → Ex C.G H H1 → H D = none → H1 D = some (.lst zs) → IV a x H1 → ∃ σ2, EG (C.blk scope) tg x (wipe σ (own.map (·.2))) H1 σ2 ∧ wipe σ2 (own.map (·.2)) = wipe σ (own.map (·.2)) ∧ Ts (C.blk scope) σ2 H1 ifs (p a) ∧ (p a = true → E (C.blk scope) σ2 H1 elt (R D a))) :
    LC C σ H elt tg iter ifs scope own fun v H' => ∃ D ys, v = .ref D ∧ H D = none ∧ H' D = some (.lst ys) ∧ Paired (fun a y => R D a y H') (as.filter p) ys := fun H1 k Q q =>
  hi H1 k _ fun J H2 Gp Y k2 w hG hY D hD => by
    have hDn : H D = none := (k.t k2).free hD
    have kD : ∀ Ha, Kp C.G [D] (upd H2 D (.lst [])) Ha → Ex C.G H2 Ha := fun Ha z => Kp.step (Ex.new hD) z fun x hx => .inr (by rw [List.mem_singleton.mp hx]; exact hD)
    refine lc_it w (fun i Ha => Kp C.G [D] (upd H2 D (.lst [])) Ha ∧ ∃ ys, Ha D = some (.lst ys) ∧ ys.length ≤ i ∧ Paired (fun a y => R D a y Ha) ((as.take i).filter p) ys) ?_ ?_ ?_ ?_
    · exact ⟨Kp.refl, [], upd_same, Nat.le_refl _, .nil⟩
    · rintro i Ha hle ⟨k3, _⟩
      exact hG H2 Ha (hsrc H2 (k.t k2)) (kD Ha k3)
    · rintro i x Ha Ha' hlt ⟨k3, ys, hys, hyl, hP⟩ y
      obtain ⟨k4, a, ha, iv⟩ := hY i Ha x Ha' hlt y
      have hmem : a ∈ as := List.mem_of_getElem? ha
      have kH : Ex C.G H Ha' := (k.t k2).t ((kD Ha k3).t k4)
      obtain ⟨σ2, hg, hw, ht, he⟩ := hb D a x Ha' ys hmem kH hDn (k4.xat hys) iv
      refine hg Ha' Kp.refl _ ⟨hw, ht Ha' Kp.refl _ fun H3 k5 => ?_⟩
      have k35 : Kp C.G [D] (upd H2 D (.lst [])) H3 := k3.then (k4.t k5)
      have hP3 : Paired (fun a y => R D a y H3) ((as.take i).filter p) ys := paired_imp hP fun a y z => hR D a y Ha H3 ys hys (k4.t k5).ex z
      rw [take_filter_succ ha]
      by_cases hp : p a = true
      · rw [hp]
        refine iteT (he hp H3 k5 _ fun y H4 k6 p6 => ⟨ys, (k4.t (k5.t k6)).xat hys, sz_lt (by omega), ?_, ys ++ [y], upd_same, by simp; omega, ?_⟩)
        · exact (k35.then k6).trans (Kp.put1 ((k4.t (k5.t k6)).xat hys))
        · rw [if_pos rfl]
          have kk : Kp C.G [D] H4 (upd H4 D (.lst (ys ++ [y]))) := Kp.put1 ((k4.t (k5.t k6)).xat hys)
          exact paired_snoc (paired_imp hP fun a y z => hR D a y Ha _ ys hys ((k4.t (k5.t k6)).ex.trans kk) z) (hR D a y H4 _ ys ((k4.t (k5.t k6)).xat hys) kk p6)
      · have hp' : p a = false := by simpa using hp
        rw [hp']
        exact iteF ⟨k35, ys, (k4.t k5).xat hys, by omega, by simpa using hP3⟩
    · rintro Ha ⟨k3, ys, hys, hyl, hP⟩
      rw [List.take_length] at hP
      exact q _ _ (k2.t (kD Ha k3)) ⟨D, ys, rfl, hDn, hys, hP⟩
theorem paired_eq {f : α → V} : ∀ {as : List α} {ys : List V}, Paired (fun a y => y = f a) as ys → ys = as.map f
  | _, _, .nil => rfl
  | _, _, .cons h t => by rw [h, paired_eq t]; rfl
/-- values alone -/
theorem lc_V {ev : α → V} (hi : EI C σ H tg iter as (fun a x _ => x = ev a) Src) (hsrc : ∀ H1, Ex C.G H H1 → Src H1) (p : α → Bool) (f : α → V) (hlen : as.length ≤ 1000000)
    (hb : ∀ a H1, a ∈ as → Ex C.G H H1 → ∃ σ2, EG (C.blk scope) tg (ev a) (wipe σ (own.map (·.2))) H1 σ2 ∧ wipe σ2 (own.map (·.2)) = wipe σ (own.map (·.2)) ∧ Ts (C.blk scope) σ2 H1 ifs (p a) ∧ (p a = true → EV (C.blk scope) σ2 H1 elt (f a))) :
    LC C σ H elt tg iter ifs scope own fun v H' => ∃ D, v = .ref D ∧ H D = none ∧ H' D = some (.lst ((as.filter p).map f)) :=
  (lc_R hi hsrc p (fun _ a v _ => v = f a) (fun _ _ _ _ _ _ _ _ z => z) hlen (fun D a x H1 zs hm k _ _ e => by
    subst e
    exact hb a H1 hm k)).imp fun v H2 k ⟨D, ys, h1, h2, h3, h4⟩ => ⟨D, h1, h2, by rw [h3, paired_eq h4]⟩
end
end Pm
end
/-! ## Kf -/
section
set_option Elab.async false
set_option linter.all false
set_option maxRecDepth 100000
set_option maxHeartbeats 2000000
namespace Pm
open PySem L2 PyProof.Rows
section
variable {C : Ctx} {σ σ' : L2.St} {H H' : Hp} {SS SS' : List Addr} {e a b c o tg iter elt : Expr} {es ifs : List Expr} {P P' Pa : V → Hp → Prop} {x y z v w : V} {r : R2} {pos p1 p2 p3 p4 p5 : Pos} {s t : Bool} {k : Nat} {n m : Str} {PA : List V → Hp → Prop} {q dx : Addr} {D : Ends} {st : Stmt} {rest body body2 : List Stmt} {scope : Scope} {xs : List V}
variable {α : Type} {as : List α} {IV : α → V → Hp → Prop} {Src : Hp → Prop}
/-! ### generator expressions in any, all -/
structure GT (C : Ctx) (P c : Addr) (nm : Str) : Prop where
  TB : LamX.TabB C.base C.mg c P
  cg : C.cg = true
  code : C.code = .ref c
  hm : (P, C.qual ++ nm) ∈ C.G
  hu : ∀ p ∈ C.G, p.1 = P → p.2 = C.qual ++ nm
theorem good_gen {X : Cx} {s : Shared} {H : Hp} {Ca : Addr} {code : Value} {fp : List Addr} {j : Nat} {x : Str} (g : Good C X) (G : GX.GexS C.N C.sc scope x j) (hr : Room k (X.A.in1.in1.deeper (GX.gEnv X scope Ca code))) : Good (C.gen scope k) (GX.genCx X s H scope Ca code fp) where
  P := g.P
  w := g.w
  K := g.K
  mg := g.mg
  base := g.base
  N := g.N
  nd := g.nd
  calm := rfl
  room := hr
  sc := fun x => .inl rfl
  fn := fun y h => by
    rcases h with h | h
    · exact .inr h
    · exact absurd rfl (G.cell _ (PySem.mem_of_lookup h))
  cg := fun z => nomatch z
  tk := takes0
  kind := G.kind
  po := PassesOwn.never
theorem GexS_good {X : Cx} {j : Nat} {x : Str} (g : Good C X) (G : GX.GexS C.N C.sc scope x j) : GX.GexS X.N X.env.scope scope x j := by
  refine ⟨G.kind, G.co, G.cell, G.dot, G.loc, G.own, fun y hy e => ?_, by rw [g.N]; exact G.atj, by rw [g.N]; exact G.nd, by rw [g.N]; exact G.nodot⟩
  rcases g.sc y.1 with z | ⟨_, z⟩
  · rcases G.free y hy e with w | w
    · exact .inl (z.trans w)
    · exact .inr (z.trans w)
  · exact .inl z
def gexR (sv : Bool) (p : α → Bool) (as : List α) : Bool := if sv then as.any p else as.all p
theorem gex_read {sv : Bool} {j : Nat} (p : α → Bool) (hi : EI C σ H tg iter as IV Src) (hsrc : ∀ H1, Ex C.G H H1 → Src H1) (ht : TOk C.G H) (hb : ∀ a x H1, a ∈ as → Ex C.G H H1 → IV a x H1 → EV (C.gen scope k) (σ.set j (some x)) H1 elt (.bl (p a))) :
    ∀ H1, Ex C.G H H1 → ∀ Q : VK, (∀ v H2, Ex C.G H1 H2 → v = .bl (gexR sv p as) → Q v H2) → GX.tGex sv C.G (wI C tg iter) j (wE (C.gen scope k) elt) σ H1 Q := fun H1 k1 Q q =>
  hi H1 k1 _ fun J H2 Gp Y k2 w hG hY => ⟨(k1.t k2).tok ht, fun H3 eT hT => by
    have k3 : Ex C.G H2 H3 := Ex.ofT eT fun _ => hT
    refine ⟨fun i m Ha => m = as.length - i ∧ i ≤ as.length ∧ Ex C.G H3 Ha ∧ ∀ a ∈ as.take i, p a = !sv, ⟨as.length, by simp, Nat.zero_le _, Kp.refl, by simp⟩, ?_⟩
    rintro i m Ha ⟨rfl, hle, k4, hall⟩
    have kA : Ex C.G H Ha := ((k1.t k2).t k3).t k4
    have hg : Gp Ha := hG H Ha (hsrc H Kp.refl) kA
    by_cases hlt : i < as.length
    · refine .inr ⟨w.goes i Ha hlt hg, fun H' => Ex C.G H3 H' ∧ ∀ a ∈ as.take (i + 1), p a = !sv, fun H' h => ⟨as.length - (i + 1), by omega, rfl, hlt, h.1, h.2⟩, fun x H' y => ?_⟩
      obtain ⟨k5, a, ha, iv⟩ := hY i Ha x H' hlt (w.yields i Ha x H' hlt hg y)
      have hm : a ∈ as := List.mem_of_getElem? ha
      refine hb a x H' hm (kA.t k5) iv H' Kp.refl _ fun u H5 k6 e => ⟨p a, e, fun hp => ?_, fun hp => ⟨k4.t (k5.t k6), ?_⟩⟩
      · refine q _ _ (k2.t (k3.t (k4.t (k5.t k6)))) ?_
        have : gexR sv p as = sv := by
          unfold gexR
          cases sv with
          | true => exact List.any_eq_true.mpr ⟨a, hm, hp⟩
          | false => exact List.all_eq_false.mpr ⟨a, hm, by rw [hp]; decide⟩
        rw [this]
      · rw [List.take_add_one, ha]
        intro b hb'
        rcases List.mem_append.mp hb' with z | z
        · exact hall b z
        · have : b = a := by simpa using z
          rw [this]
          exact hp
    · have e : i = as.length := by omega
      subst e
      rw [List.take_length] at hall
      refine .inl ⟨w.stops Ha hg, q _ _ (k2.t (k3.t k4)) ?_⟩
      have : gexR sv p as = !sv := by
        unfold gexR
        cases sv with
        | true => exact List.any_eq_false.mpr fun a ha => by rw [hall a ha]; decide
        | false => exact List.all_eq_true.mpr fun a ha => by rw [hall a ha]; rfl
      rw [this]⟩
theorem e_any {P c : Addr} {x' : Str} {j : Nat} (p : α → Bool) (k : Nat) (hk : k + 3 ≤ C.k) (hm : C.mg "any" = none) (GG : GT C P c "<genexpr>") (hi : EI C σ H (.Name x' p2) iter as IV Src) (hsrc : ∀ H1, Ex C.G H H1 → Src H1) (ht : TOk C.G H)
    (hb : ∀ a x H1, a ∈ as → Ex C.G H H1 → IV a x H1 → EV (C.gen scope k) (σ.set j (some x)) H1 elt (.bl (p a))) (G : GX.GexS C.N C.sc scope x' j := by exact GX.gex_by (by (try dsimp only [ctx, ctxX, Ctx.blk, Ctx.gen]); decide +kernel)) (hg : C.sc.names.lookup ("any" : Str) = some .globalImplicit := by rfl)
    (hs : ∀ X, Good C X → ∀ v, genFold iter X.env v = pure v := by exact fun _ _ _ => rfl)
    (he : ∀ X, Good C X → starEach [.GeneratorExp elt [⟨.Name x' p2, iter, [], 0⟩] scope p3] X.env = (false, eval (.GeneratorExp elt [⟨.Name x' p2, iter, [], 0⟩] scope p3) X.env) :: starEach [] X.env := by exact fun _ _ => rfl) :
    EV C σ H (.Call (.Name "any" p1) [.GeneratorExp elt [⟨.Name x' p2, iter, [], 0⟩] scope p3] [] pos) (.bl (as.any p)) :=
  ek_of (fun X g => GX.pe_anyX (g.room.mono hk) (g.gl hg) (by rw [g.mg]; exact hm) (by rw [g.base, g.mg]; exact GG.TB) ((g.cg GG.cg).1.trans GG.code) (by rw [(g.cg GG.cg).2]; exact GG.hm) (by rw [(g.cg GG.cg).2]; exact GG.hu) (GexS_good g G) ⟨fun pins s σ H Q I ⟨_, h, q⟩ => (h X g).run pins s σ H Q I q⟩
    (fun s H Ca code fp hr => pe_w (good_gen g G hr)) (hs X g) (he X g)) (gex_read (sv := true) p hi hsrc ht hb)
theorem e_all {P c : Addr} {x' : Str} {j : Nat} (p : α → Bool) (k : Nat) (hk : k + 3 ≤ C.k) (hm : C.mg "all" = none) (GG : GT C P c "<genexpr>") (hi : EI C σ H (.Name x' p2) iter as IV Src) (hsrc : ∀ H1, Ex C.G H H1 → Src H1) (ht : TOk C.G H)
    (hb : ∀ a x H1, a ∈ as → Ex C.G H H1 → IV a x H1 → EV (C.gen scope k) (σ.set j (some x)) H1 elt (.bl (p a))) (G : GX.GexS C.N C.sc scope x' j := by exact GX.gex_by (by (try dsimp only [ctx, ctxX, Ctx.blk, Ctx.gen]); decide +kernel)) (hg : C.sc.names.lookup ("all" : Str) = some .globalImplicit := by rfl)
    (hs : ∀ X, Good C X → ∀ v, genFold iter X.env v = pure v := by exact fun _ _ _ => rfl)
    (he : ∀ X, Good C X → starEach [.GeneratorExp elt [⟨.Name x' p2, iter, [], 0⟩] scope p3] X.env = (false, eval (.GeneratorExp elt [⟨.Name x' p2, iter, [], 0⟩] scope p3) X.env) :: starEach [] X.env := by exact fun _ _ => rfl) :
    EV C σ H (.Call (.Name "all" p1) [.GeneratorExp elt [⟨.Name x' p2, iter, [], 0⟩] scope p3] [] pos) (.bl (as.all p)) :=
  ek_of (fun X g => GX.pe_allX (g.room.mono hk) (g.gl hg) (by rw [g.mg]; exact hm) (by decide +kernel) (by rw [g.base, g.mg]; exact GG.TB) ((g.cg GG.cg).1.trans GG.code) (by rw [(g.cg GG.cg).2]; exact GG.hm) (by rw [(g.cg GG.cg).2]; exact GG.hu) (GexS_good g G) ⟨fun pins s σ H Q I ⟨_, h, q⟩ => (h X g).run pins s σ H Q I q⟩
    (fun s H Ca code fp hr => pe_w (good_gen g G hr)) (hs X g) (he X g)) (gex_read (sv := false) p hi hsrc ht hb)
end
/-! ### defs -/
structure FunC (K : PySem.W.Frag) (x qual : Str) (st : Stmt) (f : Addr) (fd : FuncData) (cdv : Value) : Prop where
  ex : ∃ (oc : Value) (od : Option Addr) (kV doc pm : Value) (an : Option Addr) (ct : Value) (osl : Array (Option Value)),
    fd = PySem.W.fnOf x qual (defArgs st) (defBody st) (defScope st) .none kV doc pm an cdv ct ∧ K.lookup f = some ⟨oc, od, .func fd, osl⟩ ∧ PySem.W.codeIn K cdv qual = true
  kp : PySem.W.keepIn K (.ref f) = true
theorem good_def {B : Bs} {N ps : List Str} {st : Stmt} {k : Nat} {cdv : Value} {qual : Str} {f : Addr} {A : Around} {outer : List Env} {s : Shared} {H : Hp} {E : XK} {CX : CXT} (S : FnScope N ps (defScope st)) (hr : Room k (A.deeper (envOfC qual (defScope st) s.heap.objs.size f cdv))) :
    Good (ctx B N st k cdv qual) (cxOf CX B.P B.w B.K B.mg B.base N qual (defScope st) f cdv A outer s H E).nox where
  P := rfl
  w := rfl
  K := rfl
  mg := rfl
  base := rfl
  N := rfl
  nd := S.nd
  calm := rfl
  room := hr
  sc := fun x => .inl rfl
  fn := fun x h => .inl rfl
  cg := fun _ => ⟨rfl, rfl⟩
  tk := takes0
  kind := S.kind
  po := PassesOwn.never
/-- THE RULE for a def that raises nothing -/
theorem def_ok {B : Bs} {x qual : Str} {st : Stmt} {f : Addr} {fd : FuncData} {cdv : Value} {N ps : List Str} {k : Nat} {pre : Pre} (F : FunC B.K x qual st f fd cdv) (S : FnScope N ps (defScope st)) (hl : ∀ vs H SS P, pre vs H SS P → vs.length = ps.length)
    (hb : ∀ vs H SS P D, TOk B.G H → pre vs H SS P → (∀ v H', Kp B.G SS H H' → P v H' → D.rt v H') → (∀ σ' H', Kp B.G SS H H' → P .non H' → D.nx σ' H') → Pm.S (ctx B N st k cdv qual) D (start N vs) H (defBody st)) :
    FnOk B.P B.w B.K B.mg B.base CX0 (k + 1) f fd ps (spM B.G pre) := by
  obtain ⟨oc, od, kV, doc, pm, an, ct, osl, rfl, lk, hcd⟩ := F.ex
  refine fn_of lk hcd S (fun vs H Q E h => ?_) fun A outer s H vs Q E hr h => ?_
  · obtain ⟨_, SS, P, hp, _⟩ := h
    exact hl _ _ _ _ hp
  · obtain ⟨ht, SS, P, hp, q⟩ := h
    obtain ⟨t, h, w⟩ := hb vs H SS P { nx := fun _ H' => Q .non H', rt := Q } ht hp (fun v H' => q v H') (fun _ H' => q .non H') H Kp.refl
    exact ⟨t, (h _ (good_def (CX := CX0) S hr)).nox, w⟩
end Pm
end
/-! ## Kg -/
section
set_option Elab.async false
set_option linter.all false
set_option maxRecDepth 100000
set_option maxHeartbeats 2000000
namespace Pm
open PySem L2 PyProof.Rows
section
variable {G : Gt} {H H1 H' : Hp} {d : Addr} {u u' : HO}
theorem Ex.upd (k : Ex G H H1) (h : H d = some u) (mu : mutO u = true) (mu' : mutO u' = true) : Ex G (upd H d u') (upd H1 d u') := by
  refine ⟨fun b o e n _ => ?_, fun b e => ?_, fun t => ?_⟩
  · by_cases z : b = d
    · subst z
      rw [upd_same] at e ⊢
      exact e
    · rw [upd_ne z] at e ⊢
      exact k.xat e n
  · by_cases z : b = d
    · subst z
      rw [upd_same] at e
      cases e
    · rw [upd_ne z] at e ⊢
      exact k.free e
  · have e0 : L2.upd (L2.upd H d u') d u = H := by
      funext b
      by_cases z : b = d
      · subst z
        rw [upd_same, h]
      · rw [upd_ne z, upd_ne z]
    have t0 : TOk G H := by
      rw [← e0]
      exact (Kp.put1 (G := G) upd_same mu').tok t
    exact (Kp.put1 (G := G) (k.xat h (mutO_tbl mu)) mu).tok (k.tok t0)
theorem Ex.unlock {od : Obj} (k : Ex G (L2.upd H d (.frz od u)) H') (h : H d = some u) (mu : mutO u = true) : Ex G H (L2.upd H' d u) := by
  refine ⟨fun b o e n _ => ?_, fun b e => ?_, fun t => ?_⟩
  · by_cases z : b = d
    · subst z
      rw [upd_same, ← e, h]
    · rw [upd_ne z]
      exact k.xat (by rw [upd_ne z]; exact e) n
  · by_cases z : b = d
    · subst z
      rw [upd_same] at e
      cases e
    · rw [upd_ne z] at e
      have := k.free e
      rwa [upd_ne z] at this
  · have hd : H' d = some (.frz od u) := k.xat upd_same
    exact (Kp.put1 (G := G) hd).tok (k.tok ((Kp.put1 (G := G) h mu).tok t))
theorem Kp.unlock {S : List Addr} {od : Obj} (k : Kp G S (L2.upd H d (.frz od u)) H') (hs : d ∉ S) (h : H d = some u) (mu : mutO u = true) : Kp G S H (L2.upd H' d u) := by
  refine ⟨fun b o e n hb => ?_, fun b e => ?_, fun t => ?_⟩
  · by_cases z : b = d
    · subst z
      rw [upd_same, ← e, h]
    · rw [upd_ne z]
      exact k.at (by rw [upd_ne z]; exact e) hb n
  · by_cases z : b = d
    · subst z
      rw [upd_same] at e
      cases e
    · rw [upd_ne z] at e
      have := k.free e
      rwa [upd_ne z] at this
  · have hd : H' d = some (.frz od u) := k.at upd_same hs
    exact (Kp.put1 (G := G) hd).tok (k.tok ((Kp.put1 (G := G) h mu).tok t))
end
section
variable {C : Ctx} {σ σ' : L2.St} {H H' : Hp} {SS SS' : List Addr} {e a b c o tg iter elt : Expr} {es ifs : List Expr} {P P' Pa : V → Hp → Prop} {x y z v w : V} {r : R2} {pos p1 p2 p3 p4 p5 p6 p7 : Pos} {s t : Bool} {k : Nat} {n m : Str} {PA : List V → Hp → Prop} {q dx d : Addr} {D : Ends} {st : Stmt} {rest body body2 : List Stmt} {scope : Scope} {xs : List V}
variable {α : Type} {as : List α} {IV : α → V → Hp → Prop} {Src : Hp → Prop} {kvs : List (L2.Key × V)} {od : Obj}
theorem walk_enumT {K : PySem.W.Frag} : Walk (NX.Iten K q) xs.length (fun H => SqT K H q xs) (YPair (fun i => some (.int (i : Nat))) (fun i => xs[i]?)) := by
  refine ⟨fun i _ hi q => ⟨xs, xs[i], q, by simp [hi]⟩, fun _ q => ⟨xs, q, rfl⟩, fun i H v H' _ q y => ?_⟩
  obtain ⟨T, x, h1, h2, h3, h4⟩ := y
  exact ⟨T, .int (i : Nat), x, h1, h2, h3, rfl, h4 xs q⟩
theorem zipIdx_at {i : Nat} (h : i < as.length) : as.zipIdx[i]? = some (as[i], i) := by
  simp [h]
theorem ei_enumT {ev : α → V} {tp : Pos} {elts : List Expr} {kk : Nat} (hm : C.mg "enumerate" = none) (ha : EV C σ H e (.ref q)) (hs : SqT C.K H q (as.map ev)) (hg : C.sc.names.lookup ("enumerate" : Str) = some .globalImplicit := by rfl) (hst : ∀ X, Good C X → starEach [e] X.env = [(false, eval e X.env)] := by exact fun _ _ => rfl) :
    EI C σ H (.Tuple elts kk tp) (.Call (.Name "enumerate" p1) [e] [] pos) as.zipIdx (fun ai x H' => ∃ T, x = .ref T ∧ H' T = some (.tup [.int (ai.2 : Nat), ev ai.1])) (fun H' => SqT C.K H' q (as.map ev)) := fun H1 k R hR =>
  ⟨NX.iEnumT C.K (tCons (wE C e) tNil), fun X g => by rw [← g.K]; exact NX.pi_enumT (g.gl hg) (by rw [g.mg]; exact hm) (pa_cons (pe_w g) pa_nil (hst X g)) (hst X g), ha H1 k _ fun u H2 k2 p2 => by
    subst p2
    refine ⟨q, _, rfl, ex_t (k.t k2) hs, hR _ H2 (fun H => SqT C.K H q (as.map ev)) _ k2 (by have := walk_enumT (K := C.K) (q := q) (xs := as.map ev); rwa [List.length_map, ← List.length_zipIdx (l := as) (i := 0)] at this) (fun _ _ h k => ex_t k h) fun i Ha x Ha' hi hy => ?_⟩
    obtain ⟨T, x1, y1, h1, h2, h3, h4, h5⟩ := hy
    rw [List.length_zipIdx] at hi
    refine ⟨by rw [h3]; exact Ex.new h2, (as[i], i), zipIdx_at hi, T, h1, ?_⟩
    have h5 : (List.map ev as)[i]? = some y1 := h5
    have h4 : some (V.int (i : Nat)) = some x1 := h4
    rw [List.getElem?_map, List.getElem?_eq_getElem hi] at h5
    rw [h3, upd_same, ← Option.some.inj h4, ← Option.some.inj h5]⟩
theorem ei_enumL {ev : α → V} {tp : Pos} {elts : List Expr} {kk : Nat} (hm : C.mg "enumerate" = none) (ha : EV C σ H e (.ref q)) (hs : SqL C.K H q (as.map ev)) (hg : C.sc.names.lookup ("enumerate" : Str) = some .globalImplicit := by rfl) (hst : ∀ X, Good C X → starEach [e] X.env = [(false, eval e X.env)] := by exact fun _ _ => rfl) :
    EI C σ H (.Tuple elts kk tp) (.Call (.Name "enumerate" p1) [e] [] pos) as.zipIdx (fun ai x H' => ∃ T, x = .ref T ∧ H' T = some (.tup [.int (ai.2 : Nat), ev ai.1])) (fun H' => SqL C.K H' q (as.map ev)) := fun H1 k R hR =>
  ⟨iEnum C.K (tCons (wE C e) tNil), fun X g => by rw [← g.K]; exact pi_enum (g.gl hg) (by rw [g.mg]; exact hm) (pa_cons (pe_w g) pa_nil (hst X g)) (hst X g), ha H1 k _ fun u H2 k2 p2 => by
    subst p2
    refine ⟨q, _, rfl, ex_l (k.t k2) hs, hR _ H2 (fun H => SqL C.K H q (as.map ev)) _ k2 (by have := walk_enum (K := C.K) (a := q) (xs := as.map ev); rwa [List.length_map, ← List.length_zipIdx (l := as) (i := 0)] at this) (fun _ _ h k => ex_l k h) fun i Ha x Ha' hi hy => ?_⟩
    obtain ⟨T, x1, y1, h1, h2, h3, h4, h5⟩ := hy
    rw [List.length_zipIdx] at hi
    refine ⟨by rw [h3]; exact Ex.new h2, (as[i], i), zipIdx_at hi, T, h1, ?_⟩
    have h5 : (List.map ev as)[i]? = some y1 := h5
    have h4 : some (V.int (i : Nat)) = some x1 := h4
    rw [List.getElem?_map, List.getElem?_eq_getElem hi] at h5
    rw [h3, upd_same, ← Option.some.inj h4, ← Option.some.inj h5]⟩
/-- a dict's keys, where it is locked -/
theorem ei_keys (he : EV C σ H iter (.ref d)) (hd : H d = some (.frz od (.dK kvs))) : EI C σ H tg iter kvs (fun kv x _ => x = kV kv.1) (fun H' => H' d = some (.frz od (.dK kvs))) := fun H1 k R hR =>
  ⟨iKeys (wE C iter), fun X g => pi_keys (pe_w g), he H1 k _ fun u H2 k2 p2 => ⟨d, od, p2, .inl ⟨kvs, (k.t k2).xat hd, hR _ H2 (fun H => H d = some (.frz od (.dK kvs))) _ k2 walk_keys (fun _ _ h k => k.xat h) fun i Ha x Ha' hi hy => by
    obtain ⟨e1, k0, v0, h1, h2⟩ := hy
    subst e1
    exact ⟨Kp.refl, _, h1, h2⟩⟩⟩⟩
/-- the ends of a locked loop's body -/
abbrev lkS (C : Ctx) (rest : List Stmt) (D : Ends) (d : Addr) (u : HO) (od : Obj) (N : L2.St → Hp → Prop) : Ends :=
  { nx := Cl C.G N, ct := Cl C.G N, bk := fun σ' H' => H' d = some (.frz od u) ∧ wS C rest D σ' (L2.upd H' d u), rt := fun v H' => H' d = some (.frz od u) ∧ D.rt v (L2.upd H' d u) }
theorem s_lk {N : L2.St → Hp → Prop} {u : HO} (h : N σ H) : S C (lkS C rest D d u od N) σ H [] := s_nil fun H1 k => ⟨H, k, h⟩
/-- for k in d -/
theorem s_forKeys (Pv : Obj → Nat → L2.St → Hp → Prop) (hd : H d = some (.dK kvs)) (he : ∀ od, EV C σ (L2.upd H d (.frz od (.dK kvs))) iter (.ref d)) (h0 : ∀ od, Pv od 0 σ (L2.upd H d (.frz od (.dK kvs)))) (hsrc : ∀ od i σ1 H1, Pv od i σ1 H1 → H1 d = some (.frz od (.dK kvs)))
    (hb : ∀ od i kv σ1 H1, kvs[i]? = some kv → Pv od i σ1 H1 → ∃ σ2, EG C tg (kV kv.1) σ1 H1 σ2 ∧ S C (lkS C rest D d (.dK kvs) od (Pv od (i + 1))) σ2 H1 body) (hend : ∀ od σ1 H1, Pv od kvs.length σ1 H1 → S C D σ1 (L2.upd H1 d (.dK kvs)) rest)
    (hs : ∀ X, Good C X → ∀ x, foldedSetIterable iter X.env x = pure x := by exact fun _ _ _ => rfl) : S C D σ H (.For tg iter body [] pos :: rest) :=
  s_of (u := tLock (tFor (wI C tg iter) (wG C tg) (wS C body))) (fun X g => ps_lock (ps_for g.po g.calm ⟨fun pins s σ H Q I ⟨_, h, q⟩ => (h X g).run pins s σ H Q I q⟩ ⟨fun pins s σ H v u Q I r ⟨_, h, q⟩ => (h X g).run pins s σ H v u Q I r q⟩ (pss_w g) (hs X g))) fun H1 k =>
    ⟨d, .dK kvs, k.xat hd, trivial, fun od => ei_keys (he od) upd_same (L2.upd H1 d (.frz od (.dK kvs))) (Ex.upd k hd rfl rfl) _ fun J H2 Gp Y k2 w hG hY =>
      for_it w (fun i => Cl C.G (Pv od i)) ⟨_, (Ex.upd k hd rfl rfl).t k2, h0 od⟩ (fun i σ1 Ha hle ⟨H0, k0, h⟩ => hG H0 Ha (hsrc od i σ1 H0 h) k0) (fun i x σ1 Ha Ha' hlt ⟨H0, k0, h⟩ y => by
        obtain ⟨k3, kv, ha, iv⟩ := hY i Ha x Ha' hlt y
        obtain ⟨σ2, hg, hs⟩ := hb od i kv σ1 H0 ha h
        subst iv
        exact hg Ha' (k0.t k3) _ (hs Ha' (k0.t k3))) fun σ1 Ha ⟨H0, k0, h⟩ => ⟨k0.xat (hsrc od _ σ1 H0 h), hend od σ1 H0 h _ (Ex.upd k0 (hsrc od _ σ1 H0 h) rfl rfl)⟩⟩
variable {own : List (Str × Nat)}
/-- a comprehension over a dict's keys -/
theorem e_lcK (own : List (Str × Nat)) (P' : Obj → V → Hp → Prop) (hd : H d = some (.dK kvs)) (h : ∀ od, LC C σ (L2.upd H d (.frz od (.dK kvs))) elt tg iter ifs scope own (P' od)) (hP : ∀ od v H1, H1 d = some (.frz od (.dK kvs)) → P' od v H1 → P v (L2.upd H1 d (.dK kvs)))
    (ok : BlkOk C.N C.sc scope own := by exact blkOk_by (by (try dsimp only [ctx, ctxX, Ctx.blk, Ctx.gen]); decide +kernel)) (hs : ∀ X, Good C X → ∀ x, foldedSetIterable iter X.env x = pure x := by exact fun _ _ _ => rfl) : E C σ H (.ListComp elt [⟨tg, iter, ifs, 0⟩] scope pos) P :=
  ek_of (fun X g => pe_lock (pe_lcw g ok (hs X g))) fun H1 k Q q' => ⟨d, .dK kvs, k.xat hd, trivial, fun od => h od _ (Ex.upd k hd rfl rfl) _ fun v H2 k2 p2 => ⟨k2.xat upd_same, q' _ _ (Ex.unlock k2 (k.xat hd) rfl) (hP od v H2 (k2.xat upd_same) p2)⟩⟩
theorem s_setLcK {i : Nat} (own : List (Str × Nat)) (P' : Obj → V → Hp → Prop) (hd : H d = some (.dK kvs)) (h : ∀ od, LC C σ (L2.upd H d (.frz od (.dK kvs))) elt tg iter ifs scope own (P' od)) (hr : ∀ od v H1, Ex C.G (L2.upd H d (.frz od (.dK kvs))) H1 → P' od v H1 → S C D (σ.set i (some v)) (L2.upd H1 d (.dK kvs)) rest)
    (ok : BlkOk C.N C.sc scope own := by exact blkOk_by (by (try dsimp only [ctx, ctxX, Ctx.blk, Ctx.gen]); decide +kernel)) (hi : C.N[i]? = some n := by rfl) (hx : C.sc.names.lookup n = some .local := by rfl)
    (hl : (p1.line == p2.line) = true := by rfl) (ha : (scope.names.any fun (m, k) => m == n && (k == .local || k == .cell)) = false := by decide +kernel) (hs : ∀ X, Good C X → ∀ x, foldedSetIterable iter X.env x = pure x := by exact fun _ _ _ => rfl) :
    S C D σ H (.Assign [.Name n p1] (.ListComp elt [⟨tg, iter, ifs, 0⟩] scope p2) pos :: rest) :=
  s_of (u := tLock (tAsg (tLc (wI C tg iter) (wG (C.blk scope) tg) (wTs (C.blk scope) ifs) (wE (C.blk scope) elt) (own.map fun (p : Str × Nat) => p.2)) (gName i))) (fun X g => ps_lock (ps_setLc g.calm (by rw [g.N]; exact g.nd) (by rw [g.N]; exact hi) (g.lcl hx) (sw_true g.kind (g.lcl hx) hl ha) ⟨fun pins s σ H Q I ⟨_, h, q⟩ => (h X g).run pins s σ H Q I q⟩ (g.blkOk ok)
    (fun s H Ca cl fp => ⟨fun pins s' σ H' v u Q I r ⟨_, h, q⟩ => (h _ (g.blk s H scope cl Ca fp ok.kind)).run pins s' σ H' v u Q I r q⟩)
    (fun s H Ca cl fp => pts_w (g.blk s H scope cl Ca fp ok.kind)) (fun s H Ca cl fp => pe_w (g.blk s H scope cl Ca fp ok.kind)) (hs X g))) fun H1 k =>
      ⟨d, .dK kvs, k.xat hd, trivial, fun od => h od _ (Ex.upd k hd rfl rfl) _ fun v H2 k2 p2 => ⟨k2.xat upd_same, hr od v H2 ((Ex.upd k hd rfl rfl).t k2) p2 _ Kp.refl⟩⟩
/-! sorted, max with a key -/
theorem LamK_good {X : Cx} {x n : Str} (g : Good C X) (L : SX3.LamK C.sc scope x n) : SX3.LamK X.env.scope scope x n := by
  refine ⟨L.kind, L.co, L.gen, L.cell, L.loc, L.frn, fun y hy e => ?_⟩
  rcases g.sc y.1 with z | ⟨_, z⟩
  · rcases L.free y hy e with w | w
    · exact .inl (z.trans w)
    · exact .inr (z.trans w)
  · exact .inl z
theorem e_sortIx {Pc c : Addr} {x' n' : Str} {i : Nat} {params : Arguments} {o : Addr} {ss ys : List Str} (k : Nat) (hk : k + 3 ≤ C.k) (hm : C.mg "sorted" = none) (GG : GT C Pc c "<lambda>") (ht : TOk C.G H) (ha : E C σ H e Pa) (hs : ∀ v H1, Ex C.G H H1 → Pa v H1 → ∃ q, v = .ref q ∧ H1 q = some (.lst (ss.map V.str))) (hv : σ[i]? = some (some (.ref o))) (ho : H o = some (.lst (ys.map V.str))) (hall : ∀ x ∈ ss, x ∈ ys)
    (hi : C.N[i]? = some n' := by rfl) (L : SX3.LamK C.sc scope x' n' := by exact SX3.lamK_by (by (try dsimp only [ctx, ctxX, Ctx.blk, Ctx.gen]); decide +kernel)) (hg : C.sc.names.lookup ("sorted" : Str) = some .globalImplicit := by rfl) (hdef : ∀ X, Good C X → defaultsOf params X.env = ([], []) := by exact fun _ _ => rfl)
    (hbind : ∀ (q : Str) (cl : List (Str × Addr)) (pm cv ctv v : Value), bindArgs (PySem.W.kla_fn "<lambda>" q params (.Call (.Attribute (.Name n' p1) "index" p2) [.Name x' p3] [] p4) scope cl pm cv ctv) ⟨[v], []⟩ = pure [(x', v)] := by intros; rfl)
    (hdn : (n' == ("__debug__" : Str)) = false := by decide) (hcn : (n' == ("__classdict__" : Str)) = false := by decide) (hdx : (x' == ("__debug__" : Str)) = false := by decide) (hline : (p2.endLine == p4.line) = true := by rfl)
    (hst : ∀ X, Good C X → backTo pos (starEach [e] X.env) = (false, eval e X.env) :: backTo pos (starEach [] X.env) := by exact fun _ _ => rfl) (hs1 : ∀ X, Good C X → starEach [e] X.env = (false, eval e X.env) :: starEach [] X.env := by exact fun _ _ => rfl) :
    EN C σ H (.Call (.Name "sorted" p5) [e] [⟨some "key", .Lambda params (.Call (.Attribute (.Name n' p1) "index" p2) [.Name x' p3] [] p4) scope p6, p7⟩] pos) (.lst ((ss.mergeSort fun a b => decide ((ys.idxOf a : Int) ≤ (ys.idxOf b : Int))).map V.str)) :=
  ek_of (t := SX3.tSortIx C.K C.G i (wE C e)) (fun X g => by rw [← g.K]; exact SX3.pe_sortIx (k := k) (pe_w g) (g.gl hg) (by rw [g.mg]; exact hm) (by rw [g.base, g.mg]; exact GG.TB) ((g.cg GG.cg).1.trans GG.code) (by rw [(g.cg GG.cg).2]; exact GG.hm) (by rw [(g.cg GG.cg).2]; exact GG.hu) (g.room.mono hk) (LamK_good g L) (by rw [g.N]; exact hi) (hdef X g) hbind hdn hcn hdx hline (hst X g) (hs1 X g)) fun H1 k1 Q q => ha H1 k1 _ fun v H2 k2 p2 => by
    obtain ⟨q', e1, h2⟩ := hs v H2 (k1.t k2) p2
    refine ⟨q', o, ss, ys, e1, .inl (.inl h2), hv, (k1.t k2).xat ho, hall, (k1.t k2).tok ht, fun H3 eT hT p hp => q _ _ ?_ ⟨p, rfl, ?_, upd_same⟩⟩
    · exact k2.t ((Ex.ofT eT fun _ => hT).t (Ex.new hp))
    · exact ((k1.t k2).t (Ex.ofT eT fun _ => hT)).free hp
theorem e_maxRk {Pc c : Addr} {x' n' fn : Str} {i : Nat} {params : Arguments} {q so Cl dx dr : Addr} {fs : List (Str × V)} {ns : List Int} (rk : Int → Int) (k : Nat) (hk : k + 3 ≤ C.k) (hm : C.mg "max" = none) (GG : GT C Pc c "<lambda>") (ht : TOk C.G H) (ha : EV C σ H e (.ref q)) (hs : SqL C.K H q (ns.map V.int)) (hp : 0 < ns.length) (hv : σ[i]? = some (some (.ref so)))
    (ho : H so = some (.ins Cl dx fs)) (hc : Cls C.K Cl) (hn : NoAttr C.K Cl fn) (hl : fs.lookup fn = some (.ref dr)) (hd : H dr = some (.dK kvs)) (hr : ∀ n ∈ ns, valV kvs (Sum.inl n : L2.Key) = some (.int (rk n)))
    (hi : C.N[i]? = some n' := by rfl) (L : SX3.LamK C.sc scope x' n' := by exact SX3.lamK_by (by (try dsimp only [ctx, ctxX, Ctx.blk, Ctx.gen]); decide +kernel)) (hg : C.sc.names.lookup ("max" : Str) = some .globalImplicit := by rfl) (hdef : ∀ X, Good C X → defaultsOf params X.env = ([], []) := by exact fun _ _ => rfl)
    (hbind : ∀ (q : Str) (cl : List (Str × Addr)) (pm cv ctv v : Value), bindArgs (PySem.W.kla_fn "<lambda>" q params (.Subscript (.Attribute (.Name n' p1) fn p2) (.Name x' p3) p4) scope cl pm cv ctv) ⟨[v], []⟩ = pure [(x', v)] := by intros; rfl)
    (hbase : ∀ env : Env, attributeBase (.Name n' p1) fn env (eval (.Name n' p1) env) = eval (.Name n' p1) env := by intro _; rfl)
    (hdn : (n' == ("__debug__" : Str)) = false := by decide) (hcn : (n' == ("__classdict__" : Str)) = false := by decide) (hdx : (x' == ("__debug__" : Str)) = false := by decide)
    (hst : ∀ X, Good C X → backTo pos (starEach [e] X.env) = (false, eval e X.env) :: backTo pos (starEach [] X.env) := by exact fun _ _ => rfl) (hs1 : ∀ X, Good C X → starEach [e] X.env = (false, eval e X.env) :: starEach [] X.env := by exact fun _ _ => rfl) :
    E C σ H (.Call (.Name "max" p5) [e] [⟨some "key", .Lambda params (.Subscript (.Attribute (.Name n' p1) fn p2) (.Name x' p3) p4) scope p6, p7⟩] pos) (fun v _ => ∃ m, v = .int m ∧ m ∈ ns ∧ ∀ n ∈ ns, rk n ≤ rk m) :=
  ek_of (t := SX3.tMaxRk C.K C.G i fn (wE C e)) (fun X g => by rw [← g.K]; exact SX3.pe_maxRk (k := k) (pe_w g) (g.gl hg) (by rw [g.mg]; exact hm) g.calm (by rw [g.base, g.mg]; exact GG.TB) ((g.cg GG.cg).1.trans GG.code) (by rw [(g.cg GG.cg).2]; exact GG.hm) (by rw [(g.cg GG.cg).2]; exact GG.hu) (g.room.mono hk) (LamK_good g L) (by rw [g.N]; exact hi) (hdef X g) hbind hbase hdn hcn hdx (hst X g) (hs1 X g)) fun H1 k1 Q q' => ha H1 k1 _ fun v H2 k2 p2 => by
    have kk := k1.t k2
    exact ⟨q, so, Cl, dx, dr, fs, kvs, ns, rk, p2, ex_l kk hs, hp, hv, kk.xat ho, hc, hn, hl, kk.xat hd, hr, kk.tok ht, fun H3 eT hT m hm hle => q' _ _ (k2.t (Ex.ofT eT fun _ => hT)) ⟨m, rfl, hm, hle⟩⟩
end
end Pm
end
/-! ## Kh -/
section
set_option Elab.async false
set_option linter.all false
set_option maxRecDepth 100000
set_option maxHeartbeats 2000000
namespace Pm
open PySem L2 PyProof.Rows
abbrev nI (n : Nat) : V := .int (n : Int)
/-! ### == of plain data -/
abbrev sOk (x : Str) : Prop := (PyData.str x).canLay0 = true
/-- data without bools and dicts, not deeper than n -/
inductive Sm : Nat → PyData → Prop
  | non {n} : Sm n .none
  | int {n} (i : Int) : Sm n (.int i)
  | str {n} {x : Str} : sOk x → Sm n (.str x)
  | lst {n} {ds : List PyData} : (∀ d ∈ ds, Sm n d) → Sm (n + 1) (.list ds)
  | tup {n} {ds : List PyData} : (∀ d ∈ ds, Sm n d) → Sm (n + 1) (.tuple ds)
theorem canLayAll_of {ds : List PyData} (h : ∀ d ∈ ds, d.canLay0 = true) : PyData.canLayAll0 ds = true := by
  induction ds with
  | nil => rfl
  | cons x r ih =>
    rw [PyData.canLayAll0, h x (by simp), ih fun d hd => h d (by simp [hd])]
    rfl
theorem depthAll_le {n : Nat} {ds : List PyData} (h : ∀ d ∈ ds, d.depth ≤ n) : PyData.depthAll ds ≤ n := by
  induction ds with
  | nil => simp [PyData.depthAll]
  | cons x r ih =>
    have h1 := h x (by simp)
    have h2 := ih fun d hd => h d (by simp [hd])
    rw [PyData.depthAll]
    omega
theorem Sm.lay {n : Nat} {d : PyData} (h : Sm n d) : d.canLay0 = true ∧ d.depth ≤ n + 1 := by
  induction h with
  | non => exact ⟨rfl, by simp [PyData.depth]⟩
  | int i => exact ⟨rfl, by simp [PyData.depth]⟩
  | str h => exact ⟨h, by simp [PyData.depth]⟩
  | lst h ih =>
    refine ⟨by rw [PyData.canLay0]; exact canLayAll_of fun d hd => (ih d hd).1, ?_⟩
    have := depthAll_le fun d hd => (ih d hd).2
    rw [PyData.depth]
    omega
  | tup h ih =>
    refine ⟨by rw [PyData.canLay0]; exact canLayAll_of fun d hd => (ih d hd).1, ?_⟩
    have := depthAll_le fun d hd => (ih d hd).2
    rw [PyData.depth]
    omega
theorem Sm.shaped {n : Nat} {d : PyData} (h : Sm n d) (hn : n ≤ 60) : SeqAt.shaped d = true := by
  unfold SeqAt.shaped
  rw [h.lay.1]
  have := h.lay.2
  simp
  omega
theorem eqvAll_iff {xs : List PyData} : ∀ {ys : List PyData}, (∀ x ∈ xs, ∀ y ∈ ys, PyData.eqv x y = true ↔ x = y) → (PyData.eqvAll xs ys = true ↔ xs = ys) := by
  induction xs with
  | nil =>
    intro ys _
    cases ys <;> simp [PyData.eqvAll]
  | cons x r ih =>
    intro ys h
    cases ys with
    | nil => simp [PyData.eqvAll]
    | cons y q =>
      have h1 := h x (by simp) y (by simp)
      have h2 := ih (ys := q) fun a ha b hb => h a (by simp [ha]) b (by simp [hb])
      rw [PyData.eqvAll, Bool.and_eq_true, h1, h2]
      simp
theorem Sm.eqv {n : Nat} {d : PyData} (h : Sm n d) : ∀ {m : Nat} {e : PyData}, Sm m e → (PyData.eqv d e = true ↔ d = e) := by
  induction h with
  | non => intro m e h; cases h <;> simp [PyData.eqv]
  | int i => intro m e h; cases h <;> simp [PyData.eqv]
  | str _ => intro m e h; cases h <;> simp [PyData.eqv]
  | lst hd ih =>
    intro m e h
    cases h with
    | lst he =>
      rw [PyData.eqv, eqvAll_iff fun x hx y hy => ih x hx (he y hy)]
      simp
    | _ => simp [PyData.eqv]
  | tup hd ih =>
    intro m e h
    cases h with
    | tup he =>
      rw [PyData.eqv, eqvAll_iff fun x hx y hy => ih x hx (he y hy)]
      simp
    | _ => simp [PyData.eqv]
theorem dpAll_map {K : PySem.W.Frag} {H : Hp} {α : Type} {f : α → V} {g : α → PyData} {as : List α} (h : ∀ a ∈ as, Dp K H (f a) (g a)) : DpAll K H (as.map f) (as.map g) := by
  induction as with
  | nil => exact .nil
  | cons a r ih => exact .cons (h a (by simp)) (ih fun b hb => h b (by simp [hb]))
theorem dpAll_paired {K : PySem.W.Frag} {H : Hp} {α : Type} {g : α → PyData} {R : α → V → Prop} : ∀ {as : List α} {vs : List V}, Paired R as vs → (∀ a v, R a v → Dp K H v (g a)) → DpAll K H vs (as.map g)
  | _, _, .nil, _ => .nil
  | _, _, .cons h t, i => .cons (i _ _ h) (dpAll_paired t i)
section
variable {C : Ctx} {σ σ' : L2.St} {H H' : Hp} {e a b c : Expr} {es : List Expr} {P P' Pa : V → Hp → Prop} {pos p1 p2 : Pos} {s : Bool} {D : Ends} {rest : List Stmt}
theorem c_eqD {Pb : V → Hp → V → Hp → Prop} {d1 d2 : PyData} {n m : Nat} (ha : E C σ H a Pa) (hb : ∀ x H1, Ex C.G H H1 → Pa x H1 → E C σ H1 b (Pb x H1)) (h : ∀ x H1 y H2, Ex C.G H H1 → Pa x H1 → Ex C.G H1 H2 → Pb x H1 y H2 → Dp C.K H2 x d1 ∧ Dp C.K H2 y d2)
    (s1 : Sm n d1) (s2 : Sm m d2) (hn : n ≤ 60 := by decide) (hm : m ≤ 60 := by decide) (hs : s = true ↔ d1 = d2) : CV C σ H .Eq a b s := fun H0 k0 Q q =>
  ⟨tOp (rEqD C.K) (wE C a) (wE C b), fun X g => by rw [← g.K]; exact pc_op (op_eqD g.u64) (pe_w g) (pe_w g), ha H0 k0 _ fun x H1 k1 px => hb x H1 (k0.t k1) px H1 Kp.refl _ fun y H2 k2 py => by
    obtain ⟨e1, e2⟩ := h x H1 y H2 (k0.t k1) px k2 py
    exact ⟨d1, d2, e1, e2, s1.shaped hn, s2.shaped hm, q _ H2 (k1.t k2) (by
      congr 1
      rw [Bool.eq_iff_iff, s1.eqv s2, hs])⟩⟩
theorem c_neD {Pb : V → Hp → V → Hp → Prop} {d1 d2 : PyData} {n m : Nat} (ha : E C σ H a Pa) (hb : ∀ x H1, Ex C.G H H1 → Pa x H1 → E C σ H1 b (Pb x H1)) (h : ∀ x H1 y H2, Ex C.G H H1 → Pa x H1 → Ex C.G H1 H2 → Pb x H1 y H2 → Dp C.K H2 x d1 ∧ Dp C.K H2 y d2)
    (s1 : Sm n d1) (s2 : Sm m d2) (hn : n ≤ 60 := by decide) (hm : m ≤ 60 := by decide) (hs : s = true ↔ d1 ≠ d2) : CV C σ H .NotEq a b s := fun H0 k0 Q q =>
  ⟨tOp (rNeD C.K) (wE C a) (wE C b), fun X g => by rw [← g.K]; exact pc_op (op_neD g.u64) (pe_w g) (pe_w g), ha H0 k0 _ fun x H1 k1 px => hb x H1 (k0.t k1) px H1 Kp.refl _ fun y H2 k2 py => by
    obtain ⟨e1, e2⟩ := h x H1 y H2 (k0.t k1) px k2 py
    exact ⟨d1, d2, e1, e2, s1.shaped hn, s2.shaped hm, q _ H2 (k1.t k2) (by
      congr 1
      rw [Bool.eq_iff_iff, Bool.not_eq_true', ← Bool.not_eq_true, s1.eqv s2, hs])⟩⟩
/-- xs == [], xs != [] of a list that stands there -/
theorem c_eqNil {q : Addr} {xs : List V} {ds : List PyData} {n : Nat} (ha : EV C σ H a (.ref q)) (hq : H q = some (.lst xs)) (hd : ∀ H1, Ex C.G H H1 → DpAll C.K H1 xs ds) (hsm : ∀ d ∈ ds, Sm n d) (hn : n ≤ 50 := by decide) : CV C σ H .Eq a (.List [] pos) (decide (xs = [])) :=
  c_eqD (Pb := fun _ H1 y H2 => ∃ p, y = .ref p ∧ H1 p = none ∧ H2 p = some (.lst [])) ha (fun x H1 k _ => e_lst a_nil) (fun x H1 y H2 k1 px k2 ⟨p, e1, _, e2⟩ => by
    subst px e1
    exact ⟨.lst (.inl (.inl ((k1.t k2).xat hq))) (hd H2 (k1.t k2)), .lst (.inl (.inl e2)) .nil⟩) (.lst hsm) (.lst (n := 0) (by intro _ h; cases h)) (by omega) (by decide) (by
    have := hd H Kp.refl
    cases this <;> simp)
theorem c_neNil {q : Addr} {xs : List V} {ds : List PyData} {n : Nat} (ha : EV C σ H a (.ref q)) (hq : H q = some (.lst xs)) (hd : ∀ H1, Ex C.G H H1 → DpAll C.K H1 xs ds) (hsm : ∀ d ∈ ds, Sm n d) (hn : n ≤ 50 := by decide) : CV C σ H .NotEq a (.List [] pos) (!decide (xs = [])) :=
  c_neD (Pb := fun _ H1 y H2 => ∃ p, y = .ref p ∧ H1 p = none ∧ H2 p = some (.lst [])) ha (fun x H1 k _ => e_lst a_nil) (fun x H1 y H2 k1 px k2 ⟨p, e1, _, e2⟩ => by
    subst px e1
    exact ⟨.lst (.inl (.inl ((k1.t k2).xat hq))) (hd H2 (k1.t k2)), .lst (.inl (.inl e2)) .nil⟩) (.lst hsm) (.lst (n := 0) (by intro _ h; cases h)) (by omega) (by decide) (by
    have := hd H Kp.refl
    cases this <;> simp)
theorem c_eqNilN {q : Addr} {ns : List Nat} (ha : EV C σ H a (.ref q)) (hq : H q = some (.lst (ns.map nI))) : CV C σ H .Eq a (.List [] pos) (decide (ns = [])) :=
  (c_eqNil ha hq (fun H1 k => dpAll_map fun (n : Nat) _ => Dp.int (n : Int)) (n := 0) (by
    intro d hd
    obtain ⟨n, _, rfl⟩ := List.mem_map.mp hd
    exact .int n)).is (by cases ns <;> simp)
theorem c_neNilN {q : Addr} {ns : List Nat} (ha : EV C σ H a (.ref q)) (hq : H q = some (.lst (ns.map nI))) : CV C σ H .NotEq a (.List [] pos) (!decide (ns = [])) :=
  (c_neNil ha hq (fun H1 k => dpAll_map fun (n : Nat) _ => Dp.int (n : Int)) (n := 0) (by
    intro d hd
    obtain ⟨n, _, rfl⟩ := List.mem_map.mp hd
    exact .int n)).is (by cases ns <;> simp)
theorem c_neNilS {q : Addr} {ns : List Str} (ha : EV C σ H a (.ref q)) (hq : H q = some (.lst (ns.map V.str))) (ho : ∀ x ∈ ns, sOk x) : CV C σ H .NotEq a (.List [] pos) (!decide (ns = [])) :=
  (c_neNil ha hq (fun H1 k => dpAll_map fun n _ => Dp.str n) (n := 0) (by
    intro d hd
    obtain ⟨n, hn, rfl⟩ := List.mem_map.mp hd
    exact .str (ho n hn))).is (by cases ns <;> simp)
theorem cutV_take {α : Type} {f : α → V} {xs : List α} {i : Nat} : cutV (xs.map f) none (some (i : Int)) = (xs.take i).map f := by
  unfold cutV
  rw [HT.sIx_none, HT.sIx_nat, List.drop_zero, ← List.map_take]
  congr 1
  rw [List.length_map]
  apply List.take_eq_take_iff.mpr
  omega
theorem cutV_drop {α : Type} {f : α → V} {xs : List α} {i : Nat} : cutV (xs.map f) (some (i : Int)) none = (xs.drop i).map f := by
  unfold cutV
  rw [HT.sIx_none, HT.sIx_nat, ← List.map_drop, ← List.map_take]
  congr 1
  rw [List.length_map]
  by_cases h : i ≤ xs.length
  · rw [Nat.min_eq_left h, List.take_of_length_le (by rw [List.length_drop]; omega)]
  · rw [Nat.min_eq_right (by omega), List.drop_of_length_le (by omega), List.drop_of_length_le (by omega), List.take_nil]
end
theorem find_zipIdx {ord : List Nat} (a : Nat) (j : Nat) : ((ord.zipIdx j).map fun p => ((Sum.inl (p.1 : Int) : L2.Key), nI p.2)).find? (fun kv => decide (kv.1 = Sum.inl (a : Int))) = if a ∈ ord then some (Sum.inl (a : Int), nI (ord.idxOf a + j)) else none := by
  induction ord generalizing j with
  | nil => rfl
  | cons x r ih =>
    rw [List.zipIdx_cons, List.map_cons, List.find?_cons]
    by_cases h : x = a
    · subst h
      simp
    · have h' : ¬ a = x := fun z => h z.symm
      have h2 : ¬ ((x : Int) = (a : Int)) := by omega
      simp only [Sum.inl.injEq, h2, decide_false]
      rw [ih (j + 1)]
      by_cases hm : a ∈ r
      · have hb : (x == a) = false := by simpa using h
        simp [hm, List.idxOf_cons, hb]
        omega
      · simp [hm, h']
theorem mergeK_nodup : ∀ {more kvs : List (L2.Key × V)}, ((kvs ++ more).map (·.1)).Nodup → mergeK kvs more = kvs ++ more
  | [], kvs, _ => by simp [mergeK]
  | (k, v) :: r, kvs, h => by
    have h1 : valV kvs k = none := by
      rw [List.map_append, List.nodup_append] at h
      unfold valV
      rw [Option.map_eq_none_iff, List.find?_eq_none]
      intro x hx
      simp only [decide_eq_true_eq]
      intro e
      exact h.2.2 x.1 (List.mem_map.mpr ⟨x, hx, rfl⟩) k (by simp) e
    have e : mergeK kvs ((k, v) :: r) = mergeK (putK kvs k v) r := rfl
    rw [e, putK_new _ h1, mergeK_nodup (by rw [List.append_assoc]; exact h), List.append_assoc]
    rfl
theorem zipIdx_kvs_nd {ord : List Nat} (h : ord.Nodup) (j : Nat) : (((ord.zipIdx j).map fun p => ((Sum.inl (p.1 : Int) : L2.Key), nI p.2)).map (·.1)).Nodup := by
  have : ((ord.zipIdx j).map fun p => ((Sum.inl (p.1 : Int) : L2.Key), nI p.2)).map (·.1) = ord.map (fun n : Nat => (Sum.inl (n : Int) : L2.Key)) := by
    rw [List.map_map]
    have : ((fun x => x.1) ∘ fun p : Nat × Nat => ((Sum.inl (p.1 : Int) : L2.Key), nI p.2)) = (fun a : Nat => (Sum.inl (a : Int) : L2.Key)) ∘ Prod.fst := rfl
    rw [this, ← List.map_map, List.zipIdx_map_fst]
  rw [this]
  exact List.Pairwise.map _ (fun a b hab z => hab (by have := Sum.inl.inj z; omega)) h
theorem paired_all {α : Type} {F : α → V → Prop} {G : Addr → L2.Key × V → Prop} {g : α → L2.Key × V} : ∀ {as : List α} {vs : List V}, Paired F as vs → (∀ a v, F a v → ∃ p, v = .ref p ∧ G p (g a)) → ∃ ps : List Addr, vs = ps.map V.ref ∧ Paired G ps (as.map g)
  | _, _, .nil, _ => ⟨[], rfl, .nil⟩
  | _, _, .cons h t, i => by
    obtain ⟨p, rfl, hp⟩ := i _ _ h
    obtain ⟨ps, rfl, hps⟩ := paired_all t i
    exact ⟨p :: ps, rfl, .cons hp hps⟩
theorem Kp.at1 {G : Gt} {H H1 : Hp} {p q : Addr} {o u : HO} (k : Kp G [p] H H1) (hp : H p = some u) (h : H q = some o) (ne : o ≠ u) (n : isTbl o = false := by rfl) : H1 q = some o :=
  k.at h (by intro w; rw [List.mem_singleton.mp w, hp] at h; exact ne (Option.some.inj h).symm) n
theorem kp_t1 {G : Gt} {K : PySem.W.Frag} {H H1 : Hp} {p q : Addr} {u : HO} {xs : List V} (k : Kp G [p] H H1) (hp : H p = some u) (h : SqT K H q xs) (n1 : u ≠ .tup xs) (n2 : ∀ o, u ≠ .frz o (.tup xs)) : SqT K H1 q xs := by
  rcases h with (z | ⟨o, z⟩) | z
  · exact .inl (.inl (k.at1 hp z n1.symm))
  · exact .inl (.inr ⟨o, k.at1 hp z (n2 o).symm⟩)
  · exact .inr z
section
variable {C : Ctx} {σ σ' : L2.St} {H H' : Hp} {e a b c tg iter ek ev : Expr} {es ifs : List Expr} {P P' Pa : V → Hp → Prop} {pos p1 p2 p3 : Pos} {s : Bool} {D : Ends} {rest : List Stmt} {scope : Scope}
variable {α : Type} {as : List α} {IV : α → V → Hp → Prop} {Src : Hp → Prop} {own : List (Str × Nat)}
/-- a list of pairs (key, value) -/
def PairsAt (K : PySem.W.Frag) (H : Hp) (v : V) (H' : Hp) (kvs : List (L2.Key × V)) : Prop := ∃ (D : Addr) (ps : List Addr), v = .ref D ∧ H D = none ∧ H' D = some (.lst (ps.map V.ref)) ∧ Paired (fun p kv => SqT K H' p [kV kv.1, kv.2]) ps kvs
theorem lc_pairs {x1 : Nat} (hi : EI C σ H tg iter as IV Src) (hsrc : ∀ H1, Ex C.G H H1 → Src H1) (p : α → Bool) (key : α → L2.Key) (val : α → V) (hlen : as.length ≤ 1000000)
    (hb : ∀ a x H1, a ∈ as → Ex C.G H H1 → IV a x H1 → ∃ σ2, EG (C.blk scope) tg x (wipe σ (own.map (·.2))) H1 σ2 ∧ wipe σ2 (own.map (·.2)) = wipe σ (own.map (·.2)) ∧ Ts (C.blk scope) σ2 H1 ifs (p a) ∧ (p a = true → EV (C.blk scope) σ2 H1 ek (kV (key a)) ∧ EV (C.blk scope) σ2 H1 ev (val a)))
    (hs1 : ∀ X, Good (C.blk scope) X → starEach [ek, ev] X.env = (false, eval ek X.env) :: starEach [ev] X.env := by exact fun _ _ => rfl) (hs2 : ∀ X, Good (C.blk scope) X → starEach [ev] X.env = (false, eval ev X.env) :: starEach [] X.env := by exact fun _ _ => rfl) :
    LC C σ H (.Tuple [ek, ev] x1 p1) tg iter ifs scope own fun v H' => PairsAt C.K H v H' ((as.filter p).map fun a => (key a, val a)) := by
  refine (lc_R hi hsrc p (fun _ a v H' => ∃ t, v = .ref t ∧ H' t = some (.tup [kV (key a), val a])) ?_ hlen fun D' a x H1 zs ha k hD hD1 iv => ?_).imp fun v H1 k ⟨D', ys, e1, e2, e3, e4⟩ => ?_
  · rintro D' a v H1 H2 zs hz kk ⟨t, e, ht⟩
    exact ⟨t, e, kk.at1 hz ht (by simp)⟩
  · obtain ⟨σ2, h1, h2, h3, h4⟩ := hb a x H1 ha k iv
    refine ⟨σ2, h1, h2, h3, fun hp => ?_⟩
    exact EK.imp (e_tup (a_cons (h4 hp).1 (a_1 (h4 hp).2 hs2) hs1) (Nat.le_of_ble_eq_true rfl)) fun v H2 k2 ⟨t, e1, e2, e3⟩ => ⟨t, e1, e3⟩
  · obtain ⟨ps, e5, e6⟩ := paired_all (G := fun p kv => SqT C.K H1 p [kV kv.1, kv.2]) (g := fun a => (key a, val a)) e4 fun a v ⟨t, h1, h2⟩ => ⟨t, h1, .inl (.inl h2)⟩
    exact ⟨D', ps, e1, e2, by rw [e3, e5], e6⟩
theorem e_dictOf {kvs : List (L2.Key × V)} (hm : C.mg "dict" = none) (ha : E C σ H e fun v H' => PairsAt C.K H v H' kvs) (hg : C.sc.names.lookup ("dict" : Str) = some .globalImplicit := by rfl)
    (he : ∀ X, Good C X → starEach [e] X.env = (false, eval e X.env) :: starEach [] X.env := by exact fun _ _ => rfl) : EN C σ H (.Call (.Name "dict" p1) [e] [] pos) (.dK (mergeK [] kvs)) :=
  e_dictPB hm ha (fun x H1 k ⟨D', ps, e1, e2, e3, e4⟩ => ⟨D', ps, e1, e3, e4⟩) hg he
theorem pairs_unlock {K : PySem.W.Frag} {d : Addr} {u : HO} {od : Obj} {v : V} {H1 : Hp} {kvs : List (L2.Key × V)} (hd : H d = some u) (hd1 : H1 d = some (.frz od u)) (hu : ∀ xs, u ≠ .tup xs) (h : PairsAt K (upd H d (.frz od u)) v H1 kvs) : PairsAt K H v (upd H1 d u) kvs := by
  obtain ⟨D', ps, e1, e2, e3, e4⟩ := h
  have ne : D' ≠ d := fun z => by
    rw [z, upd_same] at e2
    cases e2
  refine ⟨D', ps, e1, by rwa [upd_ne ne] at e2, by rw [upd_ne ne]; exact e3, paired_imp e4 fun p kv z => ?_⟩
  rcases z with (z | ⟨o, z⟩) | z
  · refine .inl (.inl ?_)
    rw [upd_ne (fun w => by rw [w, hd1] at z; cases z)]
    exact z
  · by_cases w : p = d
    · rw [w, hd1] at z
      cases z
      exact absurd rfl (hu _)
    · refine .inl (.inr ⟨o, ?_⟩)
      rw [upd_ne w]
      exact z
  · exact .inr z
/-- dict([(k, v) for x in d]): the keys of a dict -/
theorem e_dictK {x1 : Nat} {d : Addr} {kvs : List (L2.Key × V)} (own : List (Str × Nat)) (hm : C.mg "dict" = none) (hd : H d = some (.dK kvs)) (he : ∀ od, EV C σ (upd H d (.frz od (.dK kvs))) iter (.ref d)) (p : L2.Key × V → Bool) (key : L2.Key × V → L2.Key) (val : L2.Key × V → V) (hlen : kvs.length ≤ 1000000)
    (hb : ∀ od kv H1, kv ∈ kvs → Ex C.G (upd H d (.frz od (.dK kvs))) H1 → ∃ σ2, EG (C.blk scope) tg (kV kv.1) (wipe σ (own.map (·.2))) H1 σ2 ∧ wipe σ2 (own.map (·.2)) = wipe σ (own.map (·.2)) ∧ Ts (C.blk scope) σ2 H1 ifs (p kv) ∧ (p kv = true → EV (C.blk scope) σ2 H1 ek (kV (key kv)) ∧ EV (C.blk scope) σ2 H1 ev (val kv)))
    (ok : BlkOk C.N C.sc scope own := by exact blkOk_by (by (try dsimp only [ctx, ctxX, Ctx.blk, Ctx.gen]); decide +kernel)) (hs : ∀ X, Good C X → ∀ x, foldedSetIterable iter X.env x = pure x := by exact fun _ _ _ => rfl) (hg : C.sc.names.lookup ("dict" : Str) = some .globalImplicit := by rfl)
    (hs1 : ∀ X, Good (C.blk scope) X → starEach [ek, ev] X.env = (false, eval ek X.env) :: starEach [ev] X.env := by exact fun _ _ => rfl) (hs2 : ∀ X, Good (C.blk scope) X → starEach [ev] X.env = (false, eval ev X.env) :: starEach [] X.env := by exact fun _ _ => rfl) :
    EN C σ H (.Call (.Name "dict" p1) [.ListComp (.Tuple [ek, ev] x1 p2) [⟨tg, iter, ifs, 0⟩] scope p3] [] pos) (.dK (mergeK [] ((kvs.filter p).map fun kv => (key kv, val kv)))) :=
  e_dictOf hm (e_lcK own (fun od v H' => PairsAt C.K (upd H d (.frz od (.dK kvs))) v H' ((kvs.filter p).map fun kv => (key kv, val kv))) hd (fun od => lc_pairs (ei_keys (he od) upd_same) (fun H1 k => k.xat upd_same) p key val hlen (fun kv x H1 hk k e => by
    subst e
    exact hb od kv H1 hk k) hs1 hs2) (fun od v H1 h1 h2 => pairs_unlock hd h1 (by simp) h2) ok hs) hg (fun _ _ => rfl)
end
section
variable {C : Ctx} {σ σ' : L2.St} {H H' : Hp} {e a b c : Expr} {P P' Pa : V → Hp → Prop} {pos p1 p2 p3 : Pos} {s : Bool} {D : Ends} {rest : List Stmt} {n : Str}
/-- x += e of a list -/
theorem s_ext {l : Addr} {xs : List V} (i : Nat) (hσ : σ[i]? = some (some (.ref l))) (hl : H l = some (.lst xs)) (hz : xs.length ≤ 100000) (he : E C σ H e Pa)
    (hr : ∀ v H1, Ex C.G H H1 → Pa v H1 → ∃ b zs, v = .ref b ∧ H1 b = some (.lst zs) ∧ zs.length ≤ 100000 ∧ ∀ H2, Kp C.G [l] H1 H2 → H2 l = some (.lst (xs ++ zs)) → S C D (σ.set i (some (.ref l))) H2 rest)
    (hi : C.N[i]? = some n := by rfl) (hx : Loc C.sc n := by first | exact .inl rfl | exact .inr rfl) : S C D σ H (.AugAssign (.Name n p1) .Add e pos :: rest) :=
  s_of (u := tAug i (wE C e) rExt2) (fun X g => ps_aug (by rw [g.N]; exact g.nd) (by rw [g.N]; exact hi) (g.loc hx) (pe_w g) iop_ext (g.fn n hx)) fun H1 k => ⟨.ref l, hσ, he H1 k _ fun v H2 k2 p2 => by
    obtain ⟨b, zs, rfl, hb, hzl, hs⟩ := hr v H2 (k.t k2) p2
    have hl2 := (k.t k2).xat hl
    exact ⟨l, b, xs, zs, rfl, rfl, hl2, hb, sz_of (by omega), hs _ (Kp.put1 hl2) upd_same _ Kp.refl⟩⟩
end
/-- a tuple of tuples, a list of tuples -/
def TupsAt (K : PySem.W.Frag) (H : Hp) (v : V) (rows : List (List V)) : Prop := ∃ t vs, v = .ref t ∧ SqT K H t vs ∧ Paired (fun r v => ∃ q, v = .ref q ∧ SqT K H q r) rows vs
theorem TupsAt.ex {G : Gt} {K : PySem.W.Frag} {H H' : Hp} {v : V} {rows : List (List V)} (h : TupsAt K H v rows) (k : Ex G H H') : TupsAt K H' v rows := by
  obtain ⟨t, vs, e, h1, h2⟩ := h
  exact ⟨t, vs, e, ex_t k h1, paired_imp h2 fun r v ⟨q, e, z⟩ => ⟨q, e, ex_t k z⟩⟩
theorem paired_append {α β : Type} {F : α → β → Prop} : ∀ {as as' : List α} {bs bs' : List β}, Paired F as bs → Paired F as' bs' → Paired F (as ++ as') (bs ++ bs')
  | _, _, _, _, .nil, h => h
  | _, _, _, _, .cons h t, h' => .cons h (paired_append t h')
theorem paired_get {α β : Type} {F : α → β → Prop} : ∀ {as : List α} {bs : List β}, Paired F as bs → ∀ {i : Nat} {a : α}, as[i]? = some a → ∃ b, bs[i]? = some b ∧ F a b
  | _, _, .nil, i, a, h => by simp at h
  | _, _, .cons h t, 0, a, e => by
    simp at e
    subst e
    exact ⟨_, rfl, h⟩
  | _, _, .cons h t, i + 1, a, e => by
    simp at e
    obtain ⟨b, h1, h2⟩ := paired_get t e
    exact ⟨b, by simpa using h1, h2⟩
theorem paired_map {α α' β : Type} {F : α' → β → Prop} {g : α → α'} : ∀ {as : List α} {bs : List β}, Paired (fun a b => F (g a) b) as bs → Paired F (as.map g) bs
  | _, _, .nil => .nil
  | _, _, .cons h t => .cons h (paired_map t)
theorem paired_map_l {α α' β : Type} {F : α' → β → Prop} {g : α → α'} : ∀ {as : List α} {bs : List β}, Paired F (as.map g) bs → Paired (fun a b => F (g a) b) as bs
  | [], _, h => by cases h; exact .nil
  | a :: as, _, h => by cases h with | cons h t => exact .cons h (paired_map_l t)
theorem paired_zip {α : Type} {G : α → Addr → Prop} : ∀ {os : List α} {vs : List V}, Paired (fun o v => ∃ q, v = V.ref q ∧ G o q) os vs → ∃ zs : List (α × Addr), zs.map (fun z => z.1) = os ∧ vs = zs.map (fun z => V.ref z.2) ∧ ∀ z ∈ zs, G z.1 z.2
  | _, _, .nil => ⟨[], rfl, rfl, fun _ h => nomatch h⟩
  | _, _, .cons h t => by
    obtain ⟨q, rfl, hq⟩ := h
    obtain ⟨zs, rfl, rfl, h3⟩ := paired_zip t
    refine ⟨(_, q) :: zs, rfl, rfl, fun z hz => ?_⟩
    rcases List.mem_cons.mp hz with e | e
    · rw [e]
      exact hq
    · exact h3 z e
theorem pget_list {X : Cx} : PGet X (fun x y H Q => ∃ (p : Addr) (xs : List V) (j : Nat) (v : V), x = .ref p ∧ y = .int (j : Int) ∧ H p = some (.lst xs) ∧ xs[j]? = some v ∧ Q v H) := by
  rintro pins s σ H o i ov iv Q I ro ri ⟨p, xs, j, v, rfl, rfl, hp, hv, q⟩
  cases ro
  obtain ⟨t, rfl⟩ := ri
  obtain ⟨its, r, pl, hz⟩ := I.list (.inl (.inl hp))
  obtain ⟨w, ew, rw'⟩ := r.get hv
  have hl := r.length
  have hn := line63
  have hj : j < xs.length := (List.getElem?_eq_some_iff.mp hv).1
  exact wpAny_getItem_list pl.isList (by omega) (by omega) (by simpa using ew) ⟨v, H, I, rw', q⟩
/-- xs[j] += i -/
theorem s_laug {C : Ctx} {σ : L2.St} {H : Hp} {a b e : Expr} {D : Ends} {rest : List Stmt} {pos p1 : Pos} {l : Addr} {xs : List V} {j : Nat} {i i2 : Int} (hd : EV C σ H a (.ref l)) (hk : EV C σ H b (nI j)) (hv : EV C σ H e (.int i2)) (h : H l = some (.lst xs)) (hi : xs[j]? = some (.int i))
    (hr : ∀ H2, Kp C.G [l] H H2 → H2 l = some (.lst (xs.set j (.int (i + i2)))) → S C D σ H2 rest) (ha : ∀ ov iv new, augStore b ov iv new = (do holding [new, ov, iv] (setItem ov iv new); release [new, ov, iv] []; pure .next) := by exact fun _ _ _ => rfl) :
    S C D σ H (.AugAssign (.Subscript a b p1) .Add e pos :: rest) :=
  s_of (fun X g => ps_augS (pe_w g) (pe_w g) pget_list (pe_w g) ip_add set_list ha) fun H1 k => hd H1 k _ fun u H3 k3 p3 => hk H3 (k.t k3) _ fun u' H4 k4 p4 => by
    subst p3 p4
    have h4 := ((k.t k3).t k4).xat h
    refine ⟨l, xs, j, .int i, rfl, rfl, h4, hi, hv H4 ((k.t k3).t k4) _ fun w H5 k5 p5 => ?_⟩
    subst p5
    have h5 := k5.xat h4
    have hj : j < xs.length := (List.getElem?_eq_some_iff.mp hi).1
    exact ⟨i, i2, rfl, rfl, l, xs, j, j, rfl, rfl, h5, by unfold ixN; rw [if_pos (by omega), if_pos (by omega)]; simp, hr _ (Kp.pre (((k.t k3).t k4).t k5) (Kp.put1 h5)) upd_same _ Kp.refl⟩
theorem ixN_nat {n j : Nat} (h : j < n) : ixN n (j : Int) = some j := by
  unfold ixN
  rw [if_pos (by omega), if_pos (by omega)]
  simp
theorem e_neg {C : Ctx} {σ : L2.St} {H : Hp} {a : Expr} {pos : Pos} {i : Int} (ha : EV C σ H a (.int i)) : EV C σ H (.UnaryOp .USub a pos) (.int (-i)) :=
  ek_of (t := tUn (rU fun i => .int (-i)) (wE C a)) (fun X g => pe_un un_neg (pe_w g)) fun H1 k Q q => ha H1 k _ fun u H2 k2 p2 => ⟨i, p2, q _ H2 k2 rfl⟩
theorem rep_flat {α : Type} {n : Nat} {x : α} : (List.replicate n [x]).flatten = List.replicate n x := by
  induction n with
  | zero => rfl
  | succ n ih => rw [List.replicate_succ, List.flatten_cons, ih]; rfl
/-- [x] * n -/
theorem e_rep {C : Ctx} {σ : L2.St} {H : Hp} {a b : Expr} {pos p1 : Pos} {x : V} {n : Nat} (ha : EV C σ H a x) (hb : EV C σ H b (nI n)) (hn : n ≤ 1000) (hs : ∀ X, Good C X → starEach [a] X.env = (false, eval a X.env) :: starEach [] X.env := by exact fun _ _ => rfl) : EN C σ H (.BinOp (.List [a] p1) .Mult b pos) (.lst (List.replicate n x)) := by
  refine e_opB (Pa := fun u H' => ∃ l, u = .ref l ∧ H l = none ∧ H' l = some (.lst [x])) (Pb := fun _ y _ => y = nI n) (fun X _ => op_rep) (e_lst (a_1 ha hs) (Nat.le_of_ble_eq_true rfl)) (fun _ _ k _ => hb.mono k) fun u y H3 H4 k3 ⟨l, e, l0, hl⟩ k4 ey => ?_
  subst e ey
  refine fun H5 k5 Q q => ⟨l, n, [x], rfl, rfl, (k4.t k5).xat hl, by omega, by omega, ?_, fun r hr => q _ _ (Ex.new hr) ⟨r, rfl, (k3.t (k4.t k5)).free hr, by rw [upd_same, Int.toNat_natCast, rep_flat]⟩⟩
  rw [Int.toNat_natCast]
  exact sz_of (by simp; omega)
/-- t + u of tuples -/
theorem e_catT {C : Ctx} {σ : L2.St} {H : Hp} {a b : Expr} {pos : Pos} {p : Addr} {xs ys : List V} {Pb : V → Hp → Prop} (ha : EV C σ H a (.ref p)) (hp : SqT C.K H p xs) (hb : E C σ H b Pb) (hy : ∀ y H1, Ex C.G H H1 → Pb y H1 → ∃ q, y = .ref q ∧ SqT C.K H1 q ys) (hz : xs.length + ys.length ≤ 100000) :
    E C σ H (.BinOp a .Add b pos) (fun v H' => ∃ t, v = .ref t ∧ SqT C.K H' t (xs ++ ys)) :=
  e_opB (r := rCatA C.K) (Pb := fun _ y H' => ∃ q, y = .ref q ∧ SqT C.K H' q ys) (fun X g => by rw [← g.K]; exact op_catA) ha (fun _ _ k _ => fun H1 k1 Q q => hb H1 (k.t k1) Q fun v H2 k2 p2 => q v H2 k2 (hy v H2 ((k.t k1).t k2) p2)) fun x y H1 H2 k1 ex k2 ⟨q, ey, hq⟩ => by
    subst ex ey
    refine fun H3 k3 Q q' => ⟨p, q, xs, ys, rfl, rfl, ex_t ((k1.t k2).t k3) hp, ex_t k3 hq, sz_of (by omega), fun e => ?_, fun _ e => ?_, fun _ _ r hr => q' _ _ (Ex.new hr) ⟨r, rfl, .inl (.inl upd_same)⟩⟩
    · exact q' _ _ Kp.refl ⟨q, rfl, by rw [e, List.nil_append]; exact ex_t k3 hq⟩
    · exact q' _ _ Kp.refl ⟨p, rfl, by rw [e, List.append_nil]; exact ex_t ((k1.t k2).t k3) hp⟩
theorem atI_zero {α : Type} {x : α} {xs : List α} : atI (x :: xs) 0 = some x := by
  unfold atI ixN
  simp
section
variable {C : Ctx} {σ : L2.St} {H : Hp} {tg iter : Expr} {D : Ends} {rest body : List Stmt} {pos : Pos} {Pa : V → Hp → Prop}
/-- for x in e: e a tuple, or a list, that is made where the loop begins -/
theorem s_forTB {α : Type} (he : E C σ H iter Pa) (h : ∀ v H1, Ex C.G H H1 → Pa v H1 → ∃ (q : Addr) (as : List α) (ev : α → V) (Pv : Nat → L2.St → Hp → Prop), v = .ref q ∧ SqT C.K H1 q (as.map ev) ∧ Pv 0 σ H1 ∧ (∀ i σ1 H2, Pv i σ1 H2 → SqT C.K H2 q (as.map ev)) ∧
    (∀ i a σ1 H2, as[i]? = some a → Pv i σ1 H2 → ∃ σ2, EG C tg (ev a) σ1 H2 σ2 ∧ S C (lpS C rest D (Pv (i + 1))) σ2 H2 body) ∧ ∀ σ1 H2, Pv as.length σ1 H2 → S C D σ1 H2 rest)
    (hs : ∀ X, Good C X → ∀ x, foldedSetIterable iter X.env x = pure x := by exact fun _ _ _ => rfl) : S C D σ H (.For tg iter body [] pos :: rest) :=
  s_of (u := tFor (iTup C.K (wE C iter)) (wG C tg) (wS C body)) (fun X g => ps_for g.po g.calm (by rw [← g.K]; exact pi_tup (pe_w g)) ⟨fun pins s σ H v u Q I r ⟨_, h, q⟩ => (h X g).run pins s σ H v u Q I r q⟩ (pss_w g) (hs X g)) fun H1 k => he H1 k _ fun v H2 k2 pv => by
    obtain ⟨q, as, ev, Pv, rfl, hq, h0, hst, hb, hd⟩ := h v H2 (k.t k2) pv
    refine ⟨q, rfl, ⟨_, hq⟩, for_it (walk_tup (K := C.K) (a := q) (xs := as.map ev)) (fun i => Cl C.G (Pv i)) ⟨H2, Kp.refl, h0⟩ (fun i σ1 Ha _ ⟨H0, k0, h⟩ => ex_t k0 (hst i σ1 H0 h)) (fun i x σ1 Ha Ha' hlt ⟨H0, k0, h⟩ y => ?_) fun σ1 Ha ⟨H0, k0, h⟩ => hd σ1 H0 (by rwa [List.length_map] at h) Ha k0⟩
    obtain ⟨e1, e2⟩ := y
    subst e1
    rw [List.getElem?_map] at e2
    cases ea : as[i]? with
    | none =>
      rw [ea] at e2
      cases e2
    | some a =>
      rw [ea] at e2
      cases e2
      obtain ⟨σ2, hg, hs⟩ := hb i a σ1 H0 ea h
      exact hg Ha' k0 _ (hs Ha' k0)
theorem s_forLB {α : Type} (he : E C σ H iter Pa) (h : ∀ v H1, Ex C.G H H1 → Pa v H1 → ∃ (q : Addr) (as : List α) (ev : α → V) (Pv : Nat → L2.St → Hp → Prop), v = .ref q ∧ SqL C.K H1 q (as.map ev) ∧ Pv 0 σ H1 ∧ (∀ i σ1 H2, Pv i σ1 H2 → SqL C.K H2 q (as.map ev)) ∧
    (∀ i a σ1 H2, as[i]? = some a → Pv i σ1 H2 → ∃ σ2, EG C tg (ev a) σ1 H2 σ2 ∧ S C (lpS C rest D (Pv (i + 1))) σ2 H2 body) ∧ ∀ σ1 H2, Pv as.length σ1 H2 → S C D σ1 H2 rest)
    (hs : ∀ X, Good C X → ∀ x, foldedSetIterable iter X.env x = pure x := by exact fun _ _ _ => rfl) : S C D σ H (.For tg iter body [] pos :: rest) :=
  s_of (u := tFor (iList C.K (wE C iter)) (wG C tg) (wS C body)) (fun X g => ps_for g.po g.calm (by rw [← g.K]; exact pi_list (pe_w g)) ⟨fun pins s σ H v u Q I r ⟨_, h, q⟩ => (h X g).run pins s σ H v u Q I r q⟩ (pss_w g) (hs X g)) fun H1 k => he H1 k _ fun v H2 k2 pv => by
    obtain ⟨q, as, ev, Pv, rfl, hq, h0, hst, hb, hd⟩ := h v H2 (k.t k2) pv
    refine ⟨q, rfl, ⟨_, hq⟩, for_it (walk_list (K := C.K) (a := q) (xs := as.map ev)) (fun i => Cl C.G (Pv i)) ⟨H2, Kp.refl, h0⟩ (fun i σ1 Ha _ ⟨H0, k0, h⟩ => ex_l k0 (hst i σ1 H0 h)) (fun i x σ1 Ha Ha' hlt ⟨H0, k0, h⟩ y => ?_) fun σ1 Ha ⟨H0, k0, h⟩ => hd σ1 H0 (by rwa [List.length_map] at h) Ha k0⟩
    obtain ⟨e1, e2⟩ := y
    subst e1
    rw [List.getElem?_map] at e2
    cases ea : as[i]? with
    | none =>
      rw [ea] at e2
      cases e2
    | some a =>
      rw [ea] at e2
      cases e2
      obtain ⟨σ2, hg, hs⟩ := hb i a σ1 H0 ea h
      exact hg Ha' k0 _ (hs Ha' k0)
/-- e != () of a tuple of data -/
theorem c_neTup0 {a : Expr} {pos' : Pos} {x1 : Nat} {Pb : V → Hp → Prop} {ds : List PyData} {n : Nat} (ha : E C σ H a Pb) (hs : ∀ x H1, Ex C.G H H1 → Pb x H1 → ∃ q xs, x = .ref q ∧ SqT C.K H1 q xs ∧ ∀ H2, Ex C.G H1 H2 → DpAll C.K H2 xs ds) (hsm : ∀ d ∈ ds, Sm n d) (hn : n ≤ 50 := by decide) : CV C σ H .NotEq a (.Tuple [] x1 pos') (!decide (ds = [])) :=
  c_neD (Pb := fun _ H1 y H2 => ∃ p, y = .ref p ∧ H1 p = none ∧ H2 p = some (.tup [])) ha (fun x H1 k _ => e_tup a_nil) (fun x H1 y H2 k1 px k2 ⟨p, e1, _, e2⟩ => by
    obtain ⟨q, xs, e, hq, hd⟩ := hs x H1 k1 px
    subst e1 e
    exact ⟨.tup (ex_t k2 hq) (hd H2 k2), .tup (.inl (.inl e2)) .nil⟩) (.tup hsm) (.tup (n := 0) (by intro _ h; cases h)) (by omega) (by decide) (by simp)
end
theorem Good.kd {C : Ctx} {X : Cx} {x : Str} {k : NameKind} (g : Good C X) (h : C.sc.names.lookup x = some k) (hk : k ≠ .free) : X.env.kindOf x = some k := by
  rcases g.sc x with e | ⟨e, _⟩
  · exact e.trans h
  · rw [h] at e
    exact absurd (Option.some.inj e) hk
theorem swapN2 {C : Ctx} {X : Cx} {x y : Str} {px py pt : Pos} {kt : Nat} {e : Expr} (g : Good C X) (k1 : NameKind) (hx : C.sc.names.lookup x = some k1) (hy : C.sc.names.lookup y = some .cell) (n1 : k1 ≠ .free := by decide) :
    swappedStores [.Tuple [.Name x px, .Name y py] kt pt] e X.env = pure none := by
  have hx' := g.kd hx n1
  have hy' := g.kd hy (by decide)
  unfold swappedStores
  cases e with
  | Tuple vs kv pv =>
    by_cases hk : k1 = .local
    · subst hk
      simp [hx', hy', Expr.pos, List.filterMap_cons]
    · simp [hx', hy', hk, Expr.pos, List.filterMap_cons]
  | _ => rfl
theorem swapN3 {C : Ctx} {X : Cx} {x y z : Str} {px py pz pt : Pos} {kt : Nat} {e : Expr} (g : Good C X) (k1 k3 : NameKind) (hx : C.sc.names.lookup x = some k1) (hy : C.sc.names.lookup y = some .cell) (hz : C.sc.names.lookup z = some k3) (n1 : k1 ≠ .free := by decide) (n3 : k3 ≠ .free := by decide) :
    swappedStores [.Tuple [.Name x px, .Name y py, .Name z pz] kt pt] e X.env = pure none := by
  have hx' := g.kd hx n1
  have hy' := g.kd hy (by decide)
  have hz' := g.kd hz n3
  unfold swappedStores
  cases e with
  | Tuple vs kv pv =>
    by_cases hk : k1 = .local <;> by_cases hk3 : k3 = .local <;> by_cases hl : pz.line = px.line <;> simp [hx', hy', hz', hk, hk3, hl, Expr.pos, List.filterMap_cons]
  | _ => rfl
end Pm
end
/-! ## Ki -/
section
set_option Elab.async false
set_option linter.all false
set_option maxRecDepth 100000
set_option maxHeartbeats 2000000
namespace Pm
open PySem L2 PyProof.Rows
/-! ### defs that may raise -/
structure ExcC (B : Bs) (x : Str) (Ce : Addr) : Prop where
  gC : B.mg x = some (.ref Ce)
  xC : PySem.W.excIn B.K Ce [.type "ValueError", .type "Exception", .type "BaseException", .type "object"] "ValueError.__new__" = true
  kC : PySem.W.keepIn B.K (.ref Ce) = true
  bC : PySem.W.subIn B.K (.ref Ce) (.type "BaseException") = some true
  tC : PySem.W.typeIn B.K (.ref Ce) = some (.type "type")
abbrev PreX := List V → Hp → List Addr → (V → Hp → Prop) → (Value → Hp → Prop) → Prop
def spX (G : Gt) (pre : PreX) : Sp := fun vs H Q E => TOk G H ∧ ∃ S P PX, pre vs H S P PX ∧ (∀ v H', Kp G S H H' → P v H' → Q v H') ∧ ∀ c H', Kp G S H H' → PX c H' → E c none H'
def PreExX (G : Gt) (pre : PreX) : Prop := ∀ vs H H' S P PX, Ex G H H' → pre vs H S P PX → pre vs H' S P PX
structure GFX (B : Bs) (k : Nat) (x : Str) (pre : PreX) : Prop where
  ex : ∃ f fd ps, B.mg x = some (.ref f) ∧ PySem.W.keepIn B.K (.ref f) = true ∧ Binds B.K fd ps [] ∧ FnOk B.P B.w B.K B.mg B.base (L2.CX B.P B.w) k f fd ps (spX B.G pre)
  cl : PreExX B.G pre
structure GMX (B : Bs) (k : Nat) (Cl : Addr) (m : Str) (pre : PreX) : Prop where
  ex : ∃ f fd ps, Cls B.K Cl ∧ Meth B.K Cl m f ∧ Binds B.K fd ps [] ∧ FnOk B.P B.w B.K B.mg B.base (L2.CX B.P B.w) k f fd ps (spX B.G pre)
  cl : PreExX B.G pre
section
variable {C : Ctx} {σ : L2.St} {H : Hp} {D : Ends} {rest : List Stmt} {pos p1 p2 p3 : Pos}
theorem s_raise {x m : Str} {j : Nat} {Ce : Addr} (EC : ExcC C.toBs x Ce) (h : ∀ H1, Ex C.G H H1 → C.W (.ref Ce) none σ H1) (hg : C.sc.names.lookup x = some .globalImplicit := by rfl) (hdb : (x == ("__debug__" : Str)) = false := by decide) :
    S C D σ H (.Raise (some (.Call (.Name x p1) [.Constant (.str m) j p2] [] p3)) none pos :: rest) :=
  s_of (fun X g => ps_raise g.calm g.tk (pmk_own (C := Ce) PySem.F.excBase_ValueError (by rw [g.K]; exact EC.xC) (by rw [g.mg]; exact EC.gC) (by rw [g.K]; exact EC.kC) (raises_own (by rw [g.K]; exact EC.bC) (by rw [g.K]; exact EC.tC)) (g.gl hg) hdb)) fun H1 k => h H1 k
theorem good_defX {B : Bs} {N ps : List Str} {st : Stmt} {k : Nat} {cdv : Value} {qual : Str} {f : Addr} {A : Around} {outer : List Env} {s : Shared} {H : Hp} {E : XK} (S : FnScope N ps (defScope st)) (hr : Room k (A.deeper (envOfC qual (defScope st) s.heap.objs.size f cdv))) :
    Good (ctxX B N st k cdv qual (fun cls d _ H => E cls d H)) (cxOf (L2.CX B.P B.w) B.P B.w B.K B.mg B.base N qual (defScope st) f cdv A outer s H E) where
  P := rfl
  w := rfl
  K := rfl
  mg := rfl
  base := rfl
  N := rfl
  nd := S.nd
  calm := rfl
  room := hr
  sc := fun x => .inl rfl
  fn := fun x h => .inl rfl
  cg := fun _ => ⟨rfl, rfl⟩
  tk := takes_of rfl rfl rfl rfl
  kind := S.kind
  po := passes_of rfl
/-- THE RULE for a def that may raise -/
theorem def_okX {B : Bs} {x qual : Str} {st : Stmt} {f : Addr} {fd : FuncData} {cdv : Value} {N ps : List Str} {k : Nat} {pre : PreX} (F : FunC B.K x qual st f fd cdv) (Sc : FnScope N ps (defScope st)) (hl : ∀ vs H SS P PX, pre vs H SS P PX → vs.length = ps.length)
    (hb : ∀ vs H SS P PX D (E : XK), TOk B.G H → pre vs H SS P PX → (∀ v H', Kp B.G SS H H' → P v H' → D.rt v H') → (∀ σ' H', Kp B.G SS H H' → P .non H' → D.nx σ' H') → (∀ c H', Kp B.G SS H H' → PX c H' → E c none H') → Pm.S (ctxX B N st k cdv qual (fun cls d _ H => E cls d H)) D (start N vs) H (defBody st)) :
    FnOk B.P B.w B.K B.mg B.base (L2.CX B.P B.w) (k + 1) f fd ps (spX B.G pre) := by
  obtain ⟨oc, od, kV, doc, pm, an, ct, osl, rfl, lk, hcd⟩ := F.ex
  refine fn_of lk hcd Sc (fun vs H Q E h => ?_) fun A outer s H vs Q E hr h => ?_
  · obtain ⟨_, SS, P, PX, hp, _⟩ := h
    exact hl _ _ _ _ _ hp
  · obtain ⟨ht, SS, P, PX, hp, q, qx⟩ := h
    obtain ⟨t, h, w⟩ := hb vs H SS P PX { nx := fun _ H' => Q .non H', rt := Q } E ht hp (fun v H' => q v H') (fun _ H' => q .non H') (fun c H' => qx c H') H Kp.refl
    exact ⟨t, h _ (good_defX Sc hr), w⟩
theorem e_callX {SS : List Addr} {P : V → Hp → Prop} {PX : Value → Hp → Prop} {k : Nat} {n : Str} {pre : PreX} {e : Expr} {es : List Expr} {PA : List V → Hp → Prop} {E' : XK} (F : GFX C.toBs k n pre) (hk : k ≤ C.k) (ht : TOk C.G H) (ha : A C σ H (e :: es) PA) (hp : ∀ vs H1, Ex C.G H H1 → PA vs H1 → pre vs H1 SS P PX)
    (hW : C.W = fun cls d _ H => E' cls d H) (hX : ∀ c H', Kp C.G SS H H' → PX c H' → E' c none H') (hg : C.sc.names.lookup n = some .globalImplicit := by rfl) (hdb : (n == ("__debug__" : Str)) = false := by decide)
    (he : ∀ X, Good C X → starEach (e :: es) X.env = (false, eval e X.env) :: starEach es X.env := by exact fun _ _ => rfl) (hpl : ∀ X, Good C X → (backTo pos (starEach es X.env)).any (·.1) = false := by exact fun _ _ => rfl) : EK C SS σ H (.Call (.Name n p1) (e :: es) [] pos) P := by
  obtain ⟨f, fd, ps, hm, kp, hb, F'⟩ := F.ex
  have F2 : ∀ X, Good C X → FnOk X.prog X.w X.K X.mg X.base (L2.CX X.prog X.w) k f fd ps (spX C.G pre) := fun X g => by
    rw [g.P, g.w, g.K, g.mg, g.base]
    exact F'
  refine ek_of (t := tCall (spX C.G pre) [] E' (wA C (e :: es))) (fun X g => pe_call (CX := L2.CX X.prog X.w) (F2 X g) (g.room.mono hk) (g.gl hg) (by rw [g.mg]; exact hm) (by rw [g.K]; exact kp) (by rw [g.K]; exact hb) .nil (passes_call g.tk (fun cls d σ' H' h => by rw [hW]; exact h)) (pa_w g) hdb (he X g) (hpl X g)) fun H1 k1 Q q => ?_
  refine ha H1 k1 _ fun vs H2 k2 p2 => ?_
  rw [List.append_nil]
  exact ⟨(k1.t k2).tok ht, SS, P, PX, hp vs H2 (k1.t k2) p2, fun v H3 k3 p3 => q v H3 (Kp.pre k2 k3) p3, fun c H3 k3 p3 => hX c H3 (Kp.pre (k1.t k2) k3) p3⟩
/-- d[a, b] = v; (a, b) not in d, in d -/
theorem s_dputT {a b e : Expr} {v : V} {d : Addr} {kvs : List (List L2.Key × V)} {key : List L2.Key} (hv : EV C σ H e v) (hd : EV C σ H a (.ref d)) (hk : EN C σ H b (.tup (key.map kV))) (h : H d = some (.dT kvs)) (hz : kvs.length < 1000000)
    (hr : ∀ H1 H2, Ex C.G H H1 → Kp C.G [d] H1 H2 → H2 d = some (.dT (putK kvs key v)) → S C D σ H2 rest) (hs : ∀ X, Good C X → swapsWith e (some (.Subscript a b p1)) pos.line X.env = pure false := by exact fun _ _ => rfl) : S C D σ H (.Assign [.Subscript a b p1] e pos :: rest) :=
  s_of (fun X g => ps_dput g.u1 (pe_w g) (pe_w g) (pe_w g) (hs X g)) fun H1 k => hv H1 k _ fun v H2 k2 pv => hd H2 (k.t k2) _ fun u H3 k3 p3 => hk H3 ((k.t k2).t k3) _ fun u' H4 k4 p4 => by
    subst pv p3
    obtain ⟨q, e4, _, h4'⟩ := p4
    subst e4
    have h4 := (((k.t k2).t k3).t k4).xat h
    exact ⟨d, _, rfl, .inr ⟨kvs, key, q, h4, rfl, h4', sz_lt hz, rfl⟩, hr H4 _ (((k.t k2).t k3).t k4) (Kp.put1 h4) upd_same _ Kp.refl⟩
theorem c_dnotinT {a b : Expr} {d : Addr} {kvs : List (List L2.Key × V)} {key : List L2.Key} (ha : EN C σ H a (.tup (key.map kV))) (hb : EV C σ H b (.ref d)) (h : Rd H d (.dT kvs)) : CV C σ H .NotIn a b (!(valV kvs key).isSome) := fun H1 k Q q =>
  ⟨tDNotIn (wE C a) (wE C b), fun X g => pc_dnotin g.u1 (pe_w g) (pe_w g), ha H1 k _ fun u H2 k2 p2 => hb H2 (k.t k2) _ fun u' H3 k3 p3 => by
    obtain ⟨p, e2, _, h2⟩ := p2
    subst e2 p3
    exact ⟨d, _, rfl, .inr ⟨kvs, key, p, ex_rd ((k.t k2).t k3) h, rfl, k3.xat h2, rfl⟩, q _ H3 (k2.t k3) rfl⟩⟩
theorem c_dinT {a b : Expr} {d : Addr} {kvs : List (List L2.Key × V)} {key : List L2.Key} (ha : EN C σ H a (.tup (key.map kV))) (hb : EV C σ H b (.ref d)) (h : Rd H d (.dT kvs)) : CV C σ H .In a b (valV kvs key).isSome := fun H1 k Q q =>
  ⟨tDIn (wE C a) (wE C b), fun X g => pc_din g.u1 (pe_w g) (pe_w g), ha H1 k _ fun u H2 k2 p2 => hb H2 (k.t k2) _ fun u' H3 k3 p3 => by
    obtain ⟨p, e2, _, h2⟩ := p2
    subst e2 p3
    exact ⟨d, _, rfl, .inr ⟨kvs, key, p, ex_rd ((k.t k2).t k3) h, rfl, k3.xat h2, rfl⟩, q _ H3 (k2.t k3) rfl⟩⟩
theorem a_consV {a : Expr} {es : List Expr} {x : V} {PA PA' : List V → Hp → Prop} (ha : EV C σ H a x) (hr : A C σ H es PA') (hPA : ∀ vs H1, PA' vs H1 → PA (x :: vs) H1) (hs : ∀ X, Good C X → starEach (a :: es) X.env = (false, eval a X.env) :: starEach es X.env := by exact fun _ _ => rfl) : A C σ H (a :: es) PA :=
  a_consB ha (fun x' H1 k p => by
    subst p
    exact fun H2 k2 Q q => hr H2 (k.t k2) Q fun us H3 k3 p3 => q us H3 k3 (hPA us H3 p3)) hs
/-- tuple(t) of a tuple is t -/
theorem e_tupleT {e : Expr} {q : Addr} {xs : List V} (hm : C.mg "tuple" = none) (ha : EV C σ H e (.ref q)) (hs : SqT C.K H q xs) (hg : C.sc.names.lookup ("tuple" : Str) = some .globalImplicit := by rfl)
    (he : ∀ X, Good C X → starEach [e] X.env = (false, eval e X.env) :: starEach [] X.env := by exact fun _ _ => rfl) : EV C σ H (.Call (.Name "tuple" p1) [e] [] pos) (.ref q) :=
  e_ty (rr := fun xs H Q => ∃ p ys, xs = [.ref p] ∧ ((SqL C.K H p ys ∧ ∀ l, H l = none → Q (.ref l) (upd H l (.tup ys))) ∨ (SqT C.K H p ys ∧ Q (.ref p) H))) (fun X g => by rw [← g.K]; exact call_tuple_of) hm (by decide +kernel) (a_1 ha he) (fun H1 k1 Q q' => ⟨q, xs, rfl, .inr ⟨ex_t k1 hs, q' _ _ Kp.refl rfl⟩⟩) (hg := hg) (he := he)
end
end Pm
end
/-! ## Kj -/
section
set_option Elab.async false
set_option linter.all false
set_option maxRecDepth 100000
set_option maxHeartbeats 2000000
namespace Pm
open PySem L2 PyProof.Rows
/-! ### walks over what is made where they begin (nothing known changes within) -/
def EIp (C : Ctx) {α : Type} (σ : L2.St) (H : Hp) (tg iter : Expr) (as : List α) (IV : α → V → Hp → Prop) : Prop :=
  ∀ H1, Ex C.G H H1 → ∀ R : It → Hp → Prop, (∀ J H2 (Gp : Hp → Prop) (Y : Nat → Hp → V → Hp → Prop), Ex C.G H1 H2 → Walk J as.length Gp Y → (∀ Ha, Ex C.G H2 Ha → Gp Ha) →
    (∀ i Ha x Ha', i < as.length → Ex C.G H2 Ha → Y i Ha x Ha' → Ex C.G Ha Ha' ∧ ∃ a, as[i]? = some a ∧ IV a x Ha') → R J H2) → wI C tg iter σ H1 R
section
variable {C : Ctx} {σ σ' : L2.St} {H H' : Hp} {e a b c o tg iter elt : Expr} {es ifs : List Expr} {P P' Pa : V → Hp → Prop} {x y z v w : V} {pos p1 p2 p3 p4 p5 : Pos} {s t : Bool} {k : Nat} {n m : Str} {q : Addr} {D : Ends} {rest : List Stmt} {scope : Scope}
variable {α : Type} {as : List α} {IV : α → V → Hp → Prop} {Src : Hp → Prop} {own : List (Str × Nat)}
theorem EI.p (h : EI C σ H tg iter as IV Src) (hs : ∀ H1, Ex C.G H H1 → Src H1) : EIp C σ H tg iter as IV := fun H1 k R hR => h H1 k R fun J H2 Gp Y k2 w hG hY => hR J H2 Gp Y k2 w (fun Ha ka => hG H2 Ha (hs H2 (k.t k2)) ka) fun i Ha x Ha' hi _ y => hY i Ha x Ha' hi y
theorem eip_tupR (ha : E C σ H iter Pa) (hs : ∀ x H1, Ex C.G H H1 → Pa x H1 → ∃ q vs, x = .ref q ∧ SqT C.K H1 q vs ∧ Paired (fun a v => IV a v H1) as vs) (hIV : ∀ a v H1 H2, Ex C.G H1 H2 → IV a v H1 → IV a v H2) : EIp C σ H tg iter as IV := fun H1 k R hR =>
  ⟨iTup C.K (wE C iter), fun X g => by rw [← g.K]; exact pi_tup (pe_w g), ha H1 k _ fun u H2 k2 p2 => by
    obtain ⟨q, vs, rfl, hq, hP⟩ := hs u H2 (k.t k2) p2
    have hl := paired_len hP
    refine ⟨q, rfl, ⟨_, hq⟩, hR _ H2 (fun H => SqT C.K H q vs) (YAt vs) k2 (by rw [hl]; exact walk_tup) (fun Ha ka => ex_t ka hq) fun i Ha x Ha' hi ka hy => ?_⟩
    obtain ⟨e1, e2⟩ := hy
    subst e1
    obtain ⟨v, h1, h2⟩ := paired_get hP (List.getElem?_eq_getElem hi)
    rw [h1] at e2
    cases e2
    exact ⟨Kp.refl, _, List.getElem?_eq_getElem hi, hIV _ _ _ _ ka h2⟩⟩
theorem eip_listR (ha : E C σ H iter Pa) (hs : ∀ x H1, Ex C.G H H1 → Pa x H1 → ∃ q vs, x = .ref q ∧ SqL C.K H1 q vs ∧ Paired (fun a v => IV a v H1) as vs) (hIV : ∀ a v H1 H2, Ex C.G H1 H2 → IV a v H1 → IV a v H2) : EIp C σ H tg iter as IV := fun H1 k R hR =>
  ⟨iList C.K (wE C iter), fun X g => by rw [← g.K]; exact pi_list (pe_w g), ha H1 k _ fun u H2 k2 p2 => by
    obtain ⟨q, vs, rfl, hq, hP⟩ := hs u H2 (k.t k2) p2
    have hl := paired_len hP
    refine ⟨q, rfl, ⟨_, hq⟩, hR _ H2 (fun H => SqL C.K H q vs) (YAt vs) k2 (by rw [hl]; exact walk_list) (fun Ha ka => ex_l ka hq) fun i Ha x Ha' hi ka hy => ?_⟩
    obtain ⟨e1, e2⟩ := hy
    subst e1
    obtain ⟨v, h1, h2⟩ := paired_get hP (List.getElem?_eq_getElem hi)
    rw [h1] at e2
    cases e2
    exact ⟨Kp.refl, _, List.getElem?_eq_getElem hi, hIV _ _ _ _ ka h2⟩⟩
theorem paired_map_self {β : Type} {f : α → β} : ∀ {as : List α}, Paired (fun a v => v = f a) as (as.map f)
  | [] => .nil
  | _ :: _ => .cons rfl paired_map_self
theorem eip_tupB {ev : α → V} (ha : E C σ H iter Pa) (hs : ∀ x H1, Ex C.G H H1 → Pa x H1 → ∃ q, x = .ref q ∧ SqT C.K H1 q (as.map ev)) : EIp C σ H tg iter as (fun a x _ => x = ev a) :=
  eip_tupR ha (fun x H1 k p => by
    obtain ⟨q, e, h⟩ := hs x H1 k p
    exact ⟨q, _, e, h, paired_map_self⟩) fun _ _ _ _ _ h => h
theorem eip_listB {ev : α → V} (ha : E C σ H iter Pa) (hs : ∀ x H1, Ex C.G H H1 → Pa x H1 → ∃ q, x = .ref q ∧ SqL C.K H1 q (as.map ev)) : EIp C σ H tg iter as (fun a x _ => x = ev a) :=
  eip_listR ha (fun x H1 k p => by
    obtain ⟨q, e, h⟩ := hs x H1 k p
    exact ⟨q, _, e, h, paired_map_self⟩) fun _ _ _ _ _ h => h
theorem gex_readp {sv : Bool} {j : Nat} (p : α → Bool) (hi : EIp C σ H tg iter as IV) (ht : TOk C.G H) (hb : ∀ a x H1, a ∈ as → Ex C.G H H1 → IV a x H1 → EV (C.gen scope k) (σ.set j (some x)) H1 elt (.bl (p a))) :
    ∀ H1, Ex C.G H H1 → ∀ Q : VK, (∀ v H2, Ex C.G H1 H2 → v = .bl (gexR sv p as) → Q v H2) → GX.tGex sv C.G (wI C tg iter) j (wE (C.gen scope k) elt) σ H1 Q := fun H1 k1 Q q =>
  hi H1 k1 _ fun J H2 Gp Y k2 w hG hY => ⟨(k1.t k2).tok ht, fun H3 eT hT => by
    have k3 : Ex C.G H2 H3 := Ex.ofT eT fun _ => hT
    refine ⟨fun i m Ha => m = as.length - i ∧ i ≤ as.length ∧ Ex C.G H3 Ha ∧ ∀ a ∈ as.take i, p a = !sv, ⟨as.length, by simp, Nat.zero_le _, Kp.refl, by simp⟩, ?_⟩
    rintro i m Ha ⟨rfl, hle, k4, hall⟩
    have kA : Ex C.G H Ha := ((k1.t k2).t k3).t k4
    have hg : Gp Ha := hG Ha (k3.t k4)
    by_cases hlt : i < as.length
    · refine .inr ⟨w.goes i Ha hlt hg, fun H' => Ex C.G H3 H' ∧ ∀ a ∈ as.take (i + 1), p a = !sv, fun H' h => ⟨as.length - (i + 1), by omega, rfl, hlt, h.1, h.2⟩, fun x H' y => ?_⟩
      obtain ⟨k5, a, ha, iv⟩ := hY i Ha x H' hlt (k3.t k4) (w.yields i Ha x H' hlt hg y)
      have hm : a ∈ as := List.mem_of_getElem? ha
      refine hb a x H' hm (kA.t k5) iv H' Kp.refl _ fun u H5 k6 e => ⟨p a, e, fun hp => ?_, fun hp => ⟨k4.t (k5.t k6), ?_⟩⟩
      · refine q _ _ (k2.t (k3.t (k4.t (k5.t k6)))) ?_
        have : gexR sv p as = sv := by
          unfold gexR
          cases sv with
          | true => exact List.any_eq_true.mpr ⟨a, hm, hp⟩
          | false => exact List.all_eq_false.mpr ⟨a, hm, by rw [hp]; decide⟩
        rw [this]
      · rw [List.take_add_one, ha]
        intro b hb'
        rcases List.mem_append.mp hb' with z | z
        · exact hall b z
        · have : b = a := by simpa using z
          rw [this]
          exact hp
    · have e : i = as.length := by omega
      subst e
      rw [List.take_length] at hall
      refine .inl ⟨w.stops Ha hg, q _ _ (k2.t (k3.t k4)) ?_⟩
      have : gexR sv p as = !sv := by
        unfold gexR
        cases sv with
        | true => exact List.any_eq_false.mpr fun a ha => by rw [hall a ha]; decide
        | false => exact List.all_eq_true.mpr fun a ha => by rw [hall a ha]; rfl
      rw [this]⟩
theorem e_anyp {P c : Addr} {x' : Str} {j : Nat} (p : α → Bool) (k : Nat) (hk : k + 3 ≤ C.k) (hm : C.mg "any" = none) (GG : GT C P c "<genexpr>") (hi : EIp C σ H (.Name x' p2) iter as IV) (ht : TOk C.G H)
    (hb : ∀ a x H1, a ∈ as → Ex C.G H H1 → IV a x H1 → EV (C.gen scope k) (σ.set j (some x)) H1 elt (.bl (p a))) (G : GX.GexS C.N C.sc scope x' j := by exact GX.gex_by (by (try dsimp only [ctx, ctxX, Ctx.blk, Ctx.gen]); decide +kernel)) (hg : C.sc.names.lookup ("any" : Str) = some .globalImplicit := by rfl)
    (hs : ∀ X, Good C X → ∀ v, genFold iter X.env v = pure v := by exact fun _ _ _ => rfl)
    (he : ∀ X, Good C X → starEach [.GeneratorExp elt [⟨.Name x' p2, iter, [], 0⟩] scope p3] X.env = (false, eval (.GeneratorExp elt [⟨.Name x' p2, iter, [], 0⟩] scope p3) X.env) :: starEach [] X.env := by exact fun _ _ => rfl) :
    EV C σ H (.Call (.Name "any" p1) [.GeneratorExp elt [⟨.Name x' p2, iter, [], 0⟩] scope p3] [] pos) (.bl (as.any p)) :=
  ek_of (fun X g => GX.pe_anyX (g.room.mono hk) (g.gl hg) (by rw [g.mg]; exact hm) (by rw [g.base, g.mg]; exact GG.TB) ((g.cg GG.cg).1.trans GG.code) (by rw [(g.cg GG.cg).2]; exact GG.hm) (by rw [(g.cg GG.cg).2]; exact GG.hu) (GexS_good g G) ⟨fun pins s σ H Q I ⟨_, h, q⟩ => (h X g).run pins s σ H Q I q⟩
    (fun s H Ca code fp hr => pe_w (good_gen g G hr)) (hs X g) (he X g)) (gex_readp (sv := true) p hi ht hb)
theorem e_allp {P c : Addr} {x' : Str} {j : Nat} (p : α → Bool) (k : Nat) (hk : k + 3 ≤ C.k) (hm : C.mg "all" = none) (GG : GT C P c "<genexpr>") (hi : EIp C σ H (.Name x' p2) iter as IV) (ht : TOk C.G H)
    (hb : ∀ a x H1, a ∈ as → Ex C.G H H1 → IV a x H1 → EV (C.gen scope k) (σ.set j (some x)) H1 elt (.bl (p a))) (G : GX.GexS C.N C.sc scope x' j := by exact GX.gex_by (by (try dsimp only [ctx, ctxX, Ctx.blk, Ctx.gen]); decide +kernel)) (hg : C.sc.names.lookup ("all" : Str) = some .globalImplicit := by rfl)
    (hs : ∀ X, Good C X → ∀ v, genFold iter X.env v = pure v := by exact fun _ _ _ => rfl)
    (he : ∀ X, Good C X → starEach [.GeneratorExp elt [⟨.Name x' p2, iter, [], 0⟩] scope p3] X.env = (false, eval (.GeneratorExp elt [⟨.Name x' p2, iter, [], 0⟩] scope p3) X.env) :: starEach [] X.env := by exact fun _ _ => rfl) :
    EV C σ H (.Call (.Name "all" p1) [.GeneratorExp elt [⟨.Name x' p2, iter, [], 0⟩] scope p3] [] pos) (.bl (as.all p)) :=
  ek_of (fun X g => GX.pe_allX (g.room.mono hk) (g.gl hg) (by rw [g.mg]; exact hm) (by decide +kernel) (by rw [g.base, g.mg]; exact GG.TB) ((g.cg GG.cg).1.trans GG.code) (by rw [(g.cg GG.cg).2]; exact GG.hm) (by rw [(g.cg GG.cg).2]; exact GG.hu) (GexS_good g G) ⟨fun pins s σ H Q I ⟨_, h, q⟩ => (h X g).run pins s σ H Q I q⟩
    (fun s H Ca code fp hr => pe_w (good_gen g G hr)) (hs X g) (he X g)) (gex_readp (sv := false) p hi ht hb)
/-- comprehensions over such a walk -/
theorem lc_Rp (hi : EIp C σ H tg iter as IV) (p : α → Bool) (R : Addr → α → V → Hp → Prop)
    (hR : ∀ D a v H1 H2 zs, H1 D = some (.lst zs) → Kp C.G [D] H1 H2 → R D a v H1 → R D a v H2) (hlen : as.length ≤ 1000000)
    (hb : ∀ D a x H1 zs, a ∈ as → Ex C.G H H1 → H D = none → H1 D = some (.lst zs) → IV a x H1 → ∃ σ2, EG (C.blk scope) tg x (wipe σ (own.map (·.2))) H1 σ2 ∧ wipe σ2 (own.map (·.2)) = wipe σ (own.map (·.2)) ∧ Ts (C.blk scope) σ2 H1 ifs (p a) ∧ (p a = true → E (C.blk scope) σ2 H1 elt (R D a))) :
    LC C σ H elt tg iter ifs scope own fun v H' => ∃ D ys, v = .ref D ∧ H D = none ∧ H' D = some (.lst ys) ∧ Paired (fun a y => R D a y H') (as.filter p) ys := fun H1 k Q q =>
  hi H1 k _ fun J H2 Gp Y k2 w hG hY D hD => by
    have hDn : H D = none := (k.t k2).free hD
    have kD : ∀ Ha, Kp C.G [D] (upd H2 D (.lst [])) Ha → Ex C.G H2 Ha := fun Ha z => Kp.step (Ex.new hD) z fun x hx => .inr (by rw [List.mem_singleton.mp hx]; exact hD)
    refine lc_it w (fun i Ha => Kp C.G [D] (upd H2 D (.lst [])) Ha ∧ ∃ ys, Ha D = some (.lst ys) ∧ ys.length ≤ i ∧ Paired (fun a y => R D a y Ha) ((as.take i).filter p) ys) ?_ ?_ ?_ ?_
    · exact ⟨Kp.refl, [], upd_same, Nat.le_refl _, .nil⟩
    · rintro i Ha hle ⟨k3, _⟩
      exact hG Ha (kD Ha k3)
    · rintro i x Ha Ha' hlt ⟨k3, ys, hys, hyl, hP⟩ y
      obtain ⟨k4, a, ha, iv⟩ := hY i Ha x Ha' hlt (kD Ha k3) y
      have hmem : a ∈ as := List.mem_of_getElem? ha
      have kH : Ex C.G H Ha' := (k.t k2).t ((kD Ha k3).t k4)
      obtain ⟨σ2, hg, hw, ht, he⟩ := hb D a x Ha' ys hmem kH hDn (k4.xat hys) iv
      refine hg Ha' Kp.refl _ ⟨hw, ht Ha' Kp.refl _ fun H3 k5 => ?_⟩
      have k35 : Kp C.G [D] (upd H2 D (.lst [])) H3 := k3.then (k4.t k5)
      have hP3 : Paired (fun a y => R D a y H3) ((as.take i).filter p) ys := paired_imp hP fun a y z => hR D a y Ha H3 ys hys (k4.t k5).ex z
      rw [take_filter_succ ha]
      by_cases hp : p a = true
      · rw [hp]
        refine iteT (he hp H3 k5 _ fun y H4 k6 p6 => ⟨ys, (k4.t (k5.t k6)).xat hys, sz_lt (by omega), ?_, ys ++ [y], upd_same, by simp; omega, ?_⟩)
        · exact (k35.then k6).trans (Kp.put1 ((k4.t (k5.t k6)).xat hys))
        · rw [if_pos rfl]
          have kk : Kp C.G [D] H4 (upd H4 D (.lst (ys ++ [y]))) := Kp.put1 ((k4.t (k5.t k6)).xat hys)
          exact paired_snoc (paired_imp hP fun a y z => hR D a y Ha _ ys hys ((k4.t (k5.t k6)).ex.trans kk) z) (hR D a y H4 _ ys ((k4.t (k5.t k6)).xat hys) kk p6)
      · have hp' : p a = false := by simpa using hp
        rw [hp']
        exact iteF ⟨k35, ys, (k4.t k5).xat hys, by omega, by simpa using hP3⟩
    · rintro Ha ⟨k3, ys, hys, hyl, hP⟩
      rw [List.take_length] at hP
      exact q _ _ (k2.t (kD Ha k3)) ⟨D, ys, rfl, hDn, hys, hP⟩
theorem lc_Vp {ev : α → V} (hi : EIp C σ H tg iter as (fun a x _ => x = ev a)) (p : α → Bool) (f : α → V) (hlen : as.length ≤ 1000000)
    (hb : ∀ a H1, a ∈ as → Ex C.G H H1 → ∃ σ2, EG (C.blk scope) tg (ev a) (wipe σ (own.map (·.2))) H1 σ2 ∧ wipe σ2 (own.map (·.2)) = wipe σ (own.map (·.2)) ∧ Ts (C.blk scope) σ2 H1 ifs (p a) ∧ (p a = true → EV (C.blk scope) σ2 H1 elt (f a))) :
    LC C σ H elt tg iter ifs scope own fun v H' => ∃ D, v = .ref D ∧ H D = none ∧ H' D = some (.lst ((as.filter p).map f)) :=
  (lc_Rp hi p (fun _ a v _ => v = f a) (fun _ _ _ _ _ _ _ _ z => z) hlen (fun D a x H1 zs hm k _ _ e => by
    subst e
    exact hb a H1 hm k)).imp fun v H2 k ⟨D, ys, h1, h2, h3, h4⟩ => ⟨D, h1, h2, by rw [h3, paired_eq h4]⟩
end
end Pm
end
/-! ## Kk -/
section
set_option Elab.async false
set_option linter.all false
set_option maxRecDepth 100000
set_option maxHeartbeats 2000000
namespace Pm
open PySem L2 PyProof.Rows
abbrev PrH (H : Hp) (p : Nat × Nat) (v : V) : Prop := ∃ q, v = .ref q ∧ H q = some (.tup [nI p.1, nI p.2])
theorem paired_of_all {α β : Type} {F : α → β → Prop} {g : β → α} : ∀ {bs : List β}, (∀ b ∈ bs, F (g b) b) → Paired F (bs.map g) bs
  | [], _ => .nil
  | b :: r, h => .cons (h b (by simp)) (paired_of_all fun c hc => h c (by simp [hc]))
def kH (H : Hp) : V → Int × Int
  | .ref t => match H t with
    | some (.tup [.int i, .int j]) => (i, j)
    | _ => (0, 0)
  | _ => (0, 0)
theorem kH_of {H : Hp} {p : Nat × Nat} {v : V} (h : PrH H p v) : kH H v = ((p.1 : Int), (p.2 : Int)) := by
  obtain ⟨q, rfl, h⟩ := h
  simp [kH, h]
theorem kH_map {H : Hp} : ∀ {ps : List (Nat × Nat)} {vs : List V}, Paired (PrH H) ps vs → vs.map (fun v => ((kH H v).1.toNat, (kH H v).2.toNat)) = ps
  | _, _, .nil => rfl
  | _, _, .cons h t => by
    rw [List.map_cons, kH_map t, kH_of h]
    rfl
def SrtP (l : List (Nat × Nat)) : Prop := l.Pairwise fun x y => SrtO.lexB ((y.1 : Int), (y.2 : Int)) ((x.1 : Int), (x.2 : Int)) = false
theorem srtP_eq : ∀ {l m : List (Nat × Nat)}, l.Perm m → SrtP l → SrtP m → l = m := by
  intro l m h h1 h2
  unfold SrtP at h1 h2
  refine List.Perm.eq_of_pairwise ?_ h1 h2 h
  intro a b ha hb h1 h2
  have h1 := SrtO.lexB_no.mp h1
  have h2 := SrtO.lexB_no.mp h2
  obtain ⟨a1, a2⟩ := a
  obtain ⟨b1, b2⟩ := b
  simp only at h1 h2
  have e1 : a1 = b1 := by omega
  have e2 : a2 = b2 := by omega
  rw [e1, e2]
section
variable {C : Ctx} {σ : L2.St} {H : Hp} {e : Expr} {p1 pos : Pos} {Pa : V → Hp → Prop} {ps : List (Nat × Nat)}
theorem e_sortPairs (hm : C.mg "sorted" = none) (ha : E C σ H e Pa) (hs : ∀ x H1, Ex C.G H H1 → Pa x H1 → ∃ q vs, x = .ref q ∧ H1 q = some (.lst vs) ∧ Paired (PrH H1) ps vs) (hg : C.sc.names.lookup ("sorted" : Str) = some .globalImplicit := by rfl)
    (he : ∀ X, Good C X → starEach [e] X.env = (false, eval e X.env) :: starEach [] X.env := by exact fun _ _ => rfl) : E C σ H (.Call (.Name "sorted" p1) [e] [] pos) fun v H' => ∃ p ys qs, v = .ref p ∧ H' p = some (.lst ys) ∧ qs.Perm ps ∧ SrtP qs ∧ Paired (PrH H') qs ys :=
  e_bltB (rr := rSortedPO C.K) (fun X g => by rw [← g.K]; exact cr_sortedPO) hm (by decide +kernel) (a_1B ha he) (fun vs H1 k1 ⟨x, hv, px⟩ => by
    subst hv
    obtain ⟨q, vs, rfl, hq, hP⟩ := hs x H1 k1 px
    intro H2 k2 Q q'
    have hk : ∀ {as : List (Nat × Nat)} {vs : List V}, Paired (PrH H1) as vs → ∀ x ∈ vs, ∃ p, PrH H1 p x := by
      intro as vs h
      induction h with
      | nil => intro x hx; cases hx
      | cons h t ih =>
        intro x hx
        rcases List.mem_cons.mp hx with e | e
        · exact ⟨_, e ▸ h⟩
        · exact ih x e
    refine ⟨q, vs, kH H1, rfl, .inl (.inl (k2.xat hq)), fun x hx => ?_, fun ys p hsrt hstb hp => q' _ _ (Ex.new hp) ⟨p, ys, ys.map fun v => ((kH H1 v).1.toNat, (kH H1 v).2.toNat), rfl, upd_same, ?_, ?_, ?_⟩⟩
    · obtain ⟨p, hp⟩ := hk hP x hx
      have := kH_of hp
      obtain ⟨t, e, ht⟩ := hp
      exact ⟨t, e, by rw [this]; exact k2.xat ht⟩
    · rw [← kH_map hP]
      exact hstb.perm.map _
    · have hmem : ∀ y ∈ ys, ∃ p, PrH H1 p y := fun y hy => hk hP y (hstb.perm.subset hy)
      refine List.pairwise_map.mpr (hsrt.imp_of_mem fun {a b} ha hb h => ?_)
      obtain ⟨p, hp⟩ := hmem a ha
      obtain ⟨p', hp'⟩ := hmem b hb
      have h : SrtO.lexB (kH H1 b) (kH H1 a) = false := h
      rw [kH_of hp, kH_of hp'] at h ⊢
      exact h
    · have hmem : ∀ y ∈ ys, ∃ p, PrH H1 p y := fun y hy => hk hP y (hstb.perm.subset hy)
      have hb : ∀ y ∈ ys, PrH (upd H2 p (.lst ys)) ((kH H1 y).1.toNat, (kH H1 y).2.toNat) y := fun y hy => by
        obtain ⟨p', hp'⟩ := hmem y hy
        rw [kH_of hp']
        obtain ⟨t, e, ht⟩ := hp'
        exact ⟨t, e, by rw [upd_ne (ne_of_none (k2.xat ht) hp)]; exact k2.xat ht⟩
      exact paired_of_all hb) (hg := hg) (he := he)
end
def sortP (ps : List (Nat × Nat)) : List (Nat × Nat) := ps.mergeSort fun x y => !SrtO.lexB ((y.1 : Int), (y.2 : Int)) ((x.1 : Int), (x.2 : Int))
theorem sortP_srt (ps : List (Nat × Nat)) : SrtP (sortP ps) := by
  unfold SrtP sortP
  refine (List.pairwise_mergeSort (fun a b c h1 h2 => ?_) (fun a b => ?_) ps).imp fun {a b} h => by simpa using h
  · have h1 := SrtO.lexB_no.mp (by simpa using h1)
    have h2 := SrtO.lexB_no.mp (by simpa using h2)
    have : SrtO.lexB ((c.1 : Int), (c.2 : Int)) ((a.1 : Int), (a.2 : Int)) = false := SrtO.lexB_no.mpr (by simp only at h1 h2 ⊢; omega)
    simp [this]
  · by_cases h : SrtO.lexB ((b.1 : Int), (b.2 : Int)) ((a.1 : Int), (a.2 : Int)) = true
    · have h' := SrtO.lexB_iff.mp h
      have : SrtO.lexB ((a.1 : Int), (a.2 : Int)) ((b.1 : Int), (b.2 : Int)) = false := SrtO.lexB_no.mpr (by simp only at h' ⊢; omega)
      simp [this]
    · simp [h]
theorem sortP_perm (ps : List (Nat × Nat)) : (sortP ps).Perm ps := List.mergeSort_perm _ _
theorem sortP_iff {ps qs : List (Nat × Nat)} : sortP ps = sortP qs ↔ ps.Perm qs := by
  constructor
  · intro h
    exact (sortP_perm ps).symm.trans (h ▸ sortP_perm qs)
  · intro h
    exact srtP_eq ((sortP_perm ps).trans (h.trans (sortP_perm qs).symm)) (sortP_srt ps) (sortP_srt qs)
theorem e_sortPairs2 {C : Ctx} {σ : L2.St} {H : Hp} {e : Expr} {p1 pos : Pos} {Pa : V → Hp → Prop} {ps : List (Nat × Nat)} (hm : C.mg "sorted" = none) (ha : E C σ H e Pa) (hs : ∀ x H1, Ex C.G H H1 → Pa x H1 → ∃ q vs, x = .ref q ∧ H1 q = some (.lst vs) ∧ Paired (PrH H1) ps vs) (hg : C.sc.names.lookup ("sorted" : Str) = some .globalImplicit := by rfl)
    (he : ∀ X, Good C X → starEach [e] X.env = (false, eval e X.env) :: starEach [] X.env := by exact fun _ _ => rfl) : E C σ H (.Call (.Name "sorted" p1) [e] [] pos) fun v H' => ∃ p ys, v = .ref p ∧ H' p = some (.lst ys) ∧ Paired (PrH H') (sortP ps) ys :=
  EK.imp (e_sortPairs hm ha hs hg he) fun v H1 k ⟨p, ys, qs, h1, h2, h3, h4, h5⟩ => ⟨p, ys, h1, h2, by rw [← srtP_eq (h3.trans (sortP_perm ps).symm) h4 (sortP_srt ps)]; exact h5⟩
end Pm
end
/-! ## Kl -/
section
set_option Elab.async false
set_option linter.all false
set_option maxRecDepth 100000
set_option maxHeartbeats 2000000
namespace Pm
open PySem PySem.Spec PyProof.Rows L2
/-! ### sorted texts, told by one function -/
def leS (a b : Str) : Bool := !ltCps b.cps.toList a.cps.toList
theorem leS_iff {a b : Str} : leS a b = true ↔ a.cps.toList ≤ b.cps.toList := by
  unfold leS
  rw [ltCps_eq]
  simp only [Bool.not_eq_true', decide_eq_false_iff_not]
  exact Iff.rfl
theorem leS_trans {a b c : Str} (h : leS a b = true) (h2 : leS b c = true) : leS a c = true := leS_iff.mpr (List.le_trans (leS_iff.mp h) (leS_iff.mp h2))
theorem leS_total (a b : Str) : (leS a b || leS b a) = true := by
  rw [Bool.or_eq_true]
  rcases List.le_total a.cps.toList b.cps.toList with h | h
  · exact .inl (leS_iff.mpr h)
  · exact .inr (leS_iff.mpr h)
theorem leS_antisymm {a b : Str} (h : leS a b = true) (h2 : leS b a = true) : a = b := by
  have := List.le_antisymm (leS_iff.mp h) (leS_iff.mp h2)
  obtain ⟨⟨x⟩⟩ := a
  obtain ⟨⟨y⟩⟩ := b
  simp at this
  rw [this]
theorem risingS_pw : ∀ {l : List Str} {p : Str}, risingS p l = true → (p :: l).Pairwise fun a b => leS a b = true
  | [], _, _ => by simp
  | x :: r, p, h => by
    unfold risingS at h
    rw [Bool.and_eq_true] at h
    have ih := risingS_pw h.2
    have hpx : leS p x = true := h.1
    refine List.pairwise_cons.mpr ⟨fun y hy => ?_, ih⟩
    rcases List.mem_cons.mp hy with e | e
    · rw [e]
      exact hpx
    · exact leS_trans hpx ((List.pairwise_cons.mp ih).1 y e)
theorem sortedS_pw {l : List Str} (h : sortedS l = true) : l.Pairwise fun a b => leS a b = true := by
  cases l with
  | nil => exact .nil
  | cons x r => exact risingS_pw h
def sortS (xs : List Str) : List Str := xs.mergeSort leS
theorem sortS_perm (xs : List Str) : (sortS xs).Perm xs := List.mergeSort_perm _ _
theorem sortS_pw (xs : List Str) : (sortS xs).Pairwise fun a b => leS a b = true := List.pairwise_mergeSort (le := leS) (fun _ _ _ h1 h2 => leS_trans h1 h2) leS_total xs
theorem sortS_eq {ys xs : List Str} (h : ys.Perm xs) (hs : ys.Pairwise fun a b => leS a b = true) : ys = sortS xs :=
  List.Perm.eq_of_pairwise (fun a b _ _ h1 h2 => leS_antisymm h1 h2) hs (sortS_pw xs) (h.trans (sortS_perm xs).symm)
theorem sortS_congr {ys xs : List Str} (h : ys.Perm xs) : sortS ys = sortS xs := sortS_eq ((sortS_perm ys).trans h) (sortS_pw ys)
theorem mem_sortS {x : Str} {xs : List Str} : x ∈ sortS xs ↔ x ∈ xs := (sortS_perm xs).mem_iff
section
variable {C : Ctx} {σ : L2.St} {H : Hp} {e : Expr} {p1 pos : Pos} {Pa : V → Hp → Prop}
theorem e_sortS {q : Addr} {xs : List Str} (hm : C.mg "sorted" = none) (ha : EV C σ H e (.ref q)) (hs : SqL C.K H q (xs.map V.str)) (hl : xs.length < 64) (hg : C.sc.names.lookup ("sorted" : Str) = some .globalImplicit := by rfl)
    (he : ∀ X, Good C X → starEach [e] X.env = (false, eval e X.env) :: starEach [] X.env := by exact fun _ _ => rfl) : EN C σ H (.Call (.Name "sorted" p1) [e] [] pos) (.lst ((sortS xs).map V.str)) :=
  EK.imp (e_sortedS hm ha hs hl hg he) fun v H1 k ⟨p, ys, h1, h2, h3, h4, h5⟩ => ⟨p, h1, h2, by rw [← sortS_eq h3 (sortedS_pw h4)]; exact h5⟩
/-- sorted(d): its keys, texts -/
theorem e_sortD {d : Addr} {kvs : List (L2.Key × V)} {ks : List Str} (hm : C.mg "sorted" = none) (ha : EV C σ H e (.ref d)) (hs : Rd H d (.dK kvs)) (hk : kvs.map (·.1) = ks.map Sum.inr) (hl : ks.length < 64) (hg : C.sc.names.lookup ("sorted" : Str) = some .globalImplicit := by rfl)
    (he : ∀ X, Good C X → starEach [e] X.env = (false, eval e X.env) :: starEach [] X.env := by exact fun _ _ => rfl) : EN C σ H (.Call (.Name "sorted" p1) [e] [] pos) (.lst ((sortS ks).map V.str)) :=
  e_blt (fun X g => call_sortedD g.calm) hm (by decide +kernel) (a_1 ha he) (fun H1 k1 Q q' => ⟨d, kvs, ks, rfl, ex_rd k1 hs, hk, hl, fun ys p h1 h2 h3 => q' _ _ (Ex.new h3) ⟨p, rfl, k1.free h3, by rw [← sortS_eq h1 (sortedS_pw h2)]; exact upd_same⟩⟩) (hg := hg) (he := he)
theorem e_sortDB {kvs : List (L2.Key × V)} {ks : List Str} (hm : C.mg "sorted" = none) (ha : E C σ H e Pa) (hs : ∀ x H1, Ex C.G H H1 → Pa x H1 → ∃ d, x = .ref d ∧ Rd H1 d (.dK kvs)) (hk : kvs.map (·.1) = ks.map Sum.inr) (hl : ks.length < 64) (hg : C.sc.names.lookup ("sorted" : Str) = some .globalImplicit := by rfl)
    (he : ∀ X, Good C X → starEach [e] X.env = (false, eval e X.env) :: starEach [] X.env := by exact fun _ _ => rfl) : EN C σ H (.Call (.Name "sorted" p1) [e] [] pos) (.lst ((sortS ks).map V.str)) :=
  e_bltB (fun X g => call_sortedD g.calm) hm (by decide +kernel) (a_1B ha he) (fun vs H1 k1 ⟨x, hv, px⟩ => by
    subst hv
    obtain ⟨d, rfl, hd⟩ := hs x H1 k1 px
    exact fun H2 k2 Q q' => ⟨d, kvs, ks, rfl, ex_rd k2 hd, hk, hl, fun ys p h1 h2 h3 => q' _ _ (Ex.new h3) ⟨p, rfl, (k1.t k2).free h3, by rw [← sortS_eq h1 (sortedS_pw h2)]; exact upd_same⟩⟩) (hg := hg) (he := he)
end
end Pm
end
/-! ## Km -/
section
set_option Elab.async false
set_option linter.all false
set_option maxRecDepth 100000
set_option maxHeartbeats 2000000
namespace Pm
open PySem L2
/-! ### dict([(x, v) for x in xs]) of texts: the texts once each -/
def ddA (acc : List Str) (ks : List Str) : List Str := ks.foldl (fun acc k => if k ∈ acc then acc else acc ++ [k]) acc
abbrev dd (ks : List Str) : List Str := ddA [] ks
theorem merge_ddA {v : V} : ∀ {ks acc : List Str}, mergeK (acc.map fun k => ((Sum.inr k : L2.Key), v)) (ks.map fun k => ((Sum.inr k : L2.Key), v)) = (ddA acc ks).map fun k => ((Sum.inr k : L2.Key), v)
  | [], acc => rfl
  | k :: ks, acc => by
    have e : mergeK (acc.map fun k => ((Sum.inr k : L2.Key), v)) ((k :: ks).map fun k => ((Sum.inr k : L2.Key), v)) = mergeK (putK (acc.map fun k => ((Sum.inr k : L2.Key), v)) (Sum.inr k) v) (ks.map fun k => ((Sum.inr k : L2.Key), v)) := rfl
    have e2 : putK (acc.map fun k => ((Sum.inr k : L2.Key), v)) (Sum.inr k) v = (if k ∈ acc then acc else acc ++ [k]).map fun k => ((Sum.inr k : L2.Key), v) := by
      unfold putK
      by_cases h : k ∈ acc
      · rw [if_pos h, if_pos]
        · rw [List.map_map]
          refine List.map_congr_left fun x _ => ?_
          simp only [Function.comp_apply]
          by_cases hx : x = k
          · rw [if_pos (by rw [hx])]
          · rw [if_neg (by simpa using hx)]
        · rw [List.any_eq_true]
          exact ⟨_, List.mem_map.mpr ⟨k, h, rfl⟩, by simp⟩
      · rw [if_neg h, if_neg, List.map_append]
        · rfl
        · rw [Bool.not_eq_true, List.any_eq_false]
          intro p hp
          obtain ⟨x, hx, rfl⟩ := List.mem_map.mp hp
          simp only [Sum.inr.injEq, decide_eq_true_eq]
          exact fun e => h (e ▸ hx)
    rw [e, e2, merge_ddA]
    rfl
theorem merge_dd {v : V} {ks : List Str} : mergeK [] (ks.map fun k => ((Sum.inr k : L2.Key), v)) = (dd ks).map fun k => ((Sum.inr k : L2.Key), v) := merge_ddA (acc := [])
theorem mem_ddA {x : Str} : ∀ {ks acc : List Str}, x ∈ ddA acc ks ↔ x ∈ acc ∨ x ∈ ks
  | [], acc => by simp [ddA]
  | k :: ks, acc => by
    have e : ddA acc (k :: ks) = ddA (if k ∈ acc then acc else acc ++ [k]) ks := rfl
    rw [e, mem_ddA]
    by_cases h : k ∈ acc
    · rw [if_pos h]
      constructor
      · rintro (z | z)
        · exact .inl z
        · exact .inr (List.mem_cons_of_mem _ z)
      · rintro (z | z)
        · exact .inl z
        · rcases List.mem_cons.mp z with e | e
          · exact .inl (e ▸ h)
          · exact .inr e
    · rw [if_neg h]
      rw [List.mem_append, List.mem_singleton, List.mem_cons, or_assoc]
theorem mem_dd {x : Str} {ks : List Str} : x ∈ dd ks ↔ x ∈ ks := by
  rw [mem_ddA]
  simp
theorem nd_ddA : ∀ {ks acc : List Str}, acc.Nodup → (ddA acc ks).Nodup
  | [], _, h => h
  | k :: ks, acc, h => by
    have e : ddA acc (k :: ks) = ddA (if k ∈ acc then acc else acc ++ [k]) ks := rfl
    rw [e]
    refine nd_ddA ?_
    split
    · exact h
    · rename_i hk
      rw [List.nodup_append]
      exact ⟨h, by simp, fun a ha b hb => by rw [List.mem_singleton.mp hb]; exact fun e => hk (e ▸ ha)⟩
theorem nd_dd {ks : List Str} : (dd ks).Nodup := nd_ddA List.nodup_nil
theorem len_ddA : ∀ {ks acc : List Str}, (ddA acc ks).length ≤ acc.length + ks.length
  | [], acc => by simp [ddA]
  | k :: ks, acc => by
    have e : ddA acc (k :: ks) = ddA (if k ∈ acc then acc else acc ++ [k]) ks := rfl
    rw [e]
    have h1 := len_ddA (ks := ks) (acc := if k ∈ acc then acc else acc ++ [k])
    have h2 : (if k ∈ acc then acc else acc ++ [k]).length ≤ acc.length + 1 := by
      split <;> simp
    rw [List.length_cons]
    omega
section
variable {C : Ctx} {σ σ' : L2.St} {H H' : Hp} {tg iter ek ev a b : Expr} {ifs : List Expr} {p1 p2 p3 pos : Pos} {scope : Scope}
variable {α : Type} {as : List α} {IV : α → V → Hp → Prop} {own : List (Str × Nat)}
theorem lc_pairsp {x1 : Nat} (hi : EIp C σ H tg iter as IV) (p : α → Bool) (key : α → L2.Key) (val : α → V) (hlen : as.length ≤ 1000000)
    (hb : ∀ a x H1, a ∈ as → Ex C.G H H1 → IV a x H1 → ∃ σ2, EG (C.blk scope) tg x (wipe σ (own.map (·.2))) H1 σ2 ∧ wipe σ2 (own.map (·.2)) = wipe σ (own.map (·.2)) ∧ Ts (C.blk scope) σ2 H1 ifs (p a) ∧ (p a = true → EV (C.blk scope) σ2 H1 ek (kV (key a)) ∧ EV (C.blk scope) σ2 H1 ev (val a)))
    (hs1 : ∀ X, Good (C.blk scope) X → starEach [ek, ev] X.env = (false, eval ek X.env) :: starEach [ev] X.env := by exact fun _ _ => rfl) (hs2 : ∀ X, Good (C.blk scope) X → starEach [ev] X.env = (false, eval ev X.env) :: starEach [] X.env := by exact fun _ _ => rfl) :
    LC C σ H (.Tuple [ek, ev] x1 p1) tg iter ifs scope own fun v H' => PairsAt C.K H v H' ((as.filter p).map fun a => (key a, val a)) := by
  refine (lc_Rp hi p (fun _ a v H' => ∃ t, v = .ref t ∧ H' t = some (.tup [kV (key a), val a])) ?_ hlen fun D' a x H1 zs ha k hD hD1 iv => ?_).imp fun v H1 k ⟨D', ys, e1, e2, e3, e4⟩ => ?_
  · rintro D' a v H1 H2 zs hz kk ⟨t, e, ht⟩
    exact ⟨t, e, kk.at1 hz ht (by simp)⟩
  · obtain ⟨σ2, h1, h2, h3, h4⟩ := hb a x H1 ha k iv
    refine ⟨σ2, h1, h2, h3, fun hp => ?_⟩
    exact EK.imp (e_tup (a_cons (h4 hp).1 (a_1 (h4 hp).2 hs2) hs1) (Nat.le_of_ble_eq_true rfl)) fun v H2 k2 ⟨t, e1, e2, e3⟩ => ⟨t, e1, e3⟩
  · obtain ⟨ps, e5, e6⟩ := paired_all (G := fun p kv => SqT C.K H1 p [kV kv.1, kv.2]) (g := fun a => (key a, val a)) e4 fun a v ⟨t, h1, h2⟩ => ⟨t, h1, .inl (.inl h2)⟩
    exact ⟨D', ps, e1, e2, by rw [e3, e5], e6⟩
/-- xs + ys of lists that are made there -/
theorem e_catL {xs ys : List V} (ha : E C σ H a fun u H' => ∃ l, u = .ref l ∧ H' l = some (.lst xs)) (hb : E C σ H b fun u H' => ∃ l, u = .ref l ∧ H' l = some (.lst ys)) (hz : xs.length + ys.length ≤ 100000) : EN C σ H (.BinOp a .Add b pos) (.lst (xs ++ ys)) :=
  e_opB (r := rCat) (Pb := fun _ u H' => ∃ l, u = .ref l ∧ H' l = some (.lst ys)) (fun X g => op_cat) ha (fun _ _ k _ => hb.mono k) fun x y H1 H2 k1 ⟨l, ex, hl⟩ k2 ⟨l', ey, hl'⟩ => by
    subst ex ey
    exact fun H3 k3 Q q' => ⟨l, l', xs, ys, rfl, rfl, (k2.t k3).xat hl, k3.xat hl', sz_of (by omega), fun p hp => q' _ _ (Ex.new hp) ⟨p, rfl, (k1.t (k2.t k3)).free hp, upd_same⟩⟩
end
section
variable {C : Ctx} {σ : L2.St} {H : Hp} {e o : Expr} {p1 p2 pos : Pos} {Pa : V → Hp → Prop}
/-- tuple(a list made there): a new tuple -/
theorem e_tupleNew {xs : List V} (hm : C.mg "tuple" = none) (ha : E C σ H e fun v H' => ∃ q, v = .ref q ∧ H' q = some (.lst xs)) (hg : C.sc.names.lookup ("tuple" : Str) = some .globalImplicit := by rfl)
    (he : ∀ X, Good C X → starEach [e] X.env = (false, eval e X.env) :: starEach [] X.env := by exact fun _ _ => rfl) : EN C σ H (.Call (.Name "tuple" p1) [e] [] pos) (.tup xs) :=
  e_tyB (rr := fun xs H Q => ∃ p ys, xs = [.ref p] ∧ ((SqL C.K H p ys ∧ ∀ l, H l = none → Q (.ref l) (upd H l (.tup ys))) ∨ (SqT C.K H p ys ∧ Q (.ref p) H))) (fun X g => by rw [← g.K]; exact call_tuple_of) hm (by decide +kernel) (a_1B ha he) (fun vs H1 k1 ⟨x, hv, q, ex, hq⟩ => by
    subst hv ex
    exact fun H2 k2 Q q' => ⟨q, xs, rfl, .inl ⟨.inl (.inl (k2.xat hq)), fun l hl => q' _ _ (Ex.new hl) ⟨l, rfl, (k1.t k2).free hl, upd_same⟩⟩⟩) (hg := hg) (he := he)
end
theorem swapN2x {C : Ctx} {X : Cx} {x y : Str} {px py pt : Pos} {kt : Nat} {e : Expr} (g : Good C X) (k2 : NameKind) (hx : C.sc.names.lookup x = some .cell) (hy : C.sc.names.lookup y = some k2) (n2 : k2 ≠ .free := by decide) :
    swappedStores [.Tuple [.Name x px, .Name y py] kt pt] e X.env = pure none := by
  have hx' := g.kd hx (by decide)
  have hy' := g.kd hy n2
  unfold swappedStores
  cases e with
  | Tuple vs kv pv =>
    by_cases hk : k2 = .local <;> by_cases hl : py.line = px.line <;> simp [hx', hy', hk, hl, Expr.pos, List.filterMap_cons]
  | _ => rfl
end Pm
end
/-! ## Dt -/
section
set_option Elab.async false
set_option linter.all false
set_option maxRecDepth 100000
set_option maxHeartbeats 2000000
namespace Pm
open PySem L2
/-! ### the text by places -/
def top (i : Nat) : Stmt := PySem.Challenge.pw_pairmart_k63_whole_at_any_size.main.body.getD i (.Pass ⟨0, 0, 0, 0⟩)
abbrev dWish (j : Nat) : Stmt := inClass (top 10) j
abbrev dMarket (j : Nat) : Stmt := inClass (top 13) j
abbrev dFair (j : Nat) : Stmt := inClass (top 19) j
abbrev dAsking (j : Nat) : Stmt := inClass (top 21) j
theorem scWish0 : FnScope ["self", "order", "place", "one"] ["self", "order"] (defScope (dWish 0)) := ⟨rfl, rfl, rfl, by decide +kernel, rfl, by decide +kernel, by decide +kernel⟩
theorem scWish1 : FnScope ["self", "one"] ["self", "one"] (defScope (dWish 1)) := ⟨rfl, rfl, rfl, by decide +kernel, rfl, by decide +kernel, by decide +kernel⟩
theorem scWish2 : FnScope ["self", "one"] ["self", "one"] (defScope (dWish 2)) := ⟨rfl, rfl, rfl, by decide +kernel, rfl, by decide +kernel, by decide +kernel⟩
theorem scWish3 : FnScope ["self", "one", "other", "left", "right"] ["self", "one", "other"] (defScope (dWish 3)) := ⟨rfl, rfl, rfl, by decide +kernel, rfl, by decide +kernel, by decide +kernel⟩
theorem scWish4 : FnScope ["self", "one", "place"] ["self", "one"] (defScope (dWish 4)) := ⟨rfl, rfl, rfl, by decide +kernel, rfl, by decide +kernel, by decide +kernel⟩
theorem scWish5 : FnScope ["self", "ones", "listed", "one"] ["self", "ones"] (defScope (dWish 5)) := ⟨rfl, rfl, rfl, by decide +kernel, rfl, by decide +kernel, by decide +kernel⟩
theorem sc11 : FnScope ["order", "many", "found", "one"] ["order", "many"] (defScope (top 11)) := ⟨rfl, rfl, rfl, by decide +kernel, rfl, by decide +kernel, by decide +kernel⟩
theorem scMarket0 : FnScope ["self", "lists", "orders", "seats", "order", "count"] ["self", "lists", "orders", "seats"] (defScope (dMarket 0)) := ⟨rfl, rfl, rfl, by decide +kernel, rfl, by decide +kernel, by decide +kernel⟩
theorem scMarket1 : FnScope ["self"] ["self"] (defScope (dMarket 1)) := ⟨rfl, rfl, rfl, by decide +kernel, rfl, by decide +kernel, by decide +kernel⟩
theorem scMarket2 : FnScope ["self", "asker", "room"] ["self", "asker", "room"] (defScope (dMarket 2)) := ⟨rfl, rfl, rfl, by decide +kernel, rfl, by decide +kernel, by decide +kernel⟩
theorem scMarket3 : FnScope ["self", "found", "asker", "wish", "room"] ["self"] (defScope (dMarket 3)) := ⟨rfl, rfl, rfl, by decide +kernel, rfl, by decide +kernel, by decide +kernel⟩
theorem sc14 : FnScope ["market", "match", "found", "room", "count", "one"] ["market", "match"] (defScope (top 14)) := ⟨rfl, rfl, rfl, by decide +kernel, rfl, by decide +kernel, by decide +kernel⟩
theorem sc15 : FnScope ["match", "room", "asker", "one"] ["match", "room"] (defScope (top 15)) := ⟨rfl, rfl, rfl, by decide +kernel, rfl, by decide +kernel, by decide +kernel⟩
theorem sc16 : FnScope ["market", "match", "asker", "room"] ["market", "match"] (defScope (top 16)) := ⟨rfl, rfl, rfl, by decide +kernel, rfl, by decide +kernel, by decide +kernel⟩
theorem sc18 : FnScope ["words", "found", "word"] ["words"] (defScope (top 18)) := ⟨rfl, rfl, rfl, by decide +kernel, rfl, by decide +kernel, by decide +kernel⟩
theorem scFair0 : FnScope ["self"] ["self"] (defScope (dFair 0)) := ⟨rfl, rfl, rfl, by decide +kernel, rfl, by decide +kernel, by decide +kernel⟩
theorem scFair1 : FnScope ["self", "asker", "room"] ["self", "asker", "room"] (defScope (dFair 1)) := ⟨rfl, rfl, rfl, by decide +kernel, rfl, by decide +kernel, by decide +kernel⟩
theorem scFair2 : FnScope ["self", "room", "asker"] ["self", "room"] (defScope (dFair 2)) := ⟨rfl, rfl, rfl, by decide +kernel, rfl, by decide +kernel, by decide +kernel⟩
theorem scFair3 : FnScope ["self", "asker"] ["self"] (defScope (dFair 3)) := ⟨rfl, rfl, rfl, by decide +kernel, rfl, by decide +kernel, by decide +kernel⟩
theorem scFair4 : FnScope ["self", "asker", "room", "inside"] ["self", "asker"] (defScope (dFair 4)) := ⟨rfl, rfl, rfl, by decide +kernel, rfl, by decide +kernel, by decide +kernel⟩
theorem scFair5 : FnScope ["self", "one"] ["self"] (defScope (dFair 5)) := ⟨rfl, rfl, rfl, by decide +kernel, rfl, by decide +kernel, by decide +kernel⟩
theorem scFair6 : FnScope ["self", "waiting", "here"] ["self"] (defScope (dFair 6)) := ⟨rfl, rfl, rfl, by decide +kernel, rfl, by decide +kernel, by decide +kernel⟩
theorem scFair7 : FnScope ["self", "askers", "rooms", "moved", "ones", "others", "asker", "room", "one"] ["self", "askers", "rooms"] (defScope (dFair 7)) := ⟨rfl, rfl, rfl, by decide +kernel, rfl, by decide +kernel, by decide +kernel⟩
theorem scFair8 : FnScope ["self", "askers", "asker"] ["self", "askers"] (defScope (dFair 8)) := ⟨rfl, rfl, rfl, by decide +kernel, rfl, by decide +kernel, by decide +kernel⟩
theorem scFair9 : FnScope ["self", "before", "words", "word"] ["self", "before"] (defScope (dFair 9)) := ⟨rfl, rfl, rfl, by decide +kernel, rfl, by decide +kernel, by decide +kernel⟩
theorem scFair10 : FnScope ["self", "asker", "rooms", "before"] ["self", "asker", "rooms"] (defScope (dFair 10)) := ⟨rfl, rfl, rfl, by decide +kernel, rfl, by decide +kernel, by decide +kernel⟩
theorem scFair11 : FnScope ["self", "asker", "before", "part", "one"] ["self", "asker"] (defScope (dFair 11)) := ⟨rfl, rfl, rfl, by decide +kernel, rfl, by decide +kernel, by decide +kernel⟩
theorem scFair12 : FnScope ["self", "asker", "rooms", "count", "part", "fresh", "before", "old", "one"] ["self", "asker", "rooms"] (defScope (dFair 12)) := ⟨rfl, rfl, rfl, by decide +kernel, rfl, by decide +kernel, by decide +kernel⟩
theorem scFair13 : FnScope ["self", "room", "askers", "count", "before"] ["self", "room", "askers", "count"] (defScope (dFair 13)) := ⟨rfl, rfl, rfl, by decide +kernel, rfl, by decide +kernel, by decide +kernel⟩
theorem scFair14 : FnScope ["self", "room", "askers", "count"] ["self", "room", "askers", "count"] (defScope (dFair 14)) := ⟨rfl, rfl, rfl, by decide +kernel, rfl, by decide +kernel, by decide +kernel⟩
theorem scFair15 : FnScope ["self", "room", "before", "part"] ["self", "room"] (defScope (dFair 15)) := ⟨rfl, rfl, rfl, by decide +kernel, rfl, by decide +kernel, by decide +kernel⟩
theorem scFair16 : FnScope ["self", "room", "askers", "count", "part", "fresh", "before", "one"] ["self", "room", "askers", "count"] (defScope (dFair 16)) := ⟨rfl, rfl, rfl, by decide +kernel, rfl, by decide +kernel, by decide +kernel⟩
theorem scFair17 : FnScope ["self"] ["self"] (defScope (dFair 17)) := ⟨rfl, rfl, rfl, by decide +kernel, rfl, by decide +kernel, by decide +kernel⟩
theorem scFair18 : FnScope ["self", "lists", "orders", "askers", "rooms", "asker", "room"] ["self"] (defScope (dFair 18)) := ⟨rfl, rfl, rfl, by decide +kernel, rfl, by decide +kernel, by decide +kernel⟩
theorem scFair19 : FnScope ["self", "askers", "rooms", "asker"] ["self"] (defScope (dFair 19)) := ⟨rfl, rfl, rfl, by decide +kernel, rfl, by decide +kernel, by decide +kernel⟩
theorem scAsking0 : FnScope ["self", "market"] ["self", "market"] (defScope (dAsking 0)) := ⟨rfl, rfl, rfl, by decide +kernel, rfl, by decide +kernel, by decide +kernel⟩
theorem scAsking1 : FnScope ["self", "asker"] ["self", "asker"] (defScope (dAsking 1)) := ⟨rfl, rfl, rfl, by decide +kernel, rfl, by decide +kernel, by decide +kernel⟩
theorem scAsking2 : FnScope ["self", "asker", "room", "inside", "refused", "wish", "count"] ["self", "asker"] (defScope (dAsking 2)) := ⟨rfl, rfl, rfl, by decide +kernel, rfl, by decide +kernel, by decide +kernel⟩
theorem scAsking3 : FnScope ["self", "waiting", "asker"] ["self"] (defScope (dAsking 3)) := ⟨rfl, rfl, rfl, by decide +kernel, rfl, by decide +kernel, by decide +kernel⟩
theorem sc22 : FnScope ["market", "asking"] ["market"] (defScope (top 22)) := ⟨rfl, rfl, rfl, by decide +kernel, rfl, by decide +kernel, by decide +kernel⟩
theorem sc24 : FnScope ["market", "match", "found", "asker", "room"] ["market", "match"] (defScope (top 24)) := ⟨rfl, rfl, rfl, by decide +kernel, rfl, by decide +kernel, by decide +kernel⟩
theorem sc25 : FnScope ["market", "match", "asker", "room", "inside", "wish", "other"] ["market", "match", "asker", "room"] (defScope (top 25)) := ⟨rfl, rfl, rfl, by decide +kernel, rfl, by decide +kernel, by decide +kernel⟩
theorem sc26 : FnScope ["market", "match", "paper", "due", "asker", "room", "word", "pair", "inside", "wish", "good", "other"] ["market", "match", "paper"] (defScope (top 26)) := ⟨rfl, rfl, rfl, by decide +kernel, rfl, by decide +kernel, by decide +kernel⟩
theorem sc27 : FnScope ["market", "found", "held", "asker", "room", "refused"] ["market"] (defScope (top 27)) := ⟨rfl, rfl, rfl, by decide +kernel, rfl, by decide +kernel, by decide +kernel⟩
theorem sc28 : FnScope ["market", "match", "paper", "gone", "asker", "room", "holders", "wish", "one", "holder"] ["market", "match", "paper"] (defScope (top 28)) := ⟨rfl, rfl, rfl, by decide +kernel, rfl, by decide +kernel, by decide +kernel⟩
theorem sc29 : FnScope ["market", "gone", "holder", "room", "asker", "other"] ["market", "gone", "holder", "room", "asker"] (defScope (top 29)) := ⟨rfl, rfl, rfl, by decide +kernel, rfl, by decide +kernel, by decide +kernel⟩
theorem sc30 : FnScope ["market", "match", "paper", "found"] ["market", "match"] (defScope (top 30)) := ⟨rfl, rfl, rfl, by decide +kernel, rfl, by decide +kernel, by decide +kernel⟩
theorem sc31 : FnScope ["market", "match", "papers"] ["market", "match", "papers"] (defScope (top 31)) := ⟨rfl, rfl, rfl, by decide +kernel, rfl, by decide +kernel, by decide +kernel⟩
theorem sc33 : FnScope ["word"] ["word"] (defScope (top 33)) := ⟨rfl, rfl, rfl, by decide +kernel, rfl, by decide +kernel, by decide +kernel⟩
theorem sc35 : FnScope ["cell"] ["cell"] (defScope (top 35)) := ⟨rfl, rfl, rfl, by decide +kernel, rfl, by decide +kernel, by decide +kernel⟩
theorem sc36 : FnScope ["dice", "many", "found"] ["dice", "many"] (defScope (top 36)) := ⟨rfl, rfl, rfl, by decide +kernel, rfl, by decide +kernel, by decide +kernel⟩
theorem sc37 : FnScope ["script", "most", "cells", "cell"] ["script", "most"] (defScope (top 37)) := ⟨rfl, rfl, rfl, by decide +kernel, rfl, by decide +kernel, by decide +kernel⟩
theorem sc38 : FnScope ["what"] ["what"] (defScope (top 38)) := ⟨rfl, rfl, rfl, by decide +kernel, rfl, by decide +kernel, by decide +kernel⟩
theorem sc39 : FnScope [] [] (defScope (top 39)) := ⟨rfl, rfl, rfl, by decide +kernel, rfl, by decide +kernel, by decide +kernel⟩
theorem sc40 : FnScope [] [] (defScope (top 40)) := ⟨rfl, rfl, rfl, by decide +kernel, rfl, by decide +kernel, by decide +kernel⟩
theorem sc41 : FnScope ["dice", "words", "turn", "left", "found"] ["dice", "words"] (defScope (top 41)) := ⟨rfl, rfl, rfl, by decide +kernel, rfl, by decide +kernel, by decide +kernel⟩
theorem sc42 : FnScope ["askers", "rooms", "found", "held", "asked_now", "waiting", "one", "room", "lot", "other", "order", "count"] ["askers", "rooms"] (defScope (top 42)) := ⟨rfl, rfl, rfl, by decide +kernel, rfl, by decide +kernel, by decide +kernel⟩
theorem sc43 : FnScope ["askers", "rooms", "found", "one", "wishes", "better", "room", "lot", "order", "count", "other"] ["askers", "rooms", "found"] (defScope (top 43)) := ⟨rfl, rfl, rfl, by decide +kernel, rfl, by decide +kernel, by decide +kernel⟩
theorem sc44 : FnScope ["dice", "fair", "askers", "rooms", "count", "sort", "one", "room", "wishes", "order", "each"] ["dice", "fair", "askers", "rooms"] (defScope (top 44)) := ⟨rfl, rfl, rfl, by decide +kernel, rfl, by decide +kernel, by decide +kernel⟩
theorem sc45 : FnScope ["script", "dice", "step", "fair", "askers", "rooms", "before", "after", "names", "moved", "market", "match", "first", "second", "told_now", "due", "each"] ["script"] (defScope (top 45)) := ⟨rfl, rfl, rfl, by decide +kernel, rfl, by decide +kernel, by decide +kernel⟩
end Pm
end
/-! ## W1 -/
section
set_option Elab.async false
set_option linter.all false
set_option maxRecDepth 100000
set_option maxHeartbeats 2000000
namespace Pm
open PySem L2
/-! ### Wish -/
structure WishAt (K : PySem.W.Frag) (Cw : Addr) (H : Hp) (w : Addr) (ord : List Nat) : Prop where
  ob : ∃ dx t dr kvs, H w = some (.ins Cw dx [("order", .ref t), ("ranks", .ref dr)]) ∧ SqT K H t (ord.map nI) ∧ H dr = some (.dK kvs) ∧ ∀ a : Nat, valV kvs (Sum.inl (a : Int) : L2.Key) = if a ∈ ord then some (nI (ord.idxOf a)) else none
  nd : ord.Nodup
theorem WishAt.ex {G : Gt} {K : PySem.W.Frag} {Cw w : Addr} {H H' : Hp} {ord : List Nat} (h : WishAt K Cw H w ord) (k : Ex G H H') : WishAt K Cw H' w ord := by
  obtain ⟨⟨dx, t, dr, kvs, h1, h2, h3, h4⟩, nd⟩ := h
  exact ⟨⟨dx, t, dr, kvs, k.xat h1, ex_t k h2, k.xat h3, h4⟩, nd⟩
/-- the class as the top left it -/
structure WishC (B : Bs) (Cw : Addr) : Prop where
  cl : Cls B.K Cw
  nO : NoAttr B.K Cw "order"
  nR : NoAttr B.K Cw "ranks"
  len : B.mg "len" = none
  tup : B.mg "tuple" = none
  dict : B.mg "dict" = none
  enum : B.mg "enumerate" = none
  max : B.mg "max" = none
def oV : Option Nat → V
  | none => .non
  | some a => .int a
def nV : Option Nat → V
  | none => .non
  | some a => .int a
def rkW (ord : List Nat) : Option Nat → Option Nat
  | none => some ord.length
  | some a => if a ∈ ord then some (ord.idxOf a) else none
def betterW (ord : List Nat) (a b : Option Nat) : Bool :=
  match rkW ord a, rkW ord b with
  | none, _ => false
  | some _, none => true
  | some i, some j => decide (i < j)
def aheadW (ord : List Nat) (a : Option Nat) : List Nat :=
  match rkW ord a with
  | none => ord
  | some i => ord.take i
def pHas (B : Bs) (Cw : Addr) : Pre := fun vs H S P => ∃ w ord a, vs = [.ref w, nI a] ∧ WishAt B.K Cw H w ord ∧ S = [] ∧ P = fun v _ => v = .bl (decide (a ∈ ord))
def pRank (B : Bs) (Cw : Addr) : Pre := fun vs H S P => ∃ w ord a, vs = [.ref w, oV a] ∧ WishAt B.K Cw H w ord ∧ S = [] ∧ P = fun v _ => v = nV (rkW ord a)
def pBetter (B : Bs) (Cw : Addr) : Pre := fun vs H S P => ∃ w ord a b, vs = [.ref w, oV a, oV b] ∧ WishAt B.K Cw H w ord ∧ S = [] ∧ P = fun v _ => v = .bl (betterW ord a b)
def pAhead (B : Bs) (Cw : Addr) : Pre := fun vs H S P => ∃ w ord a, vs = [.ref w, oV a] ∧ WishAt B.K Cw H w ord ∧ S = [] ∧ P = fun v H' => ∃ t, v = .ref t ∧ SqT B.K H' t ((aheadW ord a).map nI)
def pWorst (B : Bs) (Cw : Addr) : Pre := fun vs H S P => ∃ (w : Addr) (ord : List Nat) (q : Addr) (ns : List Nat), vs = [.ref w, .ref q] ∧ WishAt B.K Cw H w ord ∧ SqT B.K H q (ns.map nI) ∧ ns.length ≤ 1000 ∧ (∃ n ∈ ns, n ∈ ord) ∧ S = [] ∧
  P = fun v _ => ∃ m, v = nI m ∧ m ∈ ns ∧ m ∈ ord ∧ ∀ n ∈ ns, n ∈ ord → ord.idxOf n ≤ ord.idxOf m
def pWishI (B : Bs) (Cw : Addr) : Pre := fun vs H S P => ∃ (p dx q : Addr) (ord : List Nat), vs = [.ref p, .ref q] ∧ H p = some (.ins Cw dx []) ∧ (SqL B.K H q (ord.map nI) ∨ SqT B.K H q (ord.map nI)) ∧ ord.Nodup ∧ ord.length ≤ 1000 ∧ S = [p] ∧
  P = fun v H' => v = .non ∧ WishAt B.K Cw H' p ord
theorem pHas_ex {B : Bs} {Cw : Addr} : PreEx B.G (pHas B Cw) := fun vs H H' S P k ⟨w, ord, a, h1, h2, h3⟩ => ⟨w, ord, a, h1, h2.ex k, h3⟩
theorem pRank_ex {B : Bs} {Cw : Addr} : PreEx B.G (pRank B Cw) := fun vs H H' S P k ⟨w, ord, a, h1, h2, h3⟩ => ⟨w, ord, a, h1, h2.ex k, h3⟩
theorem pBetter_ex {B : Bs} {Cw : Addr} : PreEx B.G (pBetter B Cw) := fun vs H H' S P k ⟨w, ord, a, b, h1, h2, h3⟩ => ⟨w, ord, a, b, h1, h2.ex k, h3⟩
theorem pAhead_ex {B : Bs} {Cw : Addr} : PreEx B.G (pAhead B Cw) := fun vs H H' S P k ⟨w, ord, a, h1, h2, h3⟩ => ⟨w, ord, a, h1, h2.ex k, h3⟩
theorem pWorst_ex {B : Bs} {Cw : Addr} : PreEx B.G (pWorst B Cw) := fun vs H H' S P k ⟨w, ord, q, ns, h1, h2, h3, h4⟩ => ⟨w, ord, q, ns, h1, h2.ex k, ex_t k h3, h4⟩
theorem pWishI_ex {B : Bs} {Cw : Addr} : PreEx B.G (pWishI B Cw) := fun vs H H' S P k ⟨p, dx, q, ord, h1, h2, h3, h4⟩ => ⟨p, dx, q, ord, h1, k.xat h2, h3.imp (ex_l k) (ex_t k), h4⟩
theorem nV_non (o : Option Nat) : decide (nV o = .non) = o.isNone := by cases o <;> rfl
theorem oV_non (o : Option Nat) : decide (oV o = .non) = o.isNone := by cases o <;> rfl
section
variable {B : Bs} {Cw : Addr} (TW : WishC B Cw)
include TW
theorem ok_has {f : Addr} {fd : FuncData} {cdv : Value} (F : FunC B.K "has" "Wish.has" (dWish 1) f fd cdv) : FnOk B.P B.w B.K B.mg B.base CX0 1 f fd ["self", "one"] (spM B.G (pHas B Cw)) := by
  refine def_ok F scWish1 (fun vs H SS P ⟨w, ord, a, e, _⟩ => by rw [e]; rfl) fun vs H SS P D ht hp hD _ => ?_
  obtain ⟨w, ord, a, rfl, hw, rfl, rfl⟩ := hp
  obtain ⟨dx, t, dr, kvs, h1, h2, h3, h4⟩ := hw.ob
  refine s_ret (e_k (c_din (d := dr) (ev 1) (e_fld (ev 0) h1 TW.cl TW.nR rfl) (.inl ⟨kvs, Sum.inl (a : Int), .inl h3, rfl, rfl⟩))) fun v H2 k e => hD _ _ k ?_
  rw [e, h4]
  by_cases z : a ∈ ord <;> simp [z]
theorem ok_rank {f : Addr} {fd : FuncData} {cdv : Value} (F : FunC B.K "rank" "Wish.rank" (dWish 2) f fd cdv) : FnOk B.P B.w B.K B.mg B.base CX0 1 f fd ["self", "one"] (spM B.G (pRank B Cw)) := by
  refine def_ok F scWish2 (fun vs H SS P ⟨w, ord, a, e, _⟩ => by rw [e]; rfl) fun vs H SS P D ht hp hD _ => ?_
  obtain ⟨w, ord, a, rfl, hw, rfl, rfl⟩ := hp
  obtain ⟨dx, t, dr, kvs, h1, h2, h3, h4⟩ := hw.ob
  cases a with
  | none =>
    refine s_ret (e_ifT (t_k ((c_isN (ev 1)).is rfl)) (e_lenSeq TW.len (e_fld (ev 0) h1 TW.cl TW.nO rfl) (.inr h2))) fun v H2 k e => hD _ _ k ?_
    rw [e, List.length_map]
    rfl
  | some a =>
    refine s_ret (e_ifF (t_k ((c_isN (ev 1)).is rfl)) (e_get1 (d := dr) (e_fld (ev 0) h1 TW.cl TW.nR rfl) (ev 1) (.inl ⟨kvs, Sum.inl (a : Int), .inl h3, rfl, rfl⟩))) fun v H2 k e => hD _ _ k ?_
    rw [e, h4]
    unfold rkW
    by_cases z : a ∈ ord <;> simp [z, nV]
theorem ok_better {f : Addr} {fd : FuncData} {cdv : Value} (F : FunC B.K "better" "Wish.better" (dWish 3) f fd cdv) (GR : GM B 1 Cw "rank" (pRank B Cw)) : FnOk B.P B.w B.K B.mg B.base CX0 2 f fd ["self", "one", "other"] (spM B.G (pBetter B Cw)) := by
  refine def_ok F scWish3 (fun vs H SS P ⟨w, ord, a, b, e, _⟩ => by rw [e]; rfl) fun vs H SS P D ht hp hD _ => ?_
  obtain ⟨w, ord, a, b, rfl, hw, rfl, rfl⟩ := hp
  obtain ⟨dx, t, dr, kvs, h1, h2, h3, h4⟩ := id hw.ob
  refine s_par (PA := fun vs _ => vs = [nV (rkW ord a), nV (rkW ord b)]) 3 4 (a_cons (e_meth GR (Nat.le_refl _) ht (ev 0) h1 rfl (a_1 (ev 1)) ⟨w, ord, a, rfl, hw, rfl, rfl⟩) (a_1 (e_meth GR (Nat.le_refl _) ht (ev 0) h1 rfl (a_1 (ev 2)) ⟨w, ord, b, rfl, hw, rfl, rfl⟩))) fun vs H2 k2 e => ⟨_, _, e, ?_⟩
  have fin : ∀ H3 v, Ex B.G H2 H3 → v = .bl (betterW ord a b) → D.rt v H3 := fun H3 v k e => hD _ _ (k2.t k) e
  cases ha : rkW ord a with
  | none =>
    refine s_ret (EK.is (e_and (t := false) (e_k ((c_notN (ev 3)).is (s' := false) rfl)) (fun z => nomatch z)) rfl) fun v H3 k e => fin _ _ k ?_
    rw [e]
    simp [betterW, ha]
  | some i =>
    cases hb : rkW ord b with
    | none =>
      refine s_ret (e_andT (e_k ((c_notN (ev 3)).is (s' := true) rfl)) (e_or (t := false) (e_k ((c_isN (ev 4)).is (s' := true) rfl)) (fun z => nomatch z))) fun v H3 k e => fin _ _ k ?_
      rw [e]
      simp [betterW, ha, hb]
    | some j =>
      refine s_ret (e_andT (e_k ((c_notN (ev 3)).is (s' := true) rfl)) (e_or (e_k ((c_isN (ev 4)).is (s' := false) rfl)) (fun _ => e_k (c_lt (i := i) (j := j) (ev 3) (ev 4))))) fun v H3 k e => fin _ _ k ?_
      rw [e]
      simp [betterW, ha, hb]
theorem ok_ahead {f : Addr} {fd : FuncData} {cdv : Value} (F : FunC B.K "ahead_of" "Wish.ahead_of" (dWish 4) f fd cdv) (GR : GM B 1 Cw "rank" (pRank B Cw)) : FnOk B.P B.w B.K B.mg B.base CX0 2 f fd ["self", "one"] (spM B.G (pAhead B Cw)) := by
  refine def_ok F scWish4 (fun vs H SS P ⟨w, ord, a, e, _⟩ => by rw [e]; rfl) fun vs H SS P D ht hp hD _ => ?_
  obtain ⟨w, ord, a, rfl, hw, rfl, rfl⟩ := hp
  obtain ⟨dx, t, dr, kvs, h1, h2, h3, h4⟩ := id hw.ob
  refine s_setV (i := 2) (e_meth GR (Nat.le_refl _) ht (ev 0) h1 rfl (a_1 (ev 1)) ⟨w, ord, a, rfl, hw, rfl, rfl⟩) ?_
  cases ha : rkW ord a with
  | none =>
    refine s_ret (e_ifT (t_k ((c_isN (ev 2)).is rfl)) (e_fld (ev 0) h1 TW.cl TW.nO rfl)) fun v H2 k e => hD _ _ k ⟨t, e, ?_⟩
    unfold aheadW
    rw [ha]
    exact ex_t k h2
  | some i =>
    refine s_ret (e_ifF (t_k ((c_isN (ev 2)).is rfl)) (e_slT (e_fld (ev 0) h1 TW.cl TW.nO rfl) h2 o_none (o_some (ev 2)))) fun v H2 k e => hD _ _ k ?_
    obtain ⟨q, e1, e2⟩ := e
    refine ⟨q, e1, ?_⟩
    unfold aheadW
    rw [ha]
    rw [← cutV_take]
    exact e2
theorem ok_worst {f : Addr} {fd : FuncData} {P c : Addr} (F : FunC B.K "worst" "Wish.worst" (dWish 5) f fd (.ref c)) (TB : LamX.TabB B.base B.mg c P) (hmT : (P, ("Wish.worst.<locals>.<lambda>" : Str)) ∈ B.G) (hu : ∀ p ∈ B.G, p.1 = P → p.2 = ("Wish.worst.<locals>.<lambda>" : Str)) :
    FnOk B.P B.w B.K B.mg B.base CX0 4 f fd ["self", "ones"] (spM B.G (pWorst B Cw)) := by
  refine def_ok F scWish5 (fun vs H SS P ⟨w, ord, q, ns, e, _⟩ => by rw [e]; rfl) fun vs H SS P D ht hp hD _ => ?_
  obtain ⟨w, ord, q, ns, rfl, hw, hq, hlen, ⟨n0, hn0, hn0'⟩, rfl, rfl⟩ := hp
  obtain ⟨dx, t, dr, kvs, h1, h2, h3, h4⟩ := id hw.ob
  refine s_setLc (i := 2) [("one", 3)] (lc_V (as := ns) (ev := nI) (ei_tup (ev 1) hq) (fun H1 k => ex_t k hq) (fun n => decide (n ∈ ord)) nI (by omega) fun n H1 hn k => ⟨_, eg_name 3, rfl, ?_, fun _ => ev 3⟩) fun v H2 k2 e2 => ?_
  · refine ts_one (t_k ((c_din (d := dr) (ev 3) (e_fld (ev 0) (k.xat h1) TW.cl TW.nR rfl) (.inl ⟨kvs, Sum.inl (n : Int), .inl (k.xat h3), rfl, rfl⟩)).is ?_))
    rw [h4]
    by_cases z : n ∈ ord <;> simp [z]
  · obtain ⟨l, rfl, hl, hl2⟩ := e2
    have hne : ns.filter (fun n => decide (n ∈ ord)) ≠ [] := fun z => by
      have : n0 ∈ ns.filter (fun n => decide (n ∈ ord)) := List.mem_filter.mpr ⟨hn0, by simpa using hn0'⟩
      rw [z] at this
      cases this
    refine s_ret (e_ifF (t_k ((c_eqNilN (ev 2) hl2).is (by simpa using hne))) (e_maxRk (i := 0) (ns := (ns.filter (fun n => decide (n ∈ ord))).map Int.ofNat) (fun n => (ord.idxOf n.toNat : Nat)) 0 (Nat.le_refl _) TW.max ⟨TB, rfl, rfl, hmT, hu⟩ (k2.tok ht) (ev 2) (.inl (.inl (by rw [List.map_map]; exact hl2))) ?_ rfl (k2.xat h1) TW.cl TW.nR rfl (k2.xat h3) ?_)) fun v H3 k3 e3 => hD _ _ (k2.t k3) ?_
    · rw [List.length_map]
      exact List.length_pos_iff.mpr hne
    · intro n hn
      obtain ⟨n', hn', rfl⟩ := List.mem_map.mp hn
      show valV kvs (Sum.inl (n' : Int)) = _
      rw [h4, if_pos (by simpa using (List.mem_filter.mp hn').2)]
      rfl
    · obtain ⟨m, e, hm, hle⟩ := e3
      obtain ⟨m', hm2, rfl⟩ := List.mem_map.mp hm
      have hm' := List.mem_filter.mp hm2
      refine ⟨m', e, hm'.1, by simpa using hm'.2, fun n hn ho => ?_⟩
      have := hle (Int.ofNat n) (List.mem_map.mpr ⟨n, List.mem_filter.mpr ⟨hn, by simpa using ho⟩, rfl⟩)
      have : ((ord.idxOf n : Nat) : Int) ≤ ((ord.idxOf m' : Nat) : Int) := this
      omega
theorem ok_wishI {f : Addr} {fd : FuncData} {cdv : Value} (F : FunC B.K "__init__" "Wish.__init__" (dWish 0) f fd cdv) : FnOk B.P B.w B.K B.mg B.base CX0 2 f fd ["self", "order"] (spM B.G (pWishI B Cw)) := by
  refine def_ok F scWish0 (fun vs H SS P ⟨p, dx, q, ord, e, _⟩ => by rw [e]; rfl) fun vs H SS P D ht hp _ hN => ?_
  obtain ⟨p, dx, q, ord, rfl, h1, hq, hnd, hlen, rfl, rfl⟩ := hp
  refine s_fld (e_tupleOf TW.tup (ev 1) hq) (fun v H1 k _ => ev 0) h1 TW.cl TW.nO (by decide) fun v H1 H2 k1 ⟨t, e1, ht1⟩ k2 h2 => ?_
  subst e1
  have ht2 : SqT B.K H2 t (ord.map nI) := kp_t1 k2 (k1.xat h1) ht1 (by simp) (by simp)
  refine s_fld (Pa := fun v H' => ∃ d, v = .ref d ∧ H2 d = none ∧ H' d = some (.dK (ord.zipIdx.map fun p => ((Sum.inl (p.1 : Int) : L2.Key), nI p.2)))) ?_ (fun v H1 k _ => ev 0) h2 TW.cl TW.nR (by show 1 < 1000; decide) fun v H3 H4 k3 ⟨d, e3, _, hd⟩ k4 h4 => ?_
  · have e0 : mergeK [] (ord.zipIdx.map fun p => ((Sum.inl (p.1 : Int) : L2.Key), nI p.2)) = ord.zipIdx.map fun p => ((Sum.inl (p.1 : Int) : L2.Key), nI p.2) := by
      rw [mergeK_nodup (by rw [List.nil_append]; exact zipIdx_kvs_nd hnd 0), List.nil_append]
    rw [← e0]
    refine e_dictPB TW.dict (e_lc [("place", 2), ("one", 3)] (lc_R (p := fun _ => true) (ei_enumT (ev := nI) TW.enum (e_fld (ev 0) h2 TW.cl TW.nO rfl) ht2) (fun H1 k => ex_t k ht2) (fun _ a v H' => ∃ t, v = .ref t ∧ H' t = some (.tup [nI a.1, nI a.2])) ?_ (by rw [List.length_zipIdx]; omega) fun D' a x H1 zs ha k hD hD1 ⟨T, e, hT⟩ => ?_)) fun x H1 k ⟨D', ys, e1, e2, e3, e4⟩ => ?_
    · rintro D' a v H1 H2 zs hz kk ⟨t, e, ht⟩
      exact ⟨t, e, kk.at1 hz ht (by simp)⟩
    · subst e
      refine ⟨_, eg_tup2 2 3 (.inl (.inl hT)), rfl, ts_nil, fun _ => EK.imp (e_tup (a_cons (ev 3) (a_1 (ev 2)))) fun v H2 k2 ⟨t, e1, e2, e3⟩ => ⟨t, e1, e3⟩⟩
    · subst e1
      rw [List.filter_eq_self.mpr (fun _ _ => rfl)] at e4
      obtain ⟨ps, e5, e6⟩ := paired_all (G := fun p kv => SqT B.K H1 p [kV kv.1, kv.2]) (g := fun p : Nat × Nat => ((Sum.inl (p.1 : Int) : L2.Key), nI p.2)) e4 fun a v ⟨t, h1, h2⟩ => ⟨t, h1, .inl (.inl h2)⟩
      exact ⟨D', ps, rfl, by rw [e3, e5], e6⟩
  · subst e3
    refine s_nil fun H5 k5 => hN _ _ ?_ ⟨rfl, ?_, hnd⟩
    · exact ((Kp.pre k1 k2).trans (Kp.pre k3 k4)).then k5
    · have h3 := k3.xat h2
      refine ⟨dx, t, d, _, k5.xat h4, ex_t k5 (kp_t1 k4 h3 (ex_t k3 ht2) (by simp) (by simp)), k5.xat (k4.at1 h3 hd (by simp)), fun a => ?_⟩
      unfold valV
      rw [find_zipIdx]
      by_cases z : a ∈ ord <;> simp [z]
end
end Pm
end
/-! ## W2 -/
section
set_option Elab.async false
set_option linter.all false
set_option maxRecDepth 100000
set_option maxHeartbeats 2000000
namespace Pm
open PySem L2
/-! ### check_list, Market -/
structure Mkt where
  A : List (List Nat)
  R : List (List Nat)
  q : List Nat
namespace Mkt
def La (M : Mkt) (a : Nat) : List Nat := M.A.getD a []
def Lr (M : Mkt) (r : Nat) : List Nat := M.R.getD r []
def qs (M : Mkt) (r : Nat) : Nat := M.q.getD r 0
def likes (M : Mkt) (a r : Nat) : Bool := decide (r ∈ M.La a) && decide (a ∈ M.Lr r)
def row (M : Mkt) (a : Nat) : List (Nat × Nat) := ((M.La a).filter fun r => decide (a ∈ M.Lr r)).map fun r => (a, r)
def pairs (M : Mkt) : List (Nat × Nat) := (List.range M.A.length).flatMap M.row
structure Ok (M : Mkt) : Prop where
  an : ∀ l ∈ M.A, l.Nodup ∧ (∀ r ∈ l, r < M.R.length) ∧ l.length ≤ 100
  rn : ∀ l ∈ M.R, l.Nodup ∧ (∀ a ∈ l, a < M.A.length) ∧ l.length ≤ 100
  ql : M.q.length = M.R.length
  sa : M.A.length ≤ 100
  sr : M.R.length ≤ 100
end Mkt
structure MktAt (B : Bs) (Cw Cm : Addr) (H : Hp) (m : Addr) (M : Mkt) : Prop where
  ob : ∃ dx la lr t was wrs, H m = some (.ins Cm dx [("askers", .ref la), ("rooms", .ref lr), ("seats", .ref t)]) ∧ H la = some (.lst was) ∧ H lr = some (.lst wrs) ∧ SqT B.K H t (M.q.map nI) ∧
    Paired (fun o v => ∃ w, v = .ref w ∧ WishAt B.K Cw H w o) M.A was ∧ Paired (fun o v => ∃ w, v = .ref w ∧ WishAt B.K Cw H w o) M.R wrs
  ok : M.Ok
structure MktC (B : Bs) (Cw Cm : Addr) : Prop where
  cl : Cls B.K Cm
  nA : NoAttr B.K Cm "askers"
  nR : NoAttr B.K Cm "rooms"
  nS : NoAttr B.K Cm "seats"
  len : B.mg "len" = none
  tup : B.mg "tuple" = none
  dict : B.mg "dict" = none
  enum : B.mg "enumerate" = none
  any : B.mg "any" = none
theorem MktAt.ex {B : Bs} {Cw Cm m : Addr} {H H' : Hp} {M : Mkt} (h : MktAt B Cw Cm H m M) (k : Ex B.G H H') : MktAt B Cw Cm H' m M := by
  obtain ⟨⟨dx, la, lr, t, was, wrs, h1, h2, h3, h4, h5, h6⟩, ok⟩ := h
  exact ⟨⟨dx, la, lr, t, was, wrs, k.xat h1, k.xat h2, k.xat h3, ex_t k h4, paired_imp h5 fun o v ⟨w, e, z⟩ => ⟨w, e, z.ex k⟩, paired_imp h6 fun o v ⟨w, e, z⟩ => ⟨w, e, z.ex k⟩⟩, ok⟩
/-- where an asker's, a room's wish stands -/
def AskW (Cm : Addr) (H : Hp) (m : Addr) (i : Nat) (w : Addr) : Prop := ∃ dx la lr t was, H m = some (.ins Cm dx [("askers", .ref la), ("rooms", .ref lr), ("seats", .ref t)]) ∧ H la = some (.lst was) ∧ was[i]? = some (.ref w)
def RoomW (Cm : Addr) (H : Hp) (m : Addr) (i : Nat) (w : Addr) : Prop := ∃ dx la lr t was, H m = some (.ins Cm dx [("askers", .ref la), ("rooms", .ref lr), ("seats", .ref t)]) ∧ H lr = some (.lst was) ∧ was[i]? = some (.ref w)
theorem AskW.ex {G : Gt} {Cm m w : Addr} {i : Nat} {H H' : Hp} (h : AskW Cm H m i w) (k : Ex G H H') : AskW Cm H' m i w := by
  obtain ⟨dx, la, lr, t, was, h1, h2, h3⟩ := h
  exact ⟨dx, la, lr, t, was, k.xat h1, k.xat h2, h3⟩
theorem RoomW.ex {G : Gt} {Cm m w : Addr} {i : Nat} {H H' : Hp} (h : RoomW Cm H m i w) (k : Ex G H H') : RoomW Cm H' m i w := by
  obtain ⟨dx, la, lr, t, was, h1, h2, h3⟩ := h
  exact ⟨dx, la, lr, t, was, k.xat h1, k.xat h2, h3⟩
theorem MktAt.asker {B : Bs} {Cw Cm m : Addr} {H : Hp} {M : Mkt} (h : MktAt B Cw Cm H m M) {i : Nat} (hi : i < M.A.length) : ∃ w, AskW Cm H m i w ∧ WishAt B.K Cw H w (M.La i) := by
  obtain ⟨dx, la, lr, t, was, wrs, h1, h2, h3, h4, h5, h6⟩ := h.ob
  have hg : M.A[i]? = some (M.La i) := by
    unfold Mkt.La
    rw [List.getD_eq_getElem?_getD, List.getElem?_eq_getElem hi]
    rfl
  obtain ⟨v, h7, w, rfl, hw⟩ := paired_get h5 hg
  exact ⟨w, ⟨dx, la, lr, t, was, h1, h2, h7⟩, hw⟩
theorem MktAt.room {B : Bs} {Cw Cm m : Addr} {H : Hp} {M : Mkt} (h : MktAt B Cw Cm H m M) {i : Nat} (hi : i < M.R.length) : ∃ w, RoomW Cm H m i w ∧ WishAt B.K Cw H w (M.Lr i) := by
  obtain ⟨dx, la, lr, t, was, wrs, h1, h2, h3, h4, h5, h6⟩ := h.ob
  have hg : M.R[i]? = some (M.Lr i) := by
    unfold Mkt.Lr
    rw [List.getD_eq_getElem?_getD, List.getElem?_eq_getElem hi]
    rfl
  obtain ⟨v, h7, w, rfl, hw⟩ := paired_get h6 hg
  exact ⟨w, ⟨dx, la, lr, t, wrs, h1, h3, h7⟩, hw⟩
section
variable {B : Bs} {Cw Cm : Addr} {C : Ctx} {σ : L2.St} {H : Hp} {a b : Expr} {m : Addr} {M : Mkt} {p1 p2 : Pos}
/-- market.askers[i], market.rooms[j], market.seats[j] -/
theorem e_asker (TM : MktC C.toBs Cw Cm) {i : Nat} {w : Addr} (h : AskW Cm H m i w) (ha : EV C σ H a (.ref m)) (hb : EV C σ H b (nI i)) (hx : ∀ X, Good C X → attributeBase a "askers" X.env (eval a X.env) = eval a X.env := by exact fun _ _ => rfl) (hp : PlainIx b := by exact fun _ _ => rfl) :
    EV C σ H (.Subscript (.Attribute a "askers" p1) b p2) (.ref w) := by
  obtain ⟨dx, la, lr, t, was, h1, h2, h3⟩ := h
  exact e_ixL (e_fld ha h1 TM.cl TM.nA rfl hx) hb (.inl (.inl h2)) (atI_nat h3) hp
theorem e_room (TM : MktC C.toBs Cw Cm) {i : Nat} {w : Addr} (h : RoomW Cm H m i w) (ha : EV C σ H a (.ref m)) (hb : EV C σ H b (nI i)) (hx : ∀ X, Good C X → attributeBase a "rooms" X.env (eval a X.env) = eval a X.env := by exact fun _ _ => rfl) (hp : PlainIx b := by exact fun _ _ => rfl) :
    EV C σ H (.Subscript (.Attribute a "rooms" p1) b p2) (.ref w) := by
  obtain ⟨dx, la, lr, t, was, h1, h2, h3⟩ := h
  exact e_ixL (e_fld ha h1 TM.cl TM.nR rfl hx) hb (.inl (.inl h2)) (atI_nat h3) hp
theorem e_seat (TM : MktC C.toBs Cw Cm) (h : MktAt C.toBs Cw Cm H m M) {i : Nat} (hi : i < M.R.length) (ha : EV C σ H a (.ref m)) (hb : EV C σ H b (nI i)) (hx : ∀ X, Good C X → attributeBase a "seats" X.env (eval a X.env) = eval a X.env := by exact fun _ _ => rfl) (hp : PlainIx b := by exact fun _ _ => rfl) :
    EV C σ H (.Subscript (.Attribute a "seats" p1) b p2) (nI (M.qs i)) := by
  obtain ⟨dx, la, lr, t, was, wrs, h1, h2, h3, h4, h5, h6⟩ := h.ob
  refine e_ixT (e_fld ha h1 TM.cl TM.nS rfl hx) hb h4 (atI_nat ?_) hp
  have hi' : i < M.q.length := by rw [h.ok.ql]; exact hi
  unfold Mkt.qs
  rw [List.getD_eq_getElem?_getD, List.getElem?_map, List.getElem?_eq_getElem hi']
  rfl
theorem e_lenR (TM : MktC C.toBs Cw Cm) (h : MktAt C.toBs Cw Cm H m M) (ha : EV C σ H a (.ref m)) {p3 : Pos} (hx : ∀ X, Good C X → attributeBase a "rooms" X.env (eval a X.env) = eval a X.env := by exact fun _ _ => rfl) (hg : C.sc.names.lookup ("len" : Str) = some .globalImplicit := by rfl) :
    EV C σ H (.Call (.Name "len" p1) [.Attribute a "rooms" p2] [] p3) (nI M.R.length) := by
  obtain ⟨dx, la, lr, t, was, wrs, h1, h2, h3, h4, h5, h6⟩ := h.ob
  exact (e_lenSeq TM.len (e_fld ha h1 TM.cl TM.nR rfl hx) (.inl (.inl (.inl h3))) hg (fun _ _ => rfl)).is (by rw [paired_len h6])
end
def pCheckList (B : Bs) : Pre := fun vs H S P => ∃ (q : Addr) (ord : List Nat) (n : Nat), vs = [.ref q, nI n] ∧ (SqL B.K H q (ord.map nI) ∨ SqT B.K H q (ord.map nI)) ∧ ord.Nodup ∧ ord.length ≤ 100 ∧ (∀ a ∈ ord, a < n) ∧ S = [] ∧ P = fun v H' => ∃ t, v = .ref t ∧ SqT B.K H' t (ord.map nI)
theorem pCheckList_ex {B : Bs} : PreEx B.G (pCheckList B) := fun vs H H' S P k ⟨q, ord, n, h1, h2, h3⟩ => ⟨q, ord, n, h1, h2.imp (ex_l k) (ex_t k), h3⟩
def pSize (B : Bs) (Cw Cm : Addr) : Pre := fun vs H S P => ∃ m M, vs = [.ref m] ∧ MktAt B Cw Cm H m M ∧ S = [] ∧ P = fun v _ => v = nI M.A.length
def pLikes (B : Bs) (Cw Cm : Addr) : Pre := fun vs H S P => ∃ m M a r, vs = [.ref m, nI a, nI r] ∧ MktAt B Cw Cm H m M ∧ a < M.A.length ∧ r < M.R.length ∧ S = [] ∧ P = fun v _ => v = .bl (M.likes a r)
def pPairs (B : Bs) (Cw Cm : Addr) : Pre := fun vs H S P => ∃ m M, vs = [.ref m] ∧ MktAt B Cw Cm H m M ∧ S = [] ∧ P = fun v H' => ∃ t vs, v = .ref t ∧ SqT B.K H' t vs ∧ Paired (PrH H') M.pairs vs
def pMktI (B : Bs) (Cw Cm : Addr) : Pre := fun vs H S P => ∃ (p dx la lr ls : Addr) (M : Mkt) (vas vrs : List V), vs = [.ref p, .ref la, .ref lr, .ref ls] ∧ H p = some (.ins Cm dx []) ∧ SqL B.K H la vas ∧ Paired (fun o v => ∃ q, v = .ref q ∧ SqL B.K H q (o.map nI)) M.A vas ∧
  SqL B.K H lr vrs ∧ Paired (fun o v => ∃ q, v = .ref q ∧ SqL B.K H q (o.map nI)) M.R vrs ∧ SqL B.K H ls (M.q.map nI) ∧ M.Ok ∧ S = [p] ∧ P = fun v H' => v = .non ∧ MktAt B Cw Cm H' p M
theorem pSize_ex {B : Bs} {Cw Cm : Addr} : PreEx B.G (pSize B Cw Cm) := fun vs H H' S P k ⟨m, M, h1, h2, h3⟩ => ⟨m, M, h1, h2.ex k, h3⟩
theorem pLikes_ex {B : Bs} {Cw Cm : Addr} : PreEx B.G (pLikes B Cw Cm) := fun vs H H' S P k ⟨m, M, a, r, h1, h2, h3⟩ => ⟨m, M, a, r, h1, h2.ex k, h3⟩
theorem pPairs_ex {B : Bs} {Cw Cm : Addr} : PreEx B.G (pPairs B Cw Cm) := fun vs H H' S P k ⟨m, M, h1, h2, h3⟩ => ⟨m, M, h1, h2.ex k, h3⟩
theorem pMktI_ex {B : Bs} {Cw Cm : Addr} : PreEx B.G (pMktI B Cw Cm) := fun vs H H' S P k ⟨p, dx, la, lr, ls, M, vas, vrs, h1, h2, h3, h4, h5, h6, h7, h8⟩ =>
  ⟨p, dx, la, lr, ls, M, vas, vrs, h1, k.xat h2, ex_l k h3, paired_imp h4 fun o v ⟨q, e, z⟩ => ⟨q, e, ex_l k z⟩, ex_l k h5, paired_imp h6 fun o v ⟨q, e, z⟩ => ⟨q, e, ex_l k z⟩, ex_l k h7, h8⟩
section
variable {B : Bs} {Cw Cm : Addr} (TM : MktC B Cw Cm)
include TM
theorem ok_checkList {f : Addr} {fd : FuncData} {P c : Addr} (F : FunC B.K "check_list" "check_list" (top 11) f fd (.ref c)) (TB : LamX.TabB B.base B.mg c P) (hmT : (P, ("check_list.<locals>.<genexpr>" : Str)) ∈ B.G) (hu : ∀ p ∈ B.G, p.1 = P → p.2 = ("check_list.<locals>.<genexpr>" : Str)) :
    FnOk B.P B.w B.K B.mg B.base CX0 4 f fd ["order", "many"] (spM B.G (pCheckList B)) := by
  refine def_ok F sc11 (fun vs H SS P ⟨q, ord, n, e, _⟩ => by rw [e]; rfl) fun vs H SS P D ht hp hD _ => ?_
  obtain ⟨q, ord, n, rfl, hq, hnd, hlen, hlt, rfl, rfl⟩ := hp
  refine s_set (i := 2) (e_tupleOf TM.tup (ev 0) hq) fun v H1 k1 ⟨t, e1, ht1⟩ => ?_
  subst e1
  have hm : mergeK [] (ord.map fun a : Nat => ((Sum.inl (a : Int) : L2.Key), V.int 1)) = ord.map fun a : Nat => ((Sum.inl (a : Int) : L2.Key), V.int 1) := by
    rw [mergeK_nodup, List.nil_append]
    rw [List.nil_append, List.map_map]
    exact List.Pairwise.map _ (fun a b hab z => hab (by have := Sum.inl.inj z; omega)) hnd
  refine s_if (b := false) (t_k (CM.is (c_ne (x := nI ord.length) (y := nI ord.length) rfl (e_lenDB TM.len (e_dictOf TM.dict (e_lc [("one", 3)] (lc_pairs (as := ord) (ei_tup (ev 2) ht1) (fun H2 k => ex_t k ht1) (fun _ => true) (fun a : Nat => (Sum.inl (a : Int) : L2.Key)) (fun _ => V.int 1) (by omega) fun a x H2 ha k e => ?_))) fun x H2 k ⟨d, e1, e2, e3⟩ => ⟨d, _, e1, e3, ?_⟩) (EK.is (e_lenSeq TM.len (ev 2) (.inr ht1)) (by rw [List.length_map]))) (by simp))) (fun z => nomatch z) fun _ => ?_
  · subst e
    exact ⟨_, eg_name 3, rfl, ts_nil, fun _ => ⟨ev 3, e_int⟩⟩
  · rw [List.filter_eq_self.mpr (fun _ _ => rfl), hm, List.length_map]
  refine s_next ?_
  refine s_if (b := false) (T.is (t_val (e_any (as := ord) (j := 3) (fun a => !(decide ((0 : Int) ≤ a) && decide ((a : Int) < n))) 0 (Nat.le_refl _) TM.any ⟨TB, rfl, rfl, hmT, hu⟩ (ei_tup (ev 2) ht1) (fun H2 k => ex_t k ht1) (k1.tok ht) fun a x H2 ha k e => ?_)) ?_) (fun z => nomatch z) fun _ => ?_
  · subst e
    exact e_not (e_chain (fun X _ => op_le) (fun X _ => op_lt) e_int (ev 3) (ev 1))
  · rw [List.any_eq_false]
    intro a ha
    have := hlt a ha
    simp
    omega
  refine s_next (s_ret (ev 2) fun v H3 k e => hD _ _ (k1.t k) ⟨t, e, ex_t k ht1⟩)
theorem ok_size {f : Addr} {fd : FuncData} {cdv : Value} (F : FunC B.K "size" "Market.size" (dMarket 1) f fd cdv) : FnOk B.P B.w B.K B.mg B.base CX0 1 f fd ["self"] (spM B.G (pSize B Cw Cm)) := by
  refine def_ok F scMarket1 (fun vs H SS P ⟨m, M, e, _⟩ => by rw [e]; rfl) fun vs H SS P D ht hp hD _ => ?_
  obtain ⟨m, M, rfl, hM, rfl, rfl⟩ := hp
  obtain ⟨dx, la, lr, t, was, wrs, h1, h2, h3, h4, h5, h6⟩ := hM.ob
  exact s_ret (e_lenSeq TM.len (e_fld (ev 0) h1 TM.cl TM.nA rfl) (.inl (.inl (.inl h2)))) fun v H3 k e => hD _ _ k (by rw [e, paired_len h5])
theorem ok_likes {f : Addr} {fd : FuncData} {cdv : Value} (F : FunC B.K "likes" "Market.likes" (dMarket 2) f fd cdv) (GH : GM B 1 Cw "has" (pHas B Cw)) : FnOk B.P B.w B.K B.mg B.base CX0 2 f fd ["self", "asker", "room"] (spM B.G (pLikes B Cw Cm)) := by
  refine def_ok F scMarket2 (fun vs H SS P ⟨m, M, a, r, e, _⟩ => by rw [e]; rfl) fun vs H SS P D ht hp hD _ => ?_
  obtain ⟨m, M, a, r, rfl, hM, ha, hr, rfl, rfl⟩ := hp
  obtain ⟨wa, h1, h2⟩ := hM.asker ha
  obtain ⟨wr, h3, h4⟩ := hM.room hr
  obtain ⟨dx1, t1, dr1, kvs1, o1, _⟩ := id h2.ob
  obtain ⟨dx2, t2, dr2, kvs2, o2, _⟩ := id h4.ob
  exact s_ret (e_and (e_meth GH (Nat.le_refl _) ht (e_asker TM h1 (ev 0) (ev 1)) o1 rfl (a_1 (ev 2)) ⟨wa, _, r, rfl, h2, rfl, rfl⟩) fun _ => e_meth GH (Nat.le_refl _) ht (e_room TM h3 (ev 0) (ev 2)) o2 rfl (a_1 (ev 1)) ⟨wr, _, a, rfl, h4, rfl, rfl⟩) fun v H2 k e => hD _ _ k e
end
end Pm
end
/-! ## W3 -/
section
set_option Elab.async false
set_option linter.all false
set_option maxRecDepth 100000
set_option maxHeartbeats 2000000
namespace Pm
open PySem L2
theorem WishAt.obj {K : PySem.W.Frag} {Cw w : Addr} {H : Hp} {ord : List Nat} (h : WishAt K Cw H w ord) : ∃ dx t dr, H w = some (.ins Cw dx [("order", .ref t), ("ranks", .ref dr)]) ∧ SqT K H t (ord.map nI) := by
  obtain ⟨dx, t, dr, kvs, h1, h2, _⟩ := h.ob
  exact ⟨dx, t, dr, h1, h2⟩
theorem rng_flat {β : Type} (f : Nat → List β) (i : Nat) : (List.range (i + 1)).flatMap f = (List.range i).flatMap f ++ f i := by
  rw [List.range_succ, List.flatMap_append]
  simp
theorem Mkt.Ok.la {M : Mkt} (h : M.Ok) {a : Nat} (ha : a < M.A.length) : (M.La a).Nodup ∧ (∀ r ∈ M.La a, r < M.R.length) ∧ (M.La a).length ≤ 100 := by
  have : M.La a ∈ M.A := by
    unfold Mkt.La
    rw [List.getD_eq_getElem?_getD, List.getElem?_eq_getElem ha]
    exact List.getElem_mem ha
  exact h.an _ this
theorem Mkt.Ok.lr {M : Mkt} (h : M.Ok) {a : Nat} (ha : a < M.R.length) : (M.Lr a).Nodup ∧ (∀ r ∈ M.Lr a, r < M.A.length) ∧ (M.Lr a).length ≤ 100 := by
  have : M.Lr a ∈ M.R := by
    unfold Mkt.Lr
    rw [List.getD_eq_getElem?_getD, List.getElem?_eq_getElem ha]
    exact List.getElem_mem ha
  exact h.rn _ this
/-- the pairs of ints, as tuples -/
abbrev PrT (K : PySem.W.Frag) (H : Hp) (p : Nat × Nat) (v : V) : Prop := PrH H p v
theorem prt_kp {G : Gt} {K : PySem.W.Frag} {H H1 : Hp} {l : Addr} {zs : List V} {p : Nat × Nat} {v : V} (k : Kp G [l] H H1) (hl : H l = some (.lst zs)) (h : PrT K H p v) : PrT K H1 p v := by
  obtain ⟨q, e, hq⟩ := h
  exact ⟨q, e, k.at1 hl hq (by simp)⟩
section
variable {B : Bs} {Cw Cm : Addr} (TW : WishC B Cw) (TM : MktC B Cw Cm)
include TW TM
theorem ok_pairs {f : Addr} {fd : FuncData} {cdv : Value} (F : FunC B.K "pairs" "Market.pairs" (dMarket 3) f fd cdv) (GH : GM B 1 Cw "has" (pHas B Cw)) : FnOk B.P B.w B.K B.mg B.base CX0 2 f fd ["self"] (spM B.G (pPairs B Cw Cm)) := by
  refine def_ok F scMarket3 (fun vs H SS P ⟨m, M, e, _⟩ => by rw [e]; rfl) fun vs H SS P D ht hp hD _ => ?_
  obtain ⟨m, M, rfl, hM, rfl, rfl⟩ := hp
  obtain ⟨dx, la, lr, t, was, wrs, h1, h2, h3, h4, h5, h6⟩ := id hM.ob
  refine s_set (i := 1) (e_lst a_nil) fun v H1 k1 ⟨l, e1, hl0, hl⟩ => ?_
  subst e1
  have hlA : was.length = M.A.length := (paired_len h5).symm
  refine s_for (as := was.zipIdx) (fun i σ1 H2 => ∃ o2 o3 vs, σ1 = [some (.ref m), some (.ref l), o2, o3, none] ∧ Ex B.G H H2 ∧ H2 l = some (.lst vs) ∧ vs.length ≤ i * 100 ∧ Paired (PrT B.K H2) ((List.range i).flatMap M.row) vs)
    (ei_enumL (as := was) (ev := id) TM.enum (e_fld (ev 0) (k1.xat h1) TM.cl TM.nA rfl) (by rw [List.map_id]; exact .inl (.inl (k1.xat h2)))) ⟨none, none, [], rfl, k1, hl, Nat.zero_le _, .nil⟩
    (fun i σ1 H2 _ ⟨_, _, _, _, k, _⟩ => by rw [List.map_id]; exact .inl (.inl (k.xat h2))) (fun i a x σ1 H2 H3 ha ⟨o2, o3, vs, e, k2, hv, hvl, hP⟩ k3 ⟨T, e3, hT⟩ => ?_) fun σ1 H2 ⟨o2, o3, vs, e, k2, hv, hvl, hP⟩ => ?_
  · subst e e3
    have hi : i < was.length := by
      have := (List.getElem?_eq_some_iff.mp ha).1
      rwa [List.length_zipIdx] at this
    rw [zipIdx_at hi] at ha
    cases ha
    have hiA : i < M.A.length := hlA ▸ hi
    refine ⟨_, eg_tup2 2 3 (.inl (.inl hT)), ?_⟩
    have k23 : Ex B.G H H3 := k2.t k3
    have hM3 := hM.ex k23
    obtain ⟨v, e4, wa, e5, hwa⟩ := paired_get h5 (i := i) (a := M.La i) (by unfold Mkt.La; rw [List.getD_eq_getElem?_getD, List.getElem?_eq_getElem hiA]; rfl)
    have e6 : was[i] = .ref wa := by
      rw [List.getElem?_eq_getElem hi] at e4
      rw [Option.some.inj e4, e5]
    obtain ⟨hnd, hbd, hln⟩ := hM.ok.la hiA
    obtain ⟨dx1, t1, dr1, o1, q1⟩ := (hwa.ex k23).obj
    have el : vs.length ≤ 100000 := by
      have := hM.ok.sa
      omega
    refine s_ext 1 rfl (k3.xat hv) el (e_lc [("room", 4)] (lc_R (as := M.La i) (ei_tup (ev := nI) (e_fld ((ev 3).is (w := .ref wa) e6) o1 TW.cl TW.nO rfl) q1) (fun H4 k => ex_t k q1) (fun r => decide (i ∈ M.Lr r)) (fun _ r v H' => PrT B.K H' (i, r) v) ?_ (by omega) fun D' r x H4 zs hr k hD hD1 e => ?_)) fun v H4 k4 ⟨D', ys, e1, e2, e3, e4⟩ => ⟨D', ys, e1, e3, ?_, fun H5 k5 h5' => ?_⟩
    · rintro D' r v H4 H5 zs hz kk h
      exact prt_kp kk hz h
    · subst e
      obtain ⟨wr, g1, g2⟩ := (hM3.ex k).room (hbd r hr)
      obtain ⟨dx2, t2, dr2, o2', _⟩ := g2.obj
      refine ⟨_, eg_name 4, rfl, ts_one (t_val (e_meth GH (Nat.le_refl _) ((k23.t k).tok ht) (e_room TM g1 (ev 0) (ev 4)) o2' rfl (a_1 (ev 2)) ⟨wr, _, i, rfl, g2, rfl, rfl⟩)), fun _ => EK.imp (e_tup (a_cons (ev 2) (a_1 (ev 4)))) fun v H5 k5 ⟨q, e1, e2, e3⟩ => ⟨q, e1, e3⟩⟩
    · rw [← paired_len e4]
      exact Nat.le_trans (List.length_filter_le _ _) (by omega)
    · refine s_lp ⟨_, _, _, rfl, ?_, h5', ?_, ?_⟩
      · exact Kp.step (k23.t k4) k5 fun x hx => .inr (by rw [List.mem_singleton.mp hx]; exact hl0)
      · rw [List.length_append, ← paired_len e4, Nat.add_mul]
        have : ((M.La i).filter fun r => decide (i ∈ M.Lr r)).length ≤ 100 := Nat.le_trans (List.length_filter_le _ _) hln
        omega
      · rw [rng_flat]
        refine paired_append (paired_imp hP fun p v z => ?_) ?_
        · obtain ⟨q, e, hq⟩ := z
          exact prt_kp k5 (k4.xat (k3.xat hv)) ⟨q, e, (k3.t k4).xat hq⟩
        · exact paired_map (F := PrH H5) (paired_imp e4 fun r v z => prt_kp (K := B.K) k5 (k4.xat (k3.xat hv)) z)
  · subst e
    rw [List.length_zipIdx, hlA] at hP
    refine s_ret (e_tupleOf TM.tup (ev 1) (.inl (.inl (.inl hv)))) fun v H3 k3 ⟨t', e, ht'⟩ => hD _ _ (k2.t k3) ⟨t', vs, e, ht', ?_⟩
    exact paired_imp hP fun p v ⟨q, e, hq⟩ => ⟨q, e, k3.xat hq⟩
end
end Pm
end
/-! ## W4 -/
section
set_option Elab.async false
set_option linter.all false
set_option maxRecDepth 100000
set_option maxHeartbeats 2000000
namespace Pm
open PySem L2
theorem WishAt.kpn {G : Gt} {K : PySem.W.Frag} {Cw w p : Addr} {H H' : Hp} {ord : List Nat} {u : HO} (h : WishAt K Cw H w ord) (k : Kp G [p] H H') (hp : H p = some u) (hw : w ≠ p) (h1 : ∀ xs, u ≠ .tup xs) (h2 : ∀ o xs, u ≠ .frz o (.tup xs)) (h3 : ∀ kvs, u ≠ .dK kvs) : WishAt K Cw H' w ord := by
  obtain ⟨⟨dx, t, dr, kvs, g1, g2, g3, g4⟩, nd⟩ := h
  exact ⟨⟨dx, t, dr, kvs, k.at g1 (by simpa using hw), kp_t1 k hp g2 (h1 _) fun o => h2 o _, k.at1 hp g3 (h3 _).symm, g4⟩, nd⟩
def inN (mt : List (Option Nat)) (r : Nat) : List Nat := (mt.zipIdx.filter fun p => decide (p.1 = some r)).map (·.2)
structure MatchOk (M : Mkt) (mt : List (Option Nat)) : Prop where
  len : mt.length = M.A.length
  lt : ∀ r, some r ∈ mt → r < M.R.length
  cnt : ∀ r, r < M.R.length → (mt.filter fun o => decide (o = some r)).length ≤ M.qs r
  lk : ∀ a r, mt[a]? = some (some r) → M.likes a r = true
def pCheckMatch (B : Bs) (Cw Cm : Addr) : Pre := fun vs H S P => ∃ m M q mt, vs = [.ref m, .ref q] ∧ MktAt B Cw Cm H m M ∧ SqT B.K H q (mt.map oV) ∧ MatchOk M mt ∧ S = [] ∧ P = fun _ _ => True
def pThoseIn (B : Bs) : Pre := fun vs H S P => ∃ q mt r, vs = [.ref q, nI r] ∧ (SqL B.K H q (mt.map oV) ∨ SqT B.K H q (mt.map oV)) ∧ mt.length ≤ 1000 ∧ S = [] ∧ P = fun v H' => ∃ t, v = .ref t ∧ SqT B.K H' t ((inN mt r).map nI)
def pUnwanted (B : Bs) (Cw Cm : Addr) : Pre := fun vs H S P => ∃ m M q mt, vs = [.ref m, .ref q] ∧ MktAt B Cw Cm H m M ∧ SqT B.K H q (mt.map oV) ∧ MatchOk M mt ∧ S = [] ∧ P = fun v H' => ∃ t, v = .ref t ∧ SqT B.K H' t []
theorem pCheckMatch_ex {B : Bs} {Cw Cm : Addr} : PreEx B.G (pCheckMatch B Cw Cm) := fun vs H H' S P k ⟨m, M, q, mt, h1, h2, h3, h4⟩ => ⟨m, M, q, mt, h1, h2.ex k, ex_t k h3, h4⟩
theorem pThoseIn_ex {B : Bs} : PreEx B.G (pThoseIn B) := fun vs H H' S P k ⟨q, mt, r, h1, h2, h3⟩ => ⟨q, mt, r, h1, h2.imp (ex_l k) (ex_t k), h3⟩
theorem pUnwanted_ex {B : Bs} {Cw Cm : Addr} : PreEx B.G (pUnwanted B Cw Cm) := fun vs H H' S P k ⟨m, M, q, mt, h1, h2, h3, h4⟩ => ⟨m, M, q, mt, h1, h2.ex k, ex_t k h3, h4⟩
theorem oV_eq (o : Option Nat) (r : Nat) : decide (oV o = nI r) = decide (o = some r) := by
  cases o with
  | none => simp [oV, nI]
  | some a =>
    simp [oV, nI]
    omega
theorem oV_scal (o : Option Nat) (r : Nat) : scal (oV o) (nI r) = true := by cases o <;> rfl
theorem oV_scal2 (o o' : Option Nat) : scal (oV o) (oV o') = true := by cases o <;> cases o' <;> rfl
theorem oV_inj (o o' : Option Nat) : decide (oV o = oV o') = decide (o = o') := by
  cases o <;> cases o' <;> simp [oV]
  omega
section
variable {B : Bs} {Cw Cm : Addr} (TW : WishC B Cw) (TM : MktC B Cw Cm)
include TW TM
theorem ok_mktI {f : Addr} {fd : FuncData} {P c : Addr} (F : FunC B.K "__init__" "Market.__init__" (dMarket 0) f fd (.ref c)) (TB : LamX.TabB B.base B.mg c P) (hmT : (P, ("Market.__init__.<locals>.<genexpr>" : Str)) ∈ B.G) (hu : ∀ p ∈ B.G, p.1 = P → p.2 = ("Market.__init__.<locals>.<genexpr>" : Str))
    (GC : GF B 4 "check_list" (pCheckList B)) (GW : GK B 2 "Wish" Cw (pWishI B Cw)) : FnOk B.P B.w B.K B.mg B.base CX0 5 f fd ["self", "lists", "orders", "seats"] (spM B.G (pMktI B Cw Cm)) := by
  refine def_ok F scMarket0 (fun vs H SS P ⟨p, dx, la, lr, ls, M, vas, vrs, e, _⟩ => by rw [e]; rfl) fun vs H SS P D ht hp _ hN => ?_
  obtain ⟨p, dx, la, lr, ls, M, vas, vrs, rfl, hp, hla, pA, hlr, pR, hls, ok, rfl, rfl⟩ := hp
  refine s_if (b := false) (T.is (t_or (s := false) (t := false) (t_k (CM.is (c_ne (x := nI M.R.length) (y := nI M.R.length) rfl (EK.is (e_lenSeq TM.len (ev 2) (.inl hlr)) (by rw [← paired_len pR])) (EK.is (e_lenSeq TM.len (ev 3) (.inl hls)) (by rw [List.length_map, ok.ql]))) (by simp)))
    fun _ => T.is (t_val (e_any (as := M.q) (j := 5) (fun n => decide ((n : Int) < 0)) 0 (by show 3 ≤ 4; decide) TM.any ⟨TB, rfl, rfl, hmT, hu⟩ (ei_list (ev := nI) (ev 3) hls) (fun H1 k => ex_l k hls) ht fun a x H1 ha k e => ?_)) ?_) rfl) (fun z => nomatch z) fun _ => s_next ?_
  · subst e
    exact e_k (c_lt (ev 5) e_int)
  · rw [List.any_eq_false]
    intro a ha
    simp
  obtain ⟨zA, eA, rfl, hzA⟩ := paired_zip pA
  obtain ⟨zR, eR, rfl, hzR⟩ := paired_zip pR
  have lA : zA.length = M.A.length := by rw [← eA, List.length_map]
  have lR : zR.length = M.R.length := by rw [← eR, List.length_map]
  refine s_fld (Pa := fun v H' => ∃ l ws, v = .ref l ∧ H l = none ∧ H' l = some (.lst ws) ∧ Paired (fun o v => ∃ w, v = .ref w ∧ w ≠ p ∧ WishAt B.K Cw H' w o) M.A ws)
    (EK.imp (e_lc [("order", 4)] (lc_R (as := zA) (ei_list (ev := fun z => V.ref z.2) (ev 1) hla) (fun H1 k => ex_l k hla) (fun _ => true) (fun D' z v H' => ∃ w, v = V.ref w ∧ w ≠ p ∧ w ≠ D' ∧ WishAt B.K Cw H' w z.1) ?_ (by have := ok.sa; omega) fun D' z x H1 zs hz k hD0 hD1 e => ?_)) fun v H1 k ⟨D', ys, e1, e2, e3, e4⟩ => ⟨D', ys, e1, e2, e3, ?_⟩) (fun v H1 k _ => ev 0) hp TM.cl TM.nA (by decide) fun v H1 H2 k1 ⟨l, ws, e1, l0, hl, hws⟩ k2 h2 => ?_
  · rintro D' z v H1 H2 zs hz kk ⟨w, e, n, n', hw⟩
    exact ⟨w, e, n, n', hw.kpn kk hz n' (by simp) (by simp) (by simp)⟩
  · subst e
    have hz1 : z.1 ∈ M.A := by rw [← eA]; exact List.mem_map.mpr ⟨z, hz, rfl⟩
    obtain ⟨n1, n2, n3⟩ := ok.an _ hz1
    refine ⟨_, eg_name 4, rfl, ts_nil, fun _ => EK.imp (e_makeB (PP := fun w H' => WishAt B.K Cw H' w z.1) GW (by show 3 ≤ 4; decide) (k.tok ht) (a_1B (e_call GC (Nat.le_refl _) (k.tok ht) (a_cons (ev 4) (a_1 (EK.is (e_lenSeq TM.len (ev 2) (.inl (ex_l k hlr))) (by rw [List.length_map, lR])))) ⟨z.2, z.1, M.R.length, rfl, .inl (ex_l k (hzA z hz)), n1, n3, n2, rfl, rfl⟩)) fun vs H3 p' dx' H4 k3 ⟨x', e1, t', e2, ht'⟩ hp' k4 ho => ?_) fun v H5 k5 ⟨w, e, hw0, hw⟩ => ⟨w, e, ?_, ?_, hw⟩⟩
    · subst e1 e2
      exact ⟨p', dx', t', z.1, rfl, ho, .inr (ex_t k4 ht'), n1, Nat.le_trans n3 (by decide), rfl, rfl⟩
    · exact fun w' => by rw [w', k.xat hp] at hw0; cases hw0
    · exact fun w' => by rw [w', hD1] at hw0; cases hw0
  · rw [List.filter_eq_self.mpr (fun _ _ => rfl)] at e4
    rw [← eA]
    exact paired_map (paired_imp e4 fun z v ⟨w, e, n, _, hw⟩ => ⟨w, e, n, hw⟩)
  subst e1
  have h1p := k1.xat hp
  have nlp : l ≠ p := fun w => by rw [w, hp] at l0; cases l0
  have hl2 : H2 l = some (.lst ws) := k2.at1 h1p hl (by simp)
  have hws2 : Paired (fun o v => ∃ w, v = .ref w ∧ w ≠ p ∧ WishAt B.K Cw H2 w o) M.A ws := paired_imp hws fun o v ⟨w, e, n, hw⟩ => ⟨w, e, n, hw.kpn k2 h1p n (by simp) (by simp) (by simp)⟩
  have sk : ∀ {q : Addr} {xs : List V}, SqL B.K H q xs → SqL B.K H2 q xs := fun {q xs} h => by
    have h' := ex_l k1 h
    rcases h' with (z | ⟨o, z⟩) | z
    · exact .inl (.inl (k2.at1 h1p z (by simp)))
    · exact .inl (.inr ⟨o, k2.at1 h1p z (by simp)⟩)
    · exact .inr z
  have ht2 : TOk B.G H2 := k2.tok (k1.tok ht)
  refine s_fld (Pa := fun v H' => ∃ l ws, v = .ref l ∧ H2 l = none ∧ H' l = some (.lst ws) ∧ Paired (fun o v => ∃ w, v = .ref w ∧ w ≠ p ∧ WishAt B.K Cw H' w o) M.R ws)
    (EK.imp (e_lc [("order", 4)] (lc_R (as := zR) (ei_list (ev := fun z => V.ref z.2) (ev 2) (sk hlr)) (fun H1 k => ex_l k (sk hlr)) (fun _ => true) (fun D' z v H' => ∃ w, v = V.ref w ∧ w ≠ p ∧ w ≠ D' ∧ WishAt B.K Cw H' w z.1) ?_ (by have := ok.sr; omega) fun D' z x H1 zs hz k hD0 hD1 e => ?_)) fun v H1 k ⟨D', ys, e1, e2, e3, e4⟩ => ⟨D', ys, e1, e2, e3, ?_⟩) (fun v H1 k _ => ev 0) h2 TM.cl TM.nR (by show 1 < 1000; decide) fun v H3 H4 k3 ⟨r, wr, e1, r0, hr, hwr⟩ k4 h4 => ?_
  · rintro D' z v H1 H2 zs hz kk ⟨w, e, n, n', hw⟩
    exact ⟨w, e, n, n', hw.kpn kk hz n' (by simp) (by simp) (by simp)⟩
  · subst e
    have hz1 : z.1 ∈ M.R := by rw [← eR]; exact List.mem_map.mpr ⟨z, hz, rfl⟩
    obtain ⟨n1, n2, n3⟩ := ok.rn _ hz1
    refine ⟨_, eg_name 4, rfl, ts_nil, fun _ => EK.imp (e_makeB (PP := fun w H' => WishAt B.K Cw H' w z.1) GW (by show 3 ≤ 4; decide) (k.tok ht2) (a_1B (e_call GC (Nat.le_refl _) (k.tok ht2) (a_cons (ev 4) (a_1 (EK.is (e_lenSeq TM.len (ev 1) (.inl (ex_l k (sk hla)))) (by rw [List.length_map, lA])))) ⟨z.2, z.1, M.A.length, rfl, .inl (ex_l k (sk (hzR z hz))), n1, n3, n2, rfl, rfl⟩)) fun vs H3 p' dx' H4 k3 ⟨x', e1, t', e2, ht'⟩ hp' k4 ho => ?_) fun v H5 k5 ⟨w, e, hw0, hw⟩ => ⟨w, e, ?_, ?_, hw⟩⟩
    · subst e1 e2
      exact ⟨p', dx', t', z.1, rfl, ho, .inr (ex_t k4 ht'), n1, Nat.le_trans n3 (by decide), rfl, rfl⟩
    · exact fun w' => by rw [w', k.xat h2] at hw0; cases hw0
    · exact fun w' => by rw [w', hD1] at hw0; cases hw0
  · rw [List.filter_eq_self.mpr (fun _ _ => rfl)] at e4
    rw [← eR]
    exact paired_map (paired_imp e4 fun z v ⟨w, e, n, _, hw⟩ => ⟨w, e, n, hw⟩)
  subst e1
  have h3p := k3.xat h2
  have hl4 : H4 l = some (.lst ws) := k4.at1 h3p (k3.xat hl2) (by simp [putF])
  have hr4 : H4 r = some (.lst wr) := k4.at1 h3p hr (by simp [putF])
  have hws4 : Paired (fun o v => ∃ w, v = .ref w ∧ w ≠ p ∧ WishAt B.K Cw H4 w o) M.A ws := paired_imp hws2 fun o v ⟨w, e, n, hw⟩ => ⟨w, e, n, (hw.ex k3).kpn k4 h3p n (by simp) (by simp) (by simp)⟩
  have hwr4 : Paired (fun o v => ∃ w, v = .ref w ∧ w ≠ p ∧ WishAt B.K Cw H4 w o) M.R wr := paired_imp hwr fun o v ⟨w, e, n, hw⟩ => ⟨w, e, n, hw.kpn k4 h3p n (by simp) (by simp) (by simp)⟩
  have sk4 : SqL B.K H4 ls (M.q.map nI) := by
    have h' := ex_l k3 (sk hls)
    rcases h' with (z | ⟨o, z⟩) | z
    · exact .inl (.inl (k4.at1 h3p z (by simp)))
    · exact .inl (.inr ⟨o, k4.at1 h3p z (by simp)⟩)
    · exact .inr z
  refine s_fld (e_tupleOf TM.tup (ev 3) (.inl sk4)) (fun v H1 k _ => ev 0) h4 TM.cl TM.nS (by show 2 < 1000; decide) fun v H5 H6 k5 ⟨t, e1, ht1⟩ k6 h6 => ?_
  subst e1
  have h5p := k5.xat h4
  refine s_nil fun H7 k7 => hN _ _ ?_ ⟨rfl, ⟨dx, l, r, t, ws, wr, k7.xat h6, k7.xat (k6.at1 h5p (k5.xat hl4) (by simp [putF])), k7.xat (k6.at1 h5p (k5.xat hr4) (by simp [putF])), ex_t k7 (kp_t1 k6 h5p ht1 (by simp) (by simp)), ?_, ?_⟩, ok⟩
  · exact (((Kp.pre k1 k2).trans (Kp.pre k3 k4)).trans (Kp.pre k5 k6)).then k7
  · exact paired_imp hws4 fun o v ⟨w, e, n, hw⟩ => ⟨w, e, ((hw.ex k5).kpn k6 h5p n (by simp) (by simp) (by simp)).ex k7⟩
  · exact paired_imp hwr4 fun o v ⟨w, e, n, hw⟩ => ⟨w, e, ((hw.ex k5).kpn k6 h5p n (by simp) (by simp) (by simp)).ex k7⟩
theorem ok_thoseIn {f : Addr} {fd : FuncData} {cdv : Value} (F : FunC B.K "those_in" "those_in" (top 15) f fd cdv) : FnOk B.P B.w B.K B.mg B.base CX0 1 f fd ["match", "room"] (spM B.G (pThoseIn B)) := by
  refine def_ok F sc15 (fun vs H SS P ⟨q, mt, r, e, _⟩ => by rw [e]; rfl) fun vs H SS P D ht hp hD _ => ?_
  obtain ⟨q, mt, r, rfl, hq, hlen, rfl, rfl⟩ := hp
  rcases hq with hq | hq
  · refine s_ret (e_tupleOfB (R := fun xs _ => xs = (inN mt r).map nI) TM.tup (e_lc [("asker", 2), ("one", 3)] (lc_R (as := mt.zipIdx) (ei_enumL (ev := oV) TM.enum (ev 0) hq) (fun H1 k => ex_l k hq) (fun p => decide (p.1 = some r)) (fun _ p v _ => v = nI p.2) (fun _ _ _ _ _ _ _ _ z => z) (by rw [List.length_zipIdx]; omega) fun D' p x H1 zs hp k _ _ ⟨Tq, e, hT⟩ => ?_)) fun x H1 k ⟨D', ys, e1, e2, e3, e4⟩ => ⟨D', ys, e1, .inl (.inl (.inl e3)), fun H2 k2 => ?_⟩) fun v H2 k ⟨l, xs, e1, e2, e3⟩ => hD _ _ k ⟨l, e1, e3 ▸ e2⟩
    · subst e
      exact ⟨_, eg_tup2 2 3 (.inl (.inl hT)), rfl, ts_one (t_k (CM.is (c_eq (oV_scal _ _) (ev 3) (ev 1)) (oV_eq _ _))), fun _ => ev 2⟩
    · rw [paired_eq e4]
      unfold inN
      rw [List.map_map]
      rfl
  · refine s_ret (e_tupleOfB (R := fun xs _ => xs = (inN mt r).map nI) TM.tup (e_lc [("asker", 2), ("one", 3)] (lc_R (as := mt.zipIdx) (ei_enumT (ev := oV) TM.enum (ev 0) hq) (fun H1 k => ex_t k hq) (fun p => decide (p.1 = some r)) (fun _ p v _ => v = nI p.2) (fun _ _ _ _ _ _ _ _ z => z) (by rw [List.length_zipIdx]; omega) fun D' p x H1 zs hp k _ _ ⟨Tq, e, hT⟩ => ?_)) fun x H1 k ⟨D', ys, e1, e2, e3, e4⟩ => ⟨D', ys, e1, .inl (.inl (.inl e3)), fun H2 k2 => ?_⟩) fun v H2 k ⟨l, xs, e1, e2, e3⟩ => hD _ _ k ⟨l, e1, e3 ▸ e2⟩
    · subst e
      exact ⟨_, eg_tup2 2 3 (.inl (.inl hT)), rfl, ts_one (t_k (CM.is (c_eq (oV_scal _ _) (ev 3) (ev 1)) (oV_eq _ _))), fun _ => ev 2⟩
    · rw [paired_eq e4]
      unfold inN
      rw [List.map_map]
      rfl
theorem ok_unwanted {f : Addr} {fd : FuncData} {cdv : Value} (F : FunC B.K "unwanted" "unwanted" (top 16) f fd cdv) (GL : GM B 2 Cm "likes" (pLikes B Cw Cm)) : FnOk B.P B.w B.K B.mg B.base CX0 3 f fd ["market", "match"] (spM B.G (pUnwanted B Cw Cm)) := by
  refine def_ok F sc16 (fun vs H SS P ⟨m, M, q, mt, e, _⟩ => by rw [e]; rfl) fun vs H SS P D ht hp hD _ => ?_
  obtain ⟨m, M, q, mt, rfl, hM, hq, hok, rfl, rfl⟩ := hp
  obtain ⟨dx, la, lr, t, was, wrs, h1, _⟩ := id hM.ob
  refine s_ret (e_tupleOfB (R := fun xs _ => xs = []) TM.tup (e_lc [("asker", 2), ("room", 3)] (lc_R (as := mt.zipIdx) (ei_enumT (ev := oV) TM.enum (ev 1) hq) (fun H1 k => ex_t k hq) (fun p => false) (fun _ p v _ => False) (fun _ _ _ _ _ _ _ _ z => z) (by rw [List.length_zipIdx, hok.len]; have := hM.ok.sa; omega) fun D' p x H1 zs hp k _ _ ⟨Tq, e, hT⟩ => ?_)) fun x H1 k ⟨D', ys, e1, e2, e3, e4⟩ => ⟨D', ys, e1, .inl (.inl (.inl e3)), fun H2 k2 => ?_⟩) fun v H2 k ⟨l, xs, e1, e2, e3⟩ => hD _ _ k ⟨l, e1, e3 ▸ e2⟩
  · subst e
    have hat : mt[p.2]? = some p.1 := by
      have := List.mem_zipIdx_iff_getElem?.mp hp
      simpa using this
    refine ⟨_, eg_tup2 2 3 (.inl (.inl hT)), rfl, ts_one ?_, fun z => nomatch z⟩
    cases hr : p.1 with
    | none => exact T.is (t_and (s := false) (t := false) (t_k (CM.is (c_notN (ev 3)) rfl)) (fun z => nomatch z)) rfl
    | some r =>
      rw [hr] at hat
      have ha : p.2 < M.A.length := hok.len ▸ (List.getElem?_eq_some_iff.mp hat).1
      exact T.is (t_and (s := true) (t := false) (t_k (CM.is (c_notN (ev 3)) rfl)) (fun _ => T.is (t_not (t_val (s := true) (EK.is (e_meth GL (Nat.le_refl _) (k.tok ht) (ev 0) (k.xat h1) rfl (a_cons (ev 2) (a_1 (ev 3))) ⟨m, M, p.2, r, rfl, hM.ex k, ha, hok.lt r (List.mem_of_getElem? hat), rfl, rfl⟩) (by rw [hok.lk _ _ hat])))) rfl)) rfl
  · rw [List.filter_eq_nil_iff.mpr (fun _ _ => by simp)] at e4
    cases e4
    rfl
end
end Pm
end
/-! ## W5 -/
section
set_option Elab.async false
set_option linter.all false
set_option maxRecDepth 100000
set_option maxHeartbeats 2000000
namespace Pm
open PySem L2
theorem MktAt.mobj {B : Bs} {Cw Cm m : Addr} {H : Hp} {M : Mkt} (h : MktAt B Cw Cm H m M) : ∃ dx la lr t, H m = some (.ins Cm dx [("askers", .ref la), ("rooms", .ref lr), ("seats", .ref t)]) ∧ SqT B.K H t (M.q.map nI) := by
  obtain ⟨dx, la, lr, t, was, wrs, h1, h2, h3, h4, _⟩ := h.ob
  exact ⟨dx, la, lr, t, h1, h4⟩
section
variable {B : Bs} {Cw Cm : Addr} (TM : MktC B Cw Cm)
include TM
theorem ok_checkMatch {f : Addr} {fd : FuncData} {P c : Addr} (F : FunC B.K "check_match" "check_match" (top 14) f fd (.ref c)) (TB : LamX.TabB B.base B.mg c P) (hmT : (P, ("check_match.<locals>.<genexpr>" : Str)) ∈ B.G) (hu : ∀ p ∈ B.G, p.1 = P → p.2 = ("check_match.<locals>.<genexpr>" : Str))
    (GS : GM B 1 Cm "size" (pSize B Cw Cm)) : FnOk B.P B.w B.K B.mg B.base CX0 4 f fd ["market", "match"] (spM B.G (pCheckMatch B Cw Cm)) := by
  refine def_ok F sc14 (fun vs H SS P ⟨m, M, q, mt, e, _⟩ => by rw [e]; rfl) fun vs H SS P D ht hp hD _ => ?_
  obtain ⟨m, M, q, mt, rfl, hM, hq, hok, rfl, rfl⟩ := hp
  refine s_set (i := 2) (e_tupleOf TM.tup (ev 1) (.inr hq)) fun v H1 k1 ⟨t, e1, ht1⟩ => ?_
  subst e1
  obtain ⟨dx, la, lr, ts, o1, q1⟩ := (hM.ex k1).mobj
  refine s_if (b := false) (T.is (t_or (s := false) (t := false) (t_k (CM.is (c_ne (x := nI M.A.length) (y := nI M.A.length) rfl (EK.is (e_lenSeq TM.len (ev 2) (.inr ht1)) (by rw [List.length_map, hok.len])) (e_meth0 GS (by show 1 ≤ 3; decide) (k1.tok ht) (ev 0) o1 rfl ⟨m, M, rfl, hM.ex k1, rfl, rfl⟩)) (by simp)))
    fun _ => T.is (t_val (e_any (as := mt) (j := 3) (fun o => match o with | none => false | some r => !(decide ((0 : Int) ≤ r) && decide ((r : Int) < M.R.length))) 0 (Nat.le_refl _) TM.any ⟨TB, rfl, rfl, hmT, hu⟩ (ei_tup (ev := oV) (ev 2) ht1) (fun H2 k => ex_t k ht1) (k1.tok ht) fun a x H2 ha k e => ?_)) ?_) rfl) (fun z => nomatch z) fun _ => s_next ?_
  · subst e
    cases a with
    | none => exact EK.is (e_and (s := false) (t := false) (e_k (CM.is (c_notN (ev 3)) rfl)) (fun z => nomatch z)) rfl
    | some r => exact e_and (s := true) (e_k (CM.is (c_notN (ev 3)) rfl)) (fun _ => e_not (e_chain (fun X _ => op_le) (fun X _ => op_lt) e_int (ev 3) (e_lenR TM ((hM.ex k1).ex k) (ev 0))))
  · rw [List.any_eq_false]
    intro o ho
    cases o with
    | none => simp
    | some r =>
      have := hok.lt r ho
      simp
      omega
  refine s_for (as := M.q.zipIdx) (fun i σ1 H2 => ∃ o3 o4, σ1 = [some (.ref m), some (.ref q), some (.ref t), o3, o4, none] ∧ Ex B.G H1 H2) (ei_enumT (ev := nI) TM.enum (e_fld (ev 0) o1 TM.cl TM.nS rfl) q1) ⟨none, none, rfl, Kp.refl⟩ (fun i σ1 H2 _ ⟨_, _, _, k⟩ => ex_t k q1)
    (fun i a x σ1 H2 H3 ha ⟨o3, o4, e, k2⟩ k3 ⟨Tq, e3, hT⟩ => ?_) fun σ1 H2 ⟨o3, o4, e, k2⟩ => ?_
  · subst e e3
    have hi : i < M.q.length := by
      have := (List.getElem?_eq_some_iff.mp ha).1
      rwa [List.length_zipIdx] at this
    rw [zipIdx_at hi] at ha
    cases ha
    have hiR : i < M.R.length := hM.ok.ql ▸ hi
    have hqs : M.q[i] = M.qs i := by
      unfold Mkt.qs
      rw [List.getD_eq_getElem?_getD, List.getElem?_eq_getElem hi]
      rfl
    refine ⟨_, eg_tup2 3 4 (.inl (.inl hT)), s_if (b := false) (t_k (CM.is (c_gt (i := (mt.filter fun o => decide (o = some i)).length) (j := M.qs i) (e_lenSeqB TM.len (e_lc [("one", 5)] (lc_V (as := mt) (ev := oV) (ei_tup (ev 2) (ex_t (k2.t k3) ht1)) (fun H4 k => ex_t ((k2.t k3).t k) ht1) (fun o => decide (o = some i)) oV (by rw [hok.len]; have := hM.ok.sa; omega) fun o H4 ho k => ⟨_, eg_name 5, rfl, ts_one (t_k (CM.is (c_eq (oV_scal _ _) (ev 5) (ev 3)) (oV_eq _ _))), fun _ => ev 5⟩))
      fun x H4 k ⟨D', e1, e2, e3⟩ => ⟨D', _, e1, .inl (.inl (.inl e3)), by rw [List.length_map]⟩) ((ev 4).is (by rw [hqs]))) ?_)) (fun z => nomatch z) fun _ => s_next (s_lp ⟨_, _, rfl, k2.t k3⟩)⟩
    have := hok.cnt i hiR
    simp
    omega
  · subst e
    exact s_ret (ev 2) fun v H3 k3 e => hD _ _ (k1.t (k2.t k3)) trivial
end
/-! ### Asking -/
structure ASt where
  nx : List Nat
  hd : List (Option Nat)
  st : List (Nat × Nat × Option Nat)
abbrev StT (K : PySem.W.Frag) (H : Hp) (s : Nat × Nat × Option Nat) (v : V) : Prop := ∃ q, v = .ref q ∧ SqT K H q [nI s.1, nI s.2.1, oV s.2.2]
theorem StT.kp {G : Gt} {K : PySem.W.Frag} {H H1 : Hp} {l : Addr} {zs : List V} {p : Nat × Nat × Option Nat} {v : V} (k : Kp G [l] H H1) (hl : H l = some (.lst zs)) (h : StT K H p v) : StT K H1 p v := by
  obtain ⟨q, e, hq⟩ := h
  exact ⟨q, e, kp_t1 k hl hq (by simp) (by simp)⟩
structure AskC (B : Bs) (Ca : Addr) : Prop where
  cl : Cls B.K Ca
  nM : NoAttr B.K Ca "market"
  nN : NoAttr B.K Ca "next"
  nH : NoAttr B.K Ca "held"
  nS : NoAttr B.K Ca "steps"
  range : B.mg "range" = none
structure AskAt (B : Bs) (Cw Cm Ca : Addr) (H : Hp) (ak m l1 l2 l3 : Addr) (M : Mkt) (s : ASt) : Prop where
  ob : ∃ dx, H ak = some (.ins Ca dx [("market", .ref m), ("next", .ref l1), ("held", .ref l2), ("steps", .ref l3)])
  n : H l1 = some (.lst (s.nx.map nI))
  h : H l2 = some (.lst (s.hd.map oV))
  sts : ∃ vs, H l3 = some (.lst vs) ∧ Paired (StT B.K H) s.st vs
  mkt : ∀ H', Kp B.G [l1, l2, l3] H H' → MktAt B Cw Cm H' m M
  d12 : l1 ≠ l2
  d13 : l1 ≠ l3
  d23 : l2 ≠ l3
  ln : s.nx.length = M.A.length
  lh : s.hd.length = M.A.length
theorem AskAt.ex {B : Bs} {Cw Cm Ca ak m l1 l2 l3 : Addr} {H H' : Hp} {M : Mkt} {s : ASt} (h : AskAt B Cw Cm Ca H ak m l1 l2 l3 M s) (k : Ex B.G H H') : AskAt B Cw Cm Ca H' ak m l1 l2 l3 M s := by
  obtain ⟨⟨dx, h1⟩, h2, h3, ⟨vs, h4, h5⟩, h6, a, b, c, d, e⟩ := h
  exact ⟨⟨dx, k.xat h1⟩, k.xat h2, k.xat h3, ⟨vs, k.xat h4, paired_imp h5 fun p v ⟨q, e, z⟩ => ⟨q, e, ex_t k z⟩⟩, fun H'' k' => h6 H'' (Kp.pre k k'), a, b, c, d, e⟩
/-- asker a may ask: where it stands -/
def Wants (M : Mkt) (s : ASt) (a r : Nat) : Prop := a < M.A.length ∧ s.hd[a]? = some none ∧ ∃ i, s.nx[a]? = some i ∧ (M.La a)[i]? = some r
/-- who is refused when a asks r -/
def Refused (M : Mkt) (hd : List (Option Nat)) (a r : Nat) (f : Option Nat) : Prop :=
  if a ∈ M.Lr r ∧ 0 < M.qs r then
    if (inN hd r).length = M.qs r then ∃ w, f = some w ∧ w ∈ inN hd r ++ [a] ∧ w ∈ M.Lr r ∧ ∀ n ∈ inN hd r ++ [a], n ∈ M.Lr r → (M.Lr r).idxOf n ≤ (M.Lr r).idxOf w
    else f = none
  else f = some a
def heldAfter (hd : List (Option Nat)) (a r : Nat) (f : Option Nat) : List (Option Nat) :=
  if f = some a then hd else match f with
    | none => hd.set a (some r)
    | some w => (hd.set a (some r)).set w none
def AskStep (M : Mkt) (s : ASt) (a : Nat) (s' : ASt) : Prop := ∃ r f i, Wants M s a r ∧ s.nx[a]? = some i ∧ Refused M s.hd a r f ∧ s'.nx = s.nx.set a (i + 1) ∧ s'.hd = heldAfter s.hd a r f ∧ s'.st = s.st ++ [(a, r, f)]
end Pm
end
/-! ## W6 -/
section
set_option Elab.async false
set_option linter.all false
set_option maxRecDepth 100000
set_option maxHeartbeats 2000000
namespace Pm
open PySem L2
section
variable {B : Bs} {Cw Cm Ca ak m l1 l2 l3 : Addr} {H H' : Hp} {M : Mkt} {s : ASt}
theorem AskAt.setN (h : AskAt B Cw Cm Ca H ak m l1 l2 l3 M s) {nx' : List Nat} (k : Kp B.G [l1] H H') (h2 : H' l1 = some (.lst (nx'.map nI))) (ln : nx'.length = M.A.length) : AskAt B Cw Cm Ca H' ak m l1 l2 l3 M { s with nx := nx' } := by
  obtain ⟨⟨dx, a1⟩, a2, a3, ⟨vs, a4, a5⟩, a6, a, b, c, d, e⟩ := h
  refine ⟨⟨dx, k.at1 a2 a1 (by simp)⟩, h2, k.at a3 (by simpa using Ne.symm a), ⟨vs, k.at a4 (by simpa using Ne.symm b), paired_imp a5 fun p v z => StT.kp k a2 z⟩, fun H'' k' => a6 H'' ((k.mono (by simp)).trans k'), a, b, c, ln, e⟩
theorem AskAt.setH (h : AskAt B Cw Cm Ca H ak m l1 l2 l3 M s) {hd' : List (Option Nat)} (k : Kp B.G [l2] H H') (h2 : H' l2 = some (.lst (hd'.map oV))) (lh : hd'.length = M.A.length) : AskAt B Cw Cm Ca H' ak m l1 l2 l3 M { s with hd := hd' } := by
  obtain ⟨⟨dx, a1⟩, a2, a3, ⟨vs, a4, a5⟩, a6, a, b, c, d, e⟩ := h
  refine ⟨⟨dx, k.at1 a3 a1 (by simp)⟩, k.at a2 (by simpa using a), h2, ⟨vs, k.at a4 (by simpa using Ne.symm c), paired_imp a5 fun p v z => StT.kp k a3 z⟩, fun H'' k' => a6 H'' ((k.mono (by simp)).trans k'), a, b, c, d, lh⟩
end
theorem AskAt.addS {B : Bs} {Cw Cm Ca ak m l1 l2 l3 : Addr} {H H' : Hp} {M : Mkt} {s : ASt} {vs : List V} {y : V} {p : Nat × Nat × Option Nat} (h : AskAt B Cw Cm Ca H ak m l1 l2 l3 M s) (k : Kp B.G [l3] H H') (h0 : H l3 = some (.lst vs)) (hP : Paired (StT B.K H) s.st vs) (h2 : H' l3 = some (.lst (vs ++ [y]))) (hy : StT B.K H p y) :
    AskAt B Cw Cm Ca H' ak m l1 l2 l3 M { s with st := s.st ++ [p] } := by
  obtain ⟨⟨dx, a1⟩, a2, a3, ⟨vs', a4, a5⟩, a6, a, b, c, d, e⟩ := h
  exact ⟨⟨dx, k.at1 a4 a1 (by simp)⟩, k.at a2 (by simpa using b), k.at a3 (by simpa using c), ⟨_, h2, paired_append (paired_imp hP fun p v z => StT.kp k a4 z) (.cons (StT.kp k a4 hy) .nil)⟩, fun H'' k' => a6 H'' ((k.mono (by simp)).trans k'), a, b, c, d, e⟩
theorem inN_lt {mt : List (Option Nat)} {r w : Nat} (h : w ∈ inN mt r) : mt[w]? = some (some r) := by
  unfold inN at h
  obtain ⟨p, hp, rfl⟩ := List.mem_map.mp h
  obtain ⟨h1, h2⟩ := List.mem_filter.mp hp
  have := List.mem_zipIdx_iff_getElem?.mp h1
  rw [of_decide_eq_true h2] at this
  simpa using this
def pAskI (B : Bs) (Cw Cm Ca : Addr) : Pre := fun vs H S P => ∃ (p dx m : Addr) (M : Mkt), vs = [.ref p, .ref m] ∧ H p = some (.ins Ca dx []) ∧ (∀ H', Kp B.G [p] H H' → MktAt B Cw Cm H' m M) ∧ S = [p] ∧
  ∀ v H', v = .non → (∃ l1 l2 l3, H l1 = none ∧ H l2 = none ∧ H l3 = none ∧ AskAt B Cw Cm Ca H' p m l1 l2 l3 M ⟨List.replicate M.A.length 0, List.replicate M.A.length none, []⟩) → P v H'
def pWants (B : Bs) (Cw Cm Ca : Addr) : Pre := fun vs H S P => ∃ ak m l1 l2 l3 M s a, vs = [.ref ak, nI a] ∧ AskAt B Cw Cm Ca H ak m l1 l2 l3 M s ∧ a < M.A.length ∧ S = [] ∧ ∃ b : Bool, (b = true ↔ ∃ r, Wants M s a r) ∧ P = fun v _ => v = .bl b
def pAsk (B : Bs) (Cw Cm Ca : Addr) : Pre := fun vs H S P => ∃ ak m l1 l2 l3 M s a, vs = [.ref ak, nI a] ∧ AskAt B Cw Cm Ca H ak m l1 l2 l3 M s ∧ (∃ r, Wants M s a r) ∧ s.st.length ≤ 100000 ∧ S = [l1, l2, l3] ∧ P = fun v H' => ∃ s', AskStep M s a s' ∧ AskAt B Cw Cm Ca H' ak m l1 l2 l3 M s'
theorem pAskI_ex {B : Bs} {Cw Cm Ca : Addr} : PreEx B.G (pAskI B Cw Cm Ca) := fun vs H H' S P k ⟨p, dx, m, M, h1, h2, h3, h4, h5⟩ => ⟨p, dx, m, M, h1, k.xat h2, fun H'' k' => h3 H'' (Kp.pre k k'), h4, fun v H'' e ⟨l1, l2, l3, a, b, c, d⟩ => h5 v H'' e ⟨l1, l2, l3, k.free a, k.free b, k.free c, d⟩⟩
theorem pWants_ex {B : Bs} {Cw Cm Ca : Addr} : PreEx B.G (pWants B Cw Cm Ca) := fun vs H H' S P k ⟨ak, m, l1, l2, l3, M, s, a, h1, h2, h3⟩ => ⟨ak, m, l1, l2, l3, M, s, a, h1, h2.ex k, h3⟩
theorem pAsk_ex {B : Bs} {Cw Cm Ca : Addr} : PreEx B.G (pAsk B Cw Cm Ca) := fun vs H H' S P k ⟨ak, m, l1, l2, l3, M, s, a, h1, h2, h3⟩ => ⟨ak, m, l1, l2, l3, M, s, a, h1, h2.ex k, h3⟩
section
variable {B : Bs} {Cw Cm Ca : Addr} (TW : WishC B Cw) (TM : MktC B Cw Cm) (TA : AskC B Ca)
include TW TM TA
theorem ok_wants {f : Addr} {fd : FuncData} {cdv : Value} (F : FunC B.K "wants" "Asking.wants" (dAsking 1) f fd cdv) : FnOk B.P B.w B.K B.mg B.base CX0 1 f fd ["self", "asker"] (spM B.G (pWants B Cw Cm Ca)) := by
  refine def_ok F scAsking1 (fun vs H SS P ⟨ak, m, l1, l2, l3, M, s, a, e, _⟩ => by rw [e]; rfl) fun vs H SS P D ht hp hD _ => ?_
  obtain ⟨ak, m, l1, l2, l3, M, s, a, rfl, hA, ha, rfl, b, hb, rfl⟩ := hp
  have hM := hA.mkt H Kp.refl
  obtain ⟨dx, o1⟩ := hA.ob
  obtain ⟨wa, w1, w2⟩ := hM.asker ha
  obtain ⟨dx2, t2, dr2, o2, q2⟩ := w2.obj
  have ha1 : a < s.nx.length := by rw [hA.ln]; exact ha
  have ha2 : a < s.hd.length := by rw [hA.lh]; exact ha
  have g1 : (s.hd.map oV)[a]? = some (oV s.hd[a]) := by rw [List.getElem?_map, List.getElem?_eq_getElem ha2]; rfl
  have g2 : (s.nx.map nI)[a]? = some (nI s.nx[a]) := by rw [List.getElem?_map, List.getElem?_eq_getElem ha1]; rfl
  have e1 : b = (decide (s.hd[a] = none) && decide (s.nx[a] < (M.La a).length)) := by
    rw [Bool.eq_iff_iff, hb]
    simp only [Bool.and_eq_true, decide_eq_true_eq]
    constructor
    · rintro ⟨r, _, h1, i, h2, h3⟩
      rw [List.getElem?_eq_getElem ha2] at h1
      rw [List.getElem?_eq_getElem ha1] at h2
      cases Option.some.inj h2
      exact ⟨Option.some.inj h1, (List.getElem?_eq_some_iff.mp h3).1⟩
    · rintro ⟨h1, h2⟩
      exact ⟨(M.La a)[s.nx[a]], ha, by rw [List.getElem?_eq_getElem ha2, h1], s.nx[a], List.getElem?_eq_getElem ha1, List.getElem?_eq_getElem h2⟩
  refine s_ret (e_and (s := decide (s.hd[a] = none)) (t := decide (s.nx[a] < (M.La a).length)) (e_k (CM.is (c_isN (e_ixL (e_fld (ev 0) o1 TA.cl TA.nH rfl) (ev 1) (.inl (.inl hA.h)) (atI_nat g1))) ?_)) fun _ => e_k (CM.is (c_lt (i := s.nx[a]) (j := (M.La a).length) (e_ixL (e_fld (ev 0) o1 TA.cl TA.nN rfl) (ev 1) (.inl (.inl hA.n)) (atI_nat g2)) (EK.is (e_lenSeq TM.len (e_fld (e_asker TM w1 (e_fld (ev 0) o1 TA.cl TA.nM rfl) (ev 1)) o2 TW.cl TW.nO rfl) (.inr q2)) (by rw [List.length_map]))) ?_)) fun v H2 k e => hD _ _ k (by rw [e, e1])
  · cases s.hd[a] <;> rfl
  · simp
theorem ok_askI {f : Addr} {fd : FuncData} {cdv : Value} (F : FunC B.K "__init__" "Asking.__init__" (dAsking 0) f fd cdv) (GS : GM B 1 Cm "size" (pSize B Cw Cm)) : FnOk B.P B.w B.K B.mg B.base CX0 2 f fd ["self", "market"] (spM B.G (pAskI B Cw Cm Ca)) := by
  refine def_ok F scAsking0 (fun vs H SS P ⟨p, dx, m, M, e, _⟩ => by rw [e]; rfl) fun vs H SS P D ht hp _ hN => ?_
  obtain ⟨p, dx, m, M, rfl, hp, hM, rfl, hP⟩ := hp
  refine s_fldV (ev 1) (ev 0) hp TA.cl TA.nM (by decide) fun H1 k1 h1 => ?_
  have hM1 := hM H1 k1
  obtain ⟨dxm, la, lr, t, om, _⟩ := hM1.mobj
  refine s_fld (e_rep e_int (e_meth0 GS (Nat.le_refl _) (k1.tok ht) (ev 1) om rfl ⟨m, M, rfl, hM1, rfl, rfl⟩) (Nat.le_trans hM1.ok.sa (by decide))) (fun v H1 k _ => ev 0) h1 TA.cl TA.nN (by show 1 < 1000; decide) fun v H2 H3 k2 ⟨l1, e1, n1, g1⟩ k3 h3 => ?_
  subst e1
  have kk3 : Kp B.G [p] H H3 := k1.trans (Kp.pre k2 k3)
  have hM3 := hM H3 kk3
  obtain ⟨dxm3, la3, lr3, t3, om3, _⟩ := hM3.mobj
  have g1' : H3 l1 = some (.lst (List.replicate M.A.length (V.int 0))) := k3.at1 (k2.xat h1) g1 (by simp)
  refine s_fld (e_rep e_non (e_meth0 GS (Nat.le_refl _) (kk3.tok ht) (ev 1) om3 rfl ⟨m, M, rfl, hM3, rfl, rfl⟩) (Nat.le_trans hM1.ok.sa (by decide))) (fun v H1 k _ => ev 0) h3 TA.cl TA.nH (by show 2 < 1000; decide) fun v H4 H5 k4 ⟨l2, e2, n2, g2⟩ k5 h5 => ?_
  subst e2
  have h3' := k4.xat h3
  have g1'' : H5 l1 = some (.lst (List.replicate M.A.length (V.int 0))) := k5.at1 h3' (k4.xat g1') (by simp)
  have g2' : H5 l2 = some (.lst (List.replicate M.A.length V.non)) := k5.at1 h3' g2 (by simp)
  refine s_fld (e_lst a_nil) (fun v H1 k _ => ev 0) h5 TA.cl TA.nS (by show 3 < 1000; decide) fun v H6 H7 k6 ⟨l3, e3, n3, g3⟩ k7 h7 => ?_
  subst e3
  have h5' := k6.xat h5
  have kk : Kp B.G [p] H H7 := (kk3.trans (Kp.pre k4 k5)).trans (Kp.pre k6 k7)
  refine s_nil fun H8 k8 => hN _ _ (kk.then k8) (hP _ _ rfl ⟨l1, l2, l3, k1.free n1, kk3.free n2, (kk3.trans (Kp.pre k4 k5)).free n3, ?_⟩)
  have d12 : l1 ≠ l2 := fun z => by rw [← z, g1'] at n2; cases n2
  have d13 : l1 ≠ l3 := fun z => by rw [← z, g1''] at n3; cases n3
  have d23 : l2 ≠ l3 := fun z => by rw [← z, g2'] at n3; cases n3
  refine ⟨⟨dx, k8.xat h7⟩, k8.xat (k7.at1 h5' (k6.xat (by rw [List.map_replicate]; exact g1'')) (by simp)), k8.xat (k7.at1 h5' (k6.xat (by rw [List.map_replicate]; exact g2')) (by simp)), ⟨[], k8.xat (k7.at1 h5' g3 (by simp)), .nil⟩, fun H' k' => hM H' ?_, d12, d13, d23, List.length_replicate, List.length_replicate⟩
  exact Kp.step (kk.then k8) k' fun x hx => .inr (by
    simp only [List.mem_cons, List.not_mem_nil, or_false] at hx
    rcases hx with rfl | rfl | rfl
    · exact k1.free n1
    · exact kk3.free n2
    · exact (kk3.trans (Kp.pre k4 k5)).free n3)
theorem ok_ask {f : Addr} {fd : FuncData} {cdv : Value} (F : FunC B.K "ask" "Asking.ask" (dAsking 2) f fd cdv) (GH : GM B 1 Cw "has" (pHas B Cw)) (GW : GM B 4 Cw "worst" (pWorst B Cw)) (GT : GF B 1 "those_in" (pThoseIn B)) : FnOk B.P B.w B.K B.mg B.base CX0 5 f fd ["self", "asker"] (spM B.G (pAsk B Cw Cm Ca)) := by
  refine def_ok F scAsking2 (fun vs H SS P ⟨ak, m, l1, l2, l3, M, s, a, e, _⟩ => by rw [e]; rfl) fun vs H SS P D ht hp hD _ => ?_
  obtain ⟨ak, m, l1, l2, l3, M, s, a, rfl, hA, ⟨r, hW⟩, hsl, rfl, rfl⟩ := hp
  obtain ⟨ha, hh, i, hi, hr⟩ := id hW
  have hM := hA.mkt H Kp.refl
  have hrR : r < M.R.length := (hM.ok.la ha).2.1 r (List.mem_of_getElem? hr)
  obtain ⟨dx, o1⟩ := hA.ob
  obtain ⟨wa, w1, w2⟩ := hM.asker ha
  obtain ⟨dx2, t2, dr2, o2, q2⟩ := w2.obj
  have gi : (s.nx.map nI)[a]? = some (nI i) := by rw [List.getElem?_map, hi]; rfl
  have gr : ((M.La a).map nI)[i]? = some (nI r) := by rw [List.getElem?_map, hr]; rfl
  refine s_setV (i := 2) (e_ixT (e_fld (e_asker TM w1 (e_fld (ev 0) o1 TA.cl TA.nM rfl) (ev 1)) o2 TW.cl TW.nO rfl) (e_ixL (e_fld (ev 0) o1 TA.cl TA.nN rfl) (ev 1) (.inl (.inl hA.n)) (atI_nat gi)) q2 (atI_nat gr)) ?_
  refine s_laug (e_fld (ev 0) o1 TA.cl TA.nN rfl) (ev 1) e_int hA.n gi fun H2 k2 h2 => ?_
  have hA2 : AskAt B Cw Cm Ca H2 ak m l1 l2 l3 M { s with nx := s.nx.set a (i + 1) } := hA.setN k2 (by rw [h2, List.map_set]; rfl) (by rw [List.length_set]; exact hA.ln)
  have kk2 : Kp B.G [l1, l2, l3] H H2 := k2.mono (by simp)
  have ht2 := k2.tok ht
  have hM2 := hA2.mkt H2 Kp.refl
  obtain ⟨dxb, o2b⟩ := hA2.ob
  obtain ⟨wr, r1, r2⟩ := hM2.room hrR
  obtain ⟨dx3, t3, dr3, o3, q3⟩ := r2.obj
  refine s_par (PA := fun vs _ => vs = [.ref wr, nI (M.qs r)]) 5 6 (a_cons (e_room TM r1 (e_fld (ev 0) o2b TA.cl TA.nM rfl) (ev 2)) (a_1 (e_seat TM hM2 hrR (e_fld (ev 0) o2b TA.cl TA.nM rfl) (ev 2)))) fun vs H3 k3 e => ⟨_, _, e, ?_⟩
  have hlen : s.hd.length ≤ 1000 := by rw [hA.lh]; exact Nat.le_trans hM.ok.sa (by decide)
  refine s_set (i := 3) (e_call GT (by show 1 ≤ 4; decide) (k3.tok ht2) (a_cons (e_fld (ev 0) (k3.xat o2b) TA.cl TA.nH rfl) (a_1 (ev 2))) ⟨l2, s.hd, r, rfl, .inl (.inl (.inl ((hA2.ex k3).h))), hlen, rfl, rfl⟩) fun v H4 k4 ⟨ti, e4, hti⟩ => ?_
  subst e4
  refine s_setV (i := 4) (ev 1) ?_
  have hA4 := (hA2.ex k3).ex k4
  have k24 : Ex B.G H2 H4 := k3.t k4
  have o4 := k24.xat o2b
  have ht4 := k24.tok ht2
  -- what is done when it is known who is refused
  have fin : ∀ (f : Option Nat) (H5 : Hp), Ex B.G H4 H5 → Refused M s.hd a r f → (∀ w, f = some w → w < M.A.length) → S (ctx B ["self", "asker", "room", "inside", "refused", "wish", "count"] (dAsking 2) 4 cdv "Asking.ask") D [some (.ref ak), some (nI a), some (nI r), some (.ref ti), some (oV f), some (.ref wr), some (nI (M.qs r))] H5 ((defBody (dAsking 2)).drop 6) := by
    intro f H5 k5 hf hfl
    have hA5 := hA4.ex k5
    have o5 := k5.xat o4
    -- what is done when held is as it will be
    have fin2 : ∀ (H6 : Hp), Kp B.G [l1, l2, l3] H5 H6 → AskAt B Cw Cm Ca H6 ak m l1 l2 l3 M { nx := s.nx.set a (i + 1), hd := heldAfter s.hd a r f, st := s.st } → S (ctx B ["self", "asker", "room", "inside", "refused", "wish", "count"] (dAsking 2) 4 cdv "Asking.ask") D [some (.ref ak), some (nI a), some (nI r), some (.ref ti), some (oV f), some (.ref wr), some (nI (M.qs r))] H6 ((defBody (dAsking 2)).drop 7) := by
      intro H6 k6 hA6
      obtain ⟨dx6, o6⟩ := hA6.ob
      obtain ⟨vs6, s6, p6⟩ := hA6.sts
      have l6 : vs6.length < 1000000 := by
        rw [← paired_len p6]
        show s.st.length < 1000000
        omega
      refine s_expr (e_append (Pa := fun y H' => ∃ p, y = .ref p ∧ H6 p = none ∧ H' p = some (.tup [nI a, nI r, oV f])) (e_fld (ev 0) o6 TA.cl TA.nS rfl) s6 (e_tup (a_cons (ev 1) (a_cons (ev 2) (a_1 (ev 4))))) l6) fun v H7 k7 ⟨y, Hx, e1, kx, ⟨q, e2, q0, hq⟩, k8, h8⟩ => ?_
      subst e2
      have hA7 := (hA6.ex kx).addS (p := (a, r, f)) k8 (kx.xat s6) (paired_imp p6 fun p v ⟨q, e, z⟩ => ⟨q, e, ex_t kx z⟩) h8 ⟨q, rfl, .inl (.inl hq)⟩
      obtain ⟨dx7, o7⟩ := hA7.ob
      refine s_ret (e_ixL (e_fld (ev 0) o7 TA.cl TA.nS rfl) (e_neg e_int) (.inl (.inl h8)) (atI_last _ _)) fun v H8 k9 e => hD _ _ ?_ ⟨_, ⟨r, f, i, hW, hi, hf, rfl, rfl, rfl⟩, hA7.ex k9⟩
      exact ((((kk2.then k24).then k5).trans k6).trans ((Kp.pre kx k8).mono (by simp))).then k9
    refine s_if (b := !decide (f = some a)) (t_k (CM.is (c_ne (oV_scal f a) (ev 4) (ev 1)) (by rw [oV_eq]))) (fun hb => ?_) (fun hb => s_next (fin2 H5 Kp.refl ?_))
    · have hfa : f ≠ some a := by simpa using hb
      have hal : a < (s.hd.map oV).length := by rw [List.length_map, hA.lh]; exact ha
      refine s_lput (ev 2) (e_fld (ev 0) o5 TA.cl TA.nH rfl) (ev 1) hA5.h (ixN_nat hal) fun H6 k6 h6 => ?_
      have hA6 := hA5.setH (hd' := s.hd.set a (some r)) k6 (by rw [h6, List.map_set]; rfl) (by rw [List.length_set]; exact hA.lh)
      obtain ⟨dx6, o6⟩ := hA6.ob
      cases f with
      | none =>
        refine s_if (b := false) (t_k (CM.is (c_notN (ev 4)) rfl)) (fun z => nomatch z) fun _ => s_next (s_next (fin2 H6 (k6.mono (by simp)) ?_))
        have : heldAfter s.hd a r none = s.hd.set a (some r) := by unfold heldAfter; rw [if_neg hfa]
        rw [this]
        exact hA6
      | some w =>
        have hwl : w < ((s.hd.set a (some r)).map oV).length := by rw [List.length_map, List.length_set, hA.lh]; exact hfl w rfl
        refine s_if (b := true) (t_k (CM.is (c_notN (ev 4)) rfl)) (fun _ => ?_) (fun z => nomatch z)
        refine s_lput e_non (e_fld (ev 0) o6 TA.cl TA.nH rfl) (ev 4) hA6.h (ixN_nat hwl) fun H7 k7 h7 => ?_
        have hA7 := hA6.setH (hd' := (s.hd.set a (some r)).set w none) k7 (by rw [h7, List.map_set, List.map_set, List.map_set]; rfl) (by rw [List.length_set, List.length_set]; exact hA.lh)
        refine s_next (s_next (fin2 H7 ((k6.trans k7).mono (by simp)) ?_))
        have : heldAfter s.hd a r (some w) = (s.hd.set a (some r)).set w none := by unfold heldAfter; rw [if_neg hfa]
        rw [this]
        exact hA7
    · have hfa : f = some a := by simpa using hb
      have : heldAfter s.hd a r f = s.hd := by unfold heldAfter; rw [if_pos hfa]
      rw [this]
      exact hA5
  refine s_if (b := decide (a ∈ M.Lr r) && decide (0 < M.qs r)) (t_and (t_val (e_meth GH (by show 1 ≤ 4; decide) ht4 (ev 5) (k24.xat o3) rfl (a_1 (ev 1)) ⟨wr, _, a, rfl, r2.ex k24, rfl, rfl⟩)) fun _ => t_k (CM.is (c_gt (i := M.qs r) (j := 0) (ev 6) e_int) (by simp))) (fun hb => ?_) (fun hb => s_next (fin (some a) H4 Kp.refl ?_ fun w e => ?_))
  · have hb' : a ∈ M.Lr r ∧ 0 < M.qs r := by simpa using hb
    refine s_setV (i := 4) e_non ?_
    refine s_if (b := decide ((inN s.hd r).length = M.qs r)) (t_k (CM.is (c_eq (x := nI (inN s.hd r).length) (y := nI (M.qs r)) rfl (EK.is (e_lenSeq TM.len (ev 3) (.inr hti)) (by rw [List.length_map])) (ev 6)) (by simp; omega))) (fun hl => ?_) (fun hl => s_next (s_next (fin none H4 Kp.refl ?_ fun w e => nomatch e)))
    · have hl' : (inN s.hd r).length = M.qs r := by simpa using hl
      have inl : (inN s.hd r).length ≤ 999 := by
        unfold inN
        rw [List.length_map]
        have := List.length_filter_le (fun p => decide (p.1 = some r)) s.hd.zipIdx
        rw [List.length_zipIdx, hA.lh] at this
        have := hM.ok.sa
        omega
      refine s_set (i := 4) (e_methB (PA := fun vs H' => ∃ t, vs = [.ref t] ∧ SqT B.K H' t ((inN s.hd r ++ [a]).map nI)) (P := fun v _ => ∃ w, v = nI w ∧ w ∈ inN s.hd r ++ [a] ∧ w ∈ M.Lr r ∧ ∀ n ∈ inN s.hd r ++ [a], n ∈ M.Lr r → (M.Lr r).idxOf n ≤ (M.Lr r).idxOf w) (SS := []) GW (Nat.le_refl _) ht4 (ev 5) (k24.xat o3) rfl ?_ fun vs H5 k5 ⟨t, e, hq⟩ => ?_) fun v H5 k5 ⟨w, e, h1, h2, h3⟩ => ?_
      · intro H5 k5 Q q
        refine a_1B (e_catT (ev 3) hti (e_tup (a_1 (ev 1))) (ys := [nI a]) (fun y H1 k ⟨q, e, _, hq⟩ => ⟨q, e, .inl (.inl hq)⟩) (by simp; omega)) (fun _ _ => rfl) H5 k5 Q fun vs H6 k6 ⟨x, e, t, e2, hq⟩ => q vs H6 k6 ⟨t, by rw [e, e2], by rw [List.map_append]; exact hq⟩
      · subst e
        exact ⟨wr, M.Lr r, t, inN s.hd r ++ [a], rfl, (r2.ex k24).ex k5, hq, by simp; omega, ⟨a, by simp, hb'.1⟩, rfl, rfl⟩
      · subst e
        refine s_next (s_next (fin (some w) H5 k5 ?_ fun w' e => ?_))
        · unfold Refused
          rw [if_pos hb', if_pos hl']
          exact ⟨w, rfl, h1, h2, h3⟩
        · cases e
          rcases List.mem_append.mp h1 with z | z
          · rw [← hA.lh]
            exact (List.getElem?_eq_some_iff.mp (inN_lt z)).1
          · rw [List.mem_singleton.mp z]
            exact ha
    · have hl' : ¬ (inN s.hd r).length = M.qs r := by simpa using hl
      unfold Refused
      rw [if_pos hb', if_neg hl']
  · unfold Refused
    rw [if_neg (by simpa using hb)]
  · cases e
    exact ha
end
end Pm
end
/-! ## W7 -/
section
set_option Elab.async false
set_option linter.all false
set_option maxRecDepth 100000
set_option maxHeartbeats 2000000
namespace Pm
open PySem L2
/-! ### Asking.go_on, trace -/
inductive AskRuns (M : Mkt) (s : ASt) : ASt → Prop
  | refl : AskRuns M s s
  | step {s1 s2 : ASt} {a : Nat} : AskRuns M s s1 → AskStep M s1 a s2 → AskRuns M s s2
def Done (M : Mkt) (s : ASt) : Prop := ∀ a r, ¬ Wants M s a r
def ASt.init (M : Mkt) : ASt := ⟨List.replicate M.A.length 0, List.replicate M.A.length none, []⟩
def remA (M : Mkt) (s : ASt) : Nat := ((List.range M.A.length).map fun a => (M.La a).length - s.nx.getD a 0).sum
theorem sum_at {f g : Nat → Nat} {a : Nat} : ∀ {n : Nat}, a < n → (∀ b, b ≠ a → g b = f b) → g a + 1 = f a → ((List.range n).map g).sum + 1 = ((List.range n).map f).sum
  | 0, h, _, _ => by omega
  | n + 1, h, h1, h2 => by
    rw [List.range_succ, List.map_append, List.map_append, List.sum_append, List.sum_append]
    by_cases e : n = a
    · subst e
      have : (List.range n).map g = (List.range n).map f := List.map_congr_left fun b hb => h1 b (by have := List.mem_range.mp hb; omega)
      rw [this]
      simp
      omega
    · have := sum_at (f := f) (g := g) (a := a) (n := n) (by omega) h1 h2
      simp [h1 n e]
      omega
theorem sum_le {f : Nat → Nat} {c : Nat} : ∀ {n : Nat}, (∀ b, b < n → f b ≤ c) → ((List.range n).map f).sum ≤ n * c
  | 0, _ => by simp
  | n + 1, h => by
    rw [List.range_succ, List.map_append, List.sum_append, Nat.add_mul]
    have := sum_le (f := f) (c := c) (n := n) fun b hb => h b (by omega)
    have := h n (by omega)
    simp
    omega
theorem rem_step {M : Mkt} {s s' : ASt} {a : Nat} (h : AskStep M s a s') : remA M s' + 1 = remA M s ∧ s'.st.length = s.st.length + 1 := by
  obtain ⟨r, f, i, ⟨ha, _, j, hj, hr⟩, hi, _, h1, _, h3⟩ := h
  rw [hi] at hj
  cases hj
  have hil : i < (M.La a).length := (List.getElem?_eq_some_iff.mp hr).1
  have hal : a < s.nx.length := (List.getElem?_eq_some_iff.mp hi).1
  refine ⟨sum_at ha (fun b hb => ?_) ?_, by rw [h3]; simp⟩
  · rw [h1, List.getD_eq_getElem?_getD, List.getD_eq_getElem?_getD, List.getElem?_set_ne (Ne.symm hb)]
  · rw [h1, List.getD_eq_getElem?_getD, List.getD_eq_getElem?_getD, List.getElem?_set_self hal, hi]
    simp
    omega
def wantsB (M : Mkt) (s : ASt) (a : Nat) : Bool := decide (s.hd[a]? = some none) && decide (s.nx.getD a 0 < (M.La a).length)
theorem wantsB_iff {M : Mkt} {s : ASt} {a : Nat} (ha : a < M.A.length) (ln : s.nx.length = M.A.length) : wantsB M s a = true ↔ ∃ r, Wants M s a r := by
  have h1 : a < s.nx.length := by omega
  unfold wantsB Wants
  simp only [Bool.and_eq_true, decide_eq_true_eq, List.getD_eq_getElem?_getD, List.getElem?_eq_getElem h1, Option.getD_some]
  constructor
  · rintro ⟨h2, h3⟩
    exact ⟨(M.La a)[s.nx[a]], ha, h2, _, rfl, List.getElem?_eq_getElem h3⟩
  · rintro ⟨r, _, h2, i, e, h3⟩
    cases e
    exact ⟨h2, (List.getElem?_eq_some_iff.mp h3).1⟩
def pGoOn (B : Bs) (Cw Cm Ca : Addr) : Pre := fun vs H S P => ∃ ak m l1 l2 l3 M s, vs = [.ref ak] ∧ AskAt B Cw Cm Ca H ak m l1 l2 l3 M s ∧ s.st.length + remA M s ≤ 100000 ∧ S = [l1, l2, l3] ∧ P = fun v H' => ∃ s', AskRuns M s s' ∧ Done M s' ∧ AskAt B Cw Cm Ca H' ak m l1 l2 l3 M s'
theorem pGoOn_ex {B : Bs} {Cw Cm Ca : Addr} : PreEx B.G (pGoOn B Cw Cm Ca) := fun vs H H' S P k ⟨ak, m, l1, l2, l3, M, s, h1, h2, h3⟩ => ⟨ak, m, l1, l2, l3, M, s, h1, h2.ex k, h3⟩
def pTrace (B : Bs) (Cw Cm : Addr) : Pre := fun vs H S P => ∃ m M, vs = [.ref m] ∧ MktAt B Cw Cm H m M ∧ S = [] ∧ P = fun v H' => ∃ s' t vs, AskRuns M (ASt.init M) s' ∧ Done M s' ∧ v = .ref t ∧ SqT B.K H' t vs ∧ Paired (StT B.K H') s'.st vs
theorem pTrace_ex {B : Bs} {Cw Cm : Addr} : PreEx B.G (pTrace B Cw Cm) := fun vs H H' S P k ⟨m, M, h1, h2, h3⟩ => ⟨m, M, h1, h2.ex k, h3⟩
section
variable {B : Bs} {Cw Cm Ca : Addr} (TM : MktC B Cw Cm) (TA : AskC B Ca)
include TM TA
theorem ok_goOn {f : Addr} {fd : FuncData} {cdv : Value} (F : FunC B.K "go_on" "Asking.go_on" (dAsking 3) f fd cdv) (GS : GM B 1 Cm "size" (pSize B Cw Cm)) (GW : GM B 1 Ca "wants" (pWants B Cw Cm Ca)) (GA : GM B 5 Ca "ask" (pAsk B Cw Cm Ca)) : FnOk B.P B.w B.K B.mg B.base CX0 6 f fd ["self"] (spM B.G (pGoOn B Cw Cm Ca)) := by
  refine def_ok F scAsking3 (fun vs H SS P ⟨ak, m, l1, l2, l3, M, s, e, _⟩ => by rw [e]; rfl) fun vs H SS P D ht hp hD _ => ?_
  obtain ⟨ak, m, l1, l2, l3, M, s, rfl, hA, hm, rfl, rfl⟩ := hp
  have sz : ∀ {H1 : Hp} {s1 : ASt}, AskAt B Cw Cm Ca H1 ak m l1 l2 l3 M s1 → ∃ dx la lr t, H1 m = some (.ins Cm dx [("askers", .ref la), ("rooms", .ref lr), ("seats", .ref t)]) := fun h => by
    obtain ⟨dx, la, lr, t, o, _⟩ := (h.mkt _ Kp.refl).mobj
    exact ⟨dx, la, lr, t, o⟩
  have hn : M.A.length ≤ 100 := (hA.mkt H Kp.refl).ok.sa
  obtain ⟨dx, o1⟩ := hA.ob
  obtain ⟨dxm, la, lr, tt, om⟩ := sz hA
  refine s_setLc (i := 1) [("asker", 2)] (lc_V (as := List.range M.A.length) (ei_range TA.range (e_meth0 GS (by show 1 ≤ 5; decide) ht (e_fld (ev 0) o1 TA.cl TA.nM rfl) om rfl ⟨m, M, rfl, hA.mkt H Kp.refl, rfl, rfl⟩) (by omega)) (fun _ _ => trivial) (wantsB M s) nI (by rw [List.length_range]; omega) fun a H1 ha k => ⟨_, eg_name 2, rfl, ts_one (t_val (e_meth GW (by show 1 ≤ 5; decide) (k.tok ht) (ev 0) (k.xat o1) rfl (a_1 (ev 2)) ⟨ak, m, l1, l2, l3, M, s, a, rfl, hA.ex k, List.mem_range.mp ha, rfl, wantsB M s a, wantsB_iff (List.mem_range.mp ha) hA.ln, rfl⟩)), fun _ => ev 2⟩) fun v H1 k1 ⟨lw, e, _, hw⟩ => ?_
  subst e
  refine s_while (fun n σ1 H2 => ∃ s1 lw o2, σ1 = [some (.ref ak), some (.ref lw), o2] ∧ Kp B.G [l1, l2, l3] H H2 ∧ AskAt B Cw Cm Ca H2 ak m l1 l2 l3 M s1 ∧ AskRuns M s s1 ∧ s1.st.length + remA M s1 ≤ 100000 ∧ H2 lw = some (.lst (((List.range M.A.length).filter (wantsB M s1)).map nI)) ∧ n = remA M s1)
    ⟨remA M s, s, lw, none, rfl, k1.ex, hA.ex k1, .refl, hm, hw, rfl⟩ fun n σ1 H2 ⟨s1, lw, o2, e, k2, hA2, hr2, hm2, hw2, en⟩ => ⟨_, t_k (c_neNilN ((ev 1 (by rw [e]; rfl))) hw2), fun hb => ?_, fun hb => ?_⟩
  · subst e
    obtain ⟨dx2, o2'⟩ := hA2.ob
    refine s_ret (e_tupleOf TM.tup (e_fld (ev 0) o2' TA.cl TA.nH rfl) (.inl (.inl (.inl hA2.h)))) fun v H3 k3 _ => hD _ _ (k2.then k3) ⟨s1, hr2, fun a r hW => ?_, hA2.ex k3⟩
    have he : (List.range M.A.length).filter (wantsB M s1) = [] := by simpa using hb
    have : a ∈ (List.range M.A.length).filter (wantsB M s1) := List.mem_filter.mpr ⟨List.mem_range.mpr hW.1, (wantsB_iff hW.1 hA2.ln).mpr ⟨r, hW⟩⟩
    rw [he] at this
    cases this
  · subst e en
    obtain ⟨dx2, o2'⟩ := hA2.ob
    have hne : (List.range M.A.length).filter (wantsB M s1) ≠ [] := by simpa using hb
    obtain ⟨a, as, hcons⟩ := List.exists_cons_of_ne_nil hne
    have hmem := List.mem_filter.mp (show a ∈ (List.range M.A.length).filter (wantsB M s1) by rw [hcons]; simp)
    have han := List.mem_range.mp hmem.1
    obtain ⟨r, hW⟩ := (wantsB_iff han hA2.ln).mp hmem.2
    refine s_expr (e_meth GA (Nat.le_refl _) (k2.tok ht) (ev 0) o2' rfl (a_1 (e_ixL (i := 0) (v := nI a) (ev 1) e_int (.inl (.inl hw2)) (by rw [hcons]; exact atI_zero))) ⟨ak, m, l1, l2, l3, M, s1, a, rfl, hA2, ⟨r, hW⟩, by omega, rfl, rfl⟩) fun v H3 k3 ⟨s2, hs, hA3⟩ => ?_
    have hrm := rem_step hs
    have kk3 : Kp B.G [l1, l2, l3] H H3 := k2.trans k3
    obtain ⟨dx3, o3⟩ := hA3.ob
    obtain ⟨dxm3, la3, lr3, tt3, om3⟩ := sz hA3
    refine s_setLc (i := 1) [("asker", 2)] (lc_V (as := List.range M.A.length) (ei_range TA.range (e_meth0 GS (by show 1 ≤ 5; decide) (kk3.tok ht) (e_fld (ev 0) o3 TA.cl TA.nM rfl) om3 rfl ⟨m, M, rfl, hA3.mkt H3 Kp.refl, rfl, rfl⟩) (by omega)) (fun _ _ => trivial) (wantsB M s2) nI (by rw [List.length_range]; omega) fun a H1 ha k => ⟨_, eg_name 2, rfl, ts_one (t_val (e_meth GW (by show 1 ≤ 5; decide) ((kk3.tok ht) |> k.tok) (ev 0) (k.xat o3) rfl (a_1 (ev 2)) ⟨ak, m, l1, l2, l3, M, s2, a, rfl, hA3.ex k, List.mem_range.mp ha, rfl, wantsB M s2 a, wantsB_iff (List.mem_range.mp ha) hA3.ln, rfl⟩)), fun _ => ev 2⟩) fun v H4 k4 ⟨lw', e, _, hw'⟩ => ?_
    subst e
    exact s_lp ⟨remA M s2, by omega, s2, lw', _, rfl, kk3.then k4, hA3.ex k4, .step hr2 hs, by omega, hw', rfl⟩
theorem ok_trace {f : Addr} {fd : FuncData} {cdv : Value} (F : FunC B.K "trace" "trace" (top 22) f fd cdv) (GI : GK B 2 "Asking" Ca (pAskI B Cw Cm Ca)) (GG : GM B 6 Ca "go_on" (pGoOn B Cw Cm Ca)) : FnOk B.P B.w B.K B.mg B.base CX0 7 f fd ["market"] (spM B.G (pTrace B Cw Cm)) := by
  refine def_ok F sc22 (fun vs H SS P ⟨m, M, e, _⟩ => by rw [e]; rfl) fun vs H SS P D ht hp hD _ => ?_
  obtain ⟨m, M, rfl, hM, rfl, rfl⟩ := hp
  refine s_set (i := 1) (e_makeB (PA := fun vs _ => vs = [.ref m]) (PP := fun p H' => ∃ l1 l2 l3, H l1 = none ∧ H l2 = none ∧ H l3 = none ∧ AskAt B Cw Cm Ca H' p m l1 l2 l3 M (ASt.init M)) GI (by show 3 ≤ 6; decide) ht (a_1 (ev 0)) fun vs H1 p dx H2 k1 e hp k2 ho => ?_) fun v H1 k1 ⟨p, e, _, l1, l2, l3, n1, n2, n3, hA⟩ => ?_
  · subst e
    exact ⟨p, dx, m, M, rfl, ho, fun H' k' => hM.ex (Kp.step (k1.t k2) k' fun x hx => .inr (by rw [List.mem_singleton.mp hx]; exact k1.free hp)), rfl, fun v H' e ⟨l1, l2, l3, a, b, c, d⟩ => ⟨e, l1, l2, l3, (k1.t k2).free a, (k1.t k2).free b, (k1.t k2).free c, d⟩⟩
  · subst e
    obtain ⟨dx, o1⟩ := hA.ob
    have hrem : (ASt.init M).st.length + remA M (ASt.init M) ≤ 100000 := by
      have h1 : remA M (ASt.init M) ≤ M.A.length * 100 := sum_le fun b hb => Nat.le_trans (Nat.sub_le _ _) (hM.ok.la hb).2.2
      have := hM.ok.sa
      show 0 + _ ≤ _
      omega
    refine s_expr (e_meth0 GG (Nat.le_refl _) (k1.tok ht) (ev 1) o1 rfl ⟨p, m, l1, l2, l3, M, ASt.init M, rfl, hA, hrem, rfl, rfl⟩) fun v H2 k2 ⟨s', hr, hd, hA2⟩ => ?_
    have kk : Ex B.G H H2 := Kp.step k1 k2 fun x hx => .inr (by
      simp only [List.mem_cons, List.not_mem_nil, or_false] at hx
      rcases hx with rfl | rfl | rfl
      · exact n1
      · exact n2
      · exact n3)
    obtain ⟨dx2, o2⟩ := hA2.ob
    obtain ⟨vs, h3, hP⟩ := hA2.sts
    exact s_ret (e_tupleOf TM.tup (e_fld (ev 1) o2 TA.cl TA.nS rfl) (.inl (.inl (.inl h3)))) fun v H3 k3 ⟨t, e, ht'⟩ => hD _ _ (kk.t k3) ⟨s', t, vs, hr, hd, e, ht', paired_imp hP fun p v ⟨q, e, z⟩ => ⟨q, e, ex_t k3 z⟩⟩
end
end Pm
end
/-! ## W8 -/
section
set_option Elab.async false
set_option linter.all false
set_option maxRecDepth 100000
set_option maxHeartbeats 2000000
namespace Pm
open PySem L2
/-! ### the first paper -/
def hasB (M : Mkt) (mt : List (Option Nat)) (a r : Nat) : Bool := betterW (M.La a) (mt.getD a none) (some r)
def fullB (M : Mkt) (mt : List (Option Nat)) (a r : Nat) : Bool := decide ((inN mt r).length = M.qs r) && (inN mt r).all fun o => betterW (M.Lr r) (some o) (some a)
def wordB (M : Mkt) (mt : List (Option Nat)) (a r : Nat) : Str := if hasB M mt a r then "has" else "full"
def rowV (M : Mkt) (mt : List (Option Nat)) (p : Nat × Nat) : List V := [nI p.1, nI p.2, .str (wordB M mt p.1 p.2)]
def offP (M : Mkt) (mt : List (Option Nat)) : List (Nat × Nat) := M.pairs.filter fun p => !decide (mt.getD p.1 none = some p.2)
/-- nobody blocks -/
def NoBlock (M : Mkt) (mt : List (Option Nat)) : Prop := ∀ p ∈ offP M mt, hasB M mt p.1 p.2 = true ∨ fullB M mt p.1 p.2 = true
def pWhyNot (B : Bs) (Cw Cm : Addr) : Pre := fun vs H S P => ∃ m M q mt a r, vs = [.ref m, .ref q, nI a, nI r] ∧ MktAt B Cw Cm H m M ∧ SqT B.K H q (mt.map oV) ∧ MatchOk M mt ∧ a < M.A.length ∧ r < M.R.length ∧ (hasB M mt a r = true ∨ fullB M mt a r = true) ∧ S = [] ∧ P = fun v _ => v = .str (wordB M mt a r)
theorem pWhyNot_ex {B : Bs} {Cw Cm : Addr} : PreEx B.G (pWhyNot B Cw Cm) := fun vs H H' S P k ⟨m, M, q, mt, a, r, h1, h2, h3, h4⟩ => ⟨m, M, q, mt, a, r, h1, h2.ex k, ex_t k h3, h4⟩
def pStable (B : Bs) (Cw Cm : Addr) : Pre := fun vs H S P => ∃ m M q mt, vs = [.ref m, .ref q] ∧ MktAt B Cw Cm H m M ∧ SqT B.K H q (mt.map oV) ∧ MatchOk M mt ∧ NoBlock M mt ∧ S = [] ∧ P = fun v H' => TupsAt B.K H' v ((offP M mt).map (rowV M mt))
theorem pStable_ex {B : Bs} {Cw Cm : Addr} : PreEx B.G (pStable B Cw Cm) := fun vs H H' S P k ⟨m, M, q, mt, h1, h2, h3, h4⟩ => ⟨m, M, q, mt, h1, h2.ex k, ex_t k h3, h4⟩
theorem mt_at {M : Mkt} {mt : List (Option Nat)} (h : MatchOk M mt) {a : Nat} (ha : a < M.A.length) : (mt.map oV)[a]? = some (oV (mt.getD a none)) := by
  have : a < mt.length := by rw [h.len]; exact ha
  rw [List.getElem?_map, List.getD_eq_getElem?_getD, List.getElem?_eq_getElem this]
  rfl
theorem pairs_ok {M : Mkt} (h : M.Ok) {p : Nat × Nat} (hp : p ∈ M.pairs) : p.1 < M.A.length ∧ p.2 < M.R.length ∧ p.2 ∈ M.La p.1 ∧ p.1 ∈ M.Lr p.2 := by
  unfold Mkt.pairs at hp
  obtain ⟨a, ha, hp⟩ := List.mem_flatMap.mp hp
  unfold Mkt.row at hp
  obtain ⟨r, hr, rfl⟩ := List.mem_map.mp hp
  obtain ⟨h1, h2⟩ := List.mem_filter.mp hr
  have ha' := List.mem_range.mp ha
  exact ⟨ha', (h.la ha').2.1 r h1, h1, of_decide_eq_true h2⟩
theorem pairs_len {M : Mkt} (h : M.Ok) : M.pairs.length ≤ 10000 := by
  unfold Mkt.pairs
  rw [List.length_flatMap]
  have : ((List.range M.A.length).map fun a => (M.row a).length).sum ≤ M.A.length * 100 := sum_le fun b hb => by
    unfold Mkt.row
    rw [List.length_map]
    exact Nat.le_trans (List.length_filter_le _ _) (h.la hb).2.2
  have := h.sa
  have e : (List.map (fun a => (M.row a).length) (List.range M.A.length)).sum = (List.map (List.length ∘ M.row) (List.range M.A.length)).sum := rfl
  simp only [Function.comp_def] at *
  omega
theorem inN_len {M : Mkt} {mt : List (Option Nat)} (h : MatchOk M mt) (ok : M.Ok) (r : Nat) : (inN mt r).length ≤ 100 := by
  unfold inN
  rw [List.length_map]
  have := List.length_filter_le (fun p => decide (p.1 = some r)) mt.zipIdx
  rw [List.length_zipIdx, h.len] at this
  have := ok.sa
  omega
section
variable {B : Bs} {Cw Cm : Addr} (TM : MktC B Cw Cm) (hall : B.mg "all" = none)
include TM
theorem ok_whyNot {f : Addr} {fd : FuncData} {P c : Addr} (F : FunC B.K "why_not" "why_not" (top 25) f fd (.ref c)) (TB : LamX.TabB B.base B.mg c P) (hmT : (P, ("why_not.<locals>.<genexpr>" : Str)) ∈ B.G) (hu : ∀ p ∈ B.G, p.1 = P → p.2 = ("why_not.<locals>.<genexpr>" : Str)) (hall : B.mg "all" = none)
    (GB : GM B 2 Cw "better" (pBetter B Cw)) (GT : GF B 1 "those_in" (pThoseIn B)) : FnOk B.P B.w B.K B.mg B.base CX0 6 f fd ["market", "match", "asker", "room"] (spM B.G (pWhyNot B Cw Cm)) := by
  refine def_ok F sc25 (fun vs H SS P ⟨m, M, q, mt, a, r, e, _⟩ => by rw [e]; rfl) fun vs H SS P D ht hp hD _ => ?_
  obtain ⟨m, M, q, mt, a, r, rfl, hM, hq, hok, ha, hr, hor, rfl, rfl⟩ := hp
  obtain ⟨wa, w1, w2⟩ := hM.asker ha
  obtain ⟨dx2, t2, dr2, o2, q2⟩ := w2.obj
  obtain ⟨wr, r1, r2⟩ := hM.room hr
  obtain ⟨dx3, t3, dr3, o3, q3⟩ := r2.obj
  refine s_if (b := hasB M mt a r) (t_val (e_meth GB (by show 2 ≤ 5; decide) ht (e_asker TM w1 (ev 0) (ev 2)) o2 rfl (a_cons (e_ixT (ev 1) (ev 2) hq (atI_nat (mt_at hok ha))) (a_1 (ev 3))) ⟨wa, _, mt.getD a none, some r, rfl, w2, rfl, rfl⟩)) (fun hb => ?_) (fun hb => s_next ?_)
  · exact s_ret e_str fun v H2 k e => hD _ _ k (by rw [e]; unfold wordB; rw [if_pos hb])
  have hf : fullB M mt a r = true := by
    rcases hor with h | h
    · rw [h] at hb
      cases hb
    · exact h
  unfold fullB at hf
  simp only [Bool.and_eq_true, decide_eq_true_eq] at hf
  refine s_asg (e_tupB (PA := fun vs H' => ∃ t, vs = [.ref t, .ref wr] ∧ SqT B.K H' t ((inN mt r).map nI)) ?_ (fun vs H1 ⟨t, e, _⟩ => by rw [e]; exact Nat.le_of_ble_eq_true rfl)) (hw := fun X g => swapN2 g .local rfl rfl) fun v H2 k2 ⟨p, vs, H1, ep, _, _, hp2, ⟨t, e, htt1⟩, _, k12⟩ => ?_
  · refine a_consB (e_call GT (by show 1 ≤ 5; decide) ht (a_cons (ev 1) (a_1 (ev 3))) ⟨q, mt, r, rfl, .inr hq, by rw [hok.len]; exact Nat.le_trans hM.ok.sa (by decide), rfl, rfl⟩) fun x H1 k1 ⟨t, e, hq1⟩ => ?_
    subst e
    exact fun H2 k2 Q q' => a_1 (e_room TM (r1.ex k1) (ev 0) (ev 3)) (fun _ _ => rfl) H2 k2 Q fun vs H3 k3 e => q' _ _ k3 ⟨t, by rw [e], ex_t (k2.t k3) hq1⟩
  subst ep e
  have htt := ex_t k12 htt1
  refine ⟨_, eg_tup2 4 5 (.inl (.inl hp2)), ?_⟩
  refine s_if (b := true) (T.is (t_and (s := true) (t := true) (t_k (CM.is (c_eq (x := nI (inN mt r).length) (y := nI (M.qs r)) rfl (EK.is (e_lenSeq TM.len (ev 4) (.inr htt)) (by rw [List.length_map])) (e_seat TM (hM.ex k2) hr (ev 0) (ev 3))) (by simp [hf.1]))) fun _ => T.is (t_val (e_all (as := inN mt r) (j := 6) (fun o => betterW (M.Lr r) (some o) (some a)) 2 (Nat.le_refl _) hall ⟨TB, rfl, rfl, hmT, hu⟩ (ei_tup (ev := nI) (ev 4) htt) (fun H1 k => ex_t k htt) (k2.tok ht) fun o x H1 ho k e => ?_)) hf.2) rfl) (fun _ => ?_) (fun z => nomatch z)
  · subst e
    exact e_meth GB (Nat.le_refl _) (k.tok (k2.tok ht)) (ev 5) ((k2.t k).xat o3) rfl (a_cons (ev 6) (a_1 (ev 2))) ⟨wr, _, some o, some a, rfl, r2.ex (k2.t k), rfl, rfl⟩
  · exact s_ret e_str fun v H3 k e => hD _ _ (k2.t k) (by rw [e]; unfold wordB; rw [if_neg (by rw [hb]; decide)])
theorem ok_stable {f : Addr} {fd : FuncData} {cdv : Value} (F : FunC B.K "stable_paper" "stable_paper" (top 24) f fd cdv) (GP : GM B 2 Cm "pairs" (pPairs B Cw Cm)) (GW : GF B 6 "why_not" (pWhyNot B Cw Cm)) (GU : GF B 3 "unwanted" (pUnwanted B Cw Cm)) : FnOk B.P B.w B.K B.mg B.base CX0 7 f fd ["market", "match"] (spM B.G (pStable B Cw Cm)) := by
  refine def_ok F sc24 (fun vs H SS P ⟨m, M, q, mt, e, _⟩ => by rw [e]; rfl) fun vs H SS P D ht hp hD _ => ?_
  obtain ⟨m, M, q, mt, rfl, hM, hq, hok, hnb, rfl, rfl⟩ := hp
  refine s_set (i := 2) (e_lst a_nil) fun v H1 k1 ⟨l, e1, l0, hl⟩ => ?_
  subst e1
  obtain ⟨dx, la, lr, t, om, _⟩ := (hM.ex k1).mobj
  refine s_forTB (α := (Nat × Nat) × Addr) (e_meth0 GP (by show 2 ≤ 6; decide) (k1.tok ht) (ev 0) om rfl ⟨m, M, rfl, hM.ex k1, rfl, rfl⟩) fun v H2 k2 ⟨tp, vs, e, htp, hP⟩ => ?_
  obtain ⟨zs, e1, e2, hz⟩ := paired_zip (G := fun (p : Nat × Nat) q => H2 q = some (.tup [nI p.1, nI p.2])) hP
  have hl2 := k2.xat hl
  refine ⟨tp, zs, fun z => .ref z.2, fun i σ1 H3 => ∃ o3 o4 vs, σ1 = [some (.ref m), some (.ref q), some (.ref l), o3, o4] ∧ Kp B.G [l] H2 H3 ∧ H3 l = some (.lst vs) ∧ vs.length ≤ i ∧ Paired (fun p v => ∃ t, v = .ref t ∧ SqT B.K H3 t (rowV M mt p)) (((zs.take i).map (fun z => z.1)).filter fun p => !decide (mt.getD p.1 none = some p.2)) vs, e, by rw [← e2]; exact htp, ⟨none, none, [], rfl, Kp.refl, hl2, Nat.le_refl _, .nil⟩, fun i σ1 H3 ⟨_, _, _, _, k, _⟩ => kp_t1 k hl2 (by rw [← e2]; exact htp) (by simp) (by simp), fun i z σ1 H3 hzi ⟨o3, o4, vs3, e3, k3, h3, hlen, hP3⟩ => ?_, fun σ1 H3 ⟨o3, o4, vs3, e3, k3, h3, hlen, hP3⟩ => ?_⟩
  · subst e3
    have hzm : z ∈ zs := List.mem_of_getElem? hzi
    have hpm : z.1 ∈ M.pairs := by rw [← e1]; exact List.mem_map.mpr ⟨z, hzm, rfl⟩
    obtain ⟨pa, pr, pl1, pl2⟩ := pairs_ok hM.ok hpm
    have kk : Ex B.G H H3 := Kp.step (k1.t k2) k3 fun x hx => .inr (by rw [List.mem_singleton.mp hx]; exact l0)
    have hzt : SqT B.K H3 z.2 [nI z.1.1, nI z.1.2] := .inl (.inl (k3.at1 hl2 (hz z hzm) (by simp)))
    refine ⟨_, eg_tup2 3 4 hzt, ?_⟩
    have efil : ((zs.take (i + 1)).map (fun z => z.1)).filter (fun p => !decide (mt.getD p.1 none = some p.2)) = ((zs.take i).map (fun z => z.1)).filter (fun p => !decide (mt.getD p.1 none = some p.2)) ++ (if mt.getD z.1.1 none = some z.1.2 then [] else [z.1]) := by
      rw [List.take_add_one, hzi, List.map_append, List.filter_append]
      congr 1
      show List.filter (fun p => !decide (mt.getD p.1 none = some p.2)) [z.1] = _
      rw [List.filter_cons, List.filter_nil]
      by_cases hc : mt.getD z.1.1 none = some z.1.2
      · rw [if_pos hc, if_neg (by rw [hc]; simp)]
      · rw [if_neg hc, if_pos (by simpa using hc)]
    refine s_if (b := !decide (mt.getD z.1.1 none = some z.1.2)) (t_k (CM.is (c_ne (oV_scal _ _) (e_ixT (ev 1) (ev 3) (ex_t kk hq) (atI_nat (mt_at hok pa))) (ev 4)) (by rw [oV_eq]))) (fun hb => ?_) (fun hb => s_next ?_)
    · have hne : ¬ mt.getD z.1.1 none = some z.1.2 := by simpa using hb
      have hoff : z.1 ∈ offP M mt := List.mem_filter.mpr ⟨hpm, by simpa using hne⟩
      refine s_expr (e_append (Pa := fun y H' => ∃ p, y = .ref p ∧ H3 p = none ∧ H' p = some (.tup (rowV M mt z.1))) (ev 2) h3 (e_tup (a_cons (ev 3) (a_cons (ev 4) (a_1 (e_call GW (Nat.le_refl _) (kk.tok ht) (a_cons (ev 0) (a_cons (ev 1) (a_cons (ev 3) (a_1 (ev 4))))) ⟨m, M, q, mt, z.1.1, z.1.2, rfl, hM.ex kk, ex_t kk hq, hok, pa, pr, hnb _ hoff, rfl, rfl⟩))))) ?_) fun v H4 k4 ⟨y, Hx, e1, kx, ⟨tq, e2, _, hq2⟩, k5, h5⟩ => s_next (s_lp ⟨_, _, _, rfl, k3.trans k4, h5, by simp; omega, ?_⟩)
      · have h1 : zs.length ≤ 10000 := by
          have := pairs_len hM.ok
          rw [← e1, List.length_map] at this
          exact this
        have := (List.getElem?_eq_some_iff.mp hzi).1
        omega
      · subst e2
        rw [efil, if_neg hne]
        refine paired_append (paired_imp hP3 fun p v ⟨t, e, hh⟩ => ⟨t, e, kp_t1 k4 h3 hh (by simp) (by simp)⟩) (.cons ⟨tq, rfl, kp_t1 k5 (kx.xat h3) (.inl (.inl hq2)) (by simp) (by simp)⟩ .nil)
    · have he : mt.getD z.1.1 none = some z.1.2 := by simpa using hb
      refine s_lp ⟨_, _, _, rfl, k3, h3, by omega, ?_⟩
      rw [efil, if_pos he, List.append_nil]
      exact hP3
  · subst e3
    have kk : Ex B.G H H3 := Kp.step (k1.t k2) k3 fun x hx => .inr (by rw [List.mem_singleton.mp hx]; exact l0)
    rw [List.take_length, e1] at hP3
    refine s_if (b := false) (t_k (CM.is (c_neTup0 (ds := []) (n := 0) (e_call GU (by show 3 ≤ 6; decide) (kk.tok ht) (a_cons (ev 0) (a_1 (ev 1))) ⟨m, M, q, mt, rfl, hM.ex kk, ex_t kk hq, hok, rfl, rfl⟩) (fun x H4 k4 ⟨t, e, h⟩ => ⟨t, [], e, h, fun _ _ => .nil⟩) (by intro _ h; cases h)) rfl)) (fun z => nomatch z) fun _ => s_next ?_
    exact s_ret (e_tupleOf TM.tup (ev 2) (.inl (.inl (.inl h3)))) fun v H4 k4 ⟨t, e, ht'⟩ => hD _ _ (kk.t k4) ⟨t, vs3, e, ht', paired_map (paired_imp hP3 fun p v ⟨q, e, h⟩ => ⟨q, e, ex_t k4 h⟩)⟩
end
end Pm
end
/-! ## W9 -/
section
set_option Elab.async false
set_option linter.all false
set_option maxRecDepth 100000
set_option maxHeartbeats 2000000
namespace Pm
open PySem L2
/-! ### the second paper -/
def repl1 (s : List (Option Nat) × List (Nat × Nat × List Nat)) (p : Nat × Nat × Option Nat) : List (Option Nat) × List (Nat × Nat × List Nat) :=
  (heldAfter s.1 p.1 p.2.1 p.2.2, match p.2.2 with
    | none => s.2
    | some w => s.2 ++ [(w, p.2.1, inN (heldAfter s.1 p.1 p.2.1 p.2.2) p.2.1)])
def replay (n : Nat) (st : List (Nat × Nat × Option Nat)) : List (Option Nat) × List (Nat × Nat × List Nat) := st.foldl repl1 (List.replicate n none, [])
abbrev BpR (K : PySem.W.Frag) (H : Hp) (row : Nat × Nat × List Nat) (v : V) : Prop := ∃ q t, v = .ref q ∧ SqT K H q [nI row.1, nI row.2.1, .ref t] ∧ SqT K H t (row.2.2.map nI)
theorem BpR.ex {G : Gt} {K : PySem.W.Frag} {H H1 : Hp} {row : Nat × Nat × List Nat} {v : V} (h : BpR K H row v) (k : Ex G H H1) : BpR K H1 row v := by
  obtain ⟨q, t, e, h1, h2⟩ := h
  exact ⟨q, t, e, ex_t k h1, ex_t k h2⟩
theorem BpR.kp {G : Gt} {K : PySem.W.Frag} {H H1 : Hp} {l : Addr} {u : HO} {row : Nat × Nat × List Nat} {v : V} (h : BpR K H row v) (k : Kp G [l] H H1) (hl : H l = some u) (n1 : ∀ xs, u ≠ .tup xs) (n2 : ∀ o xs, u ≠ .frz o (.tup xs)) : BpR K H1 row v := by
  obtain ⟨q, t, e, h1, h2⟩ := h
  exact ⟨q, t, e, kp_t1 k hl h1 (n1 _) fun o => n2 o _, kp_t1 k hl h2 (n1 _) fun o => n2 o _⟩
def BpAt (K : PySem.W.Frag) (H : Hp) (v : V) (rows : List (Nat × Nat × List Nat)) : Prop := ∃ t vs, v = .ref t ∧ SqT K H t vs ∧ Paired (BpR K H) rows vs
theorem BpAt.ex {G : Gt} {K : PySem.W.Frag} {H H1 : Hp} {rows : List (Nat × Nat × List Nat)} {v : V} (h : BpAt K H v rows) (k : Ex G H H1) : BpAt K H1 v rows := by
  obtain ⟨t, vs, e, h1, h2⟩ := h
  exact ⟨t, vs, e, ex_t k h1, paired_imp h2 fun r v z => z.ex k⟩
def pBest (B : Bs) (Cw Cm : Addr) : Pre := fun vs H S P => ∃ m M, vs = [.ref m] ∧ MktAt B Cw Cm H m M ∧ S = [] ∧ P = fun v H' => ∃ s', AskRuns M (ASt.init M) s' ∧ Done M s' ∧ BpAt B.K H' v (replay M.A.length s'.st).2
theorem pBest_ex {B : Bs} {Cw Cm : Addr} : PreEx B.G (pBest B Cw Cm) := fun vs H H' S P k ⟨m, M, h1, h2, h3⟩ => ⟨m, M, h1, h2.ex k, h3⟩
theorem heldAfter_len {hd : List (Option Nat)} {a r : Nat} {f : Option Nat} : (heldAfter hd a r f).length = hd.length := by
  unfold heldAfter
  split
  · rfl
  · cases f <;> simp
/-- what is true of every step -/
theorem steps_ok {M : Mkt} (ok : M.Ok) {s' : ASt} (h : AskRuns M (ASt.init M) s') : s'.hd.length = M.A.length ∧ s'.nx.length = M.A.length ∧ s'.st.length + remA M s' ≤ 100000 ∧ ∀ p ∈ s'.st, p.1 < M.A.length ∧ p.2.1 < M.R.length ∧ ∀ w, p.2.2 = some w → w < M.A.length := by
  induction h with
  | refl =>
    refine ⟨List.length_replicate, List.length_replicate, ?_, fun p hp => nomatch hp⟩
    have h1 : remA M (ASt.init M) ≤ M.A.length * 100 := sum_le fun b hb => Nat.le_trans (Nat.sub_le _ _) (ok.la hb).2.2
    have := ok.sa
    show 0 + _ ≤ _
    omega
  | step _ hs ih =>
    have hrem := rem_step hs
    obtain ⟨i1, i2, i3, i4⟩ := ih
    obtain ⟨r, f, i, ⟨ha, _, j, hj, hr⟩, hi, hf, e1, e2, e3⟩ := hs
    refine ⟨by rw [e2, heldAfter_len, i1], by rw [e1, List.length_set, i2], by omega, fun p hp => ?_⟩
    rw [e3] at hp
    rcases List.mem_append.mp hp with z | z
    · exact i4 p z
    · rw [List.mem_singleton.mp z]
      refine ⟨ha, (ok.la ha).2.1 r (List.mem_of_getElem? hr), fun w hw => ?_⟩
      have hw : f = some w := hw
      subst hw
      unfold Refused at hf
      split at hf
      · split at hf
        · obtain ⟨w', e, h1, _⟩ := hf
          cases e
          rcases List.mem_append.mp h1 with z | z
          · rw [← i1]
            exact (List.getElem?_eq_some_iff.mp (inN_lt z)).1
          · rw [List.mem_singleton.mp z]
            exact ha
        · cases hf
      · cases hf
        exact ha
section
variable {B : Bs} {Cw Cm : Addr} (TM : MktC B Cw Cm)
include TM
theorem ok_best {f : Addr} {fd : FuncData} {cdv : Value} (F : FunC B.K "best_paper" "best_paper" (top 27) f fd cdv) (GS : GM B 1 Cm "size" (pSize B Cw Cm)) (GT : GF B 7 "trace" (pTrace B Cw Cm)) (GI : GF B 1 "those_in" (pThoseIn B)) : FnOk B.P B.w B.K B.mg B.base CX0 8 f fd ["market"] (spM B.G (pBest B Cw Cm)) := by
  refine def_ok F sc27 (fun vs H SS P ⟨m, M, e, _⟩ => by rw [e]; rfl) fun vs H SS P D ht hp hD _ => ?_
  obtain ⟨m, M, rfl, hM, rfl, rfl⟩ := hp
  obtain ⟨dx, la, lr, t, om, _⟩ := hM.mobj
  refine s_par (PA := fun vs H' => ∃ l1 l2, vs = [.ref l1, .ref l2] ∧ H l1 = none ∧ H l2 = none ∧ l1 ≠ l2 ∧ H' l1 = some (.lst []) ∧ H' l2 = some (.lst (List.replicate M.A.length .non))) 1 2 ?_ fun vs H1 k1 ⟨l1, l2, e, n1, n2, n12, g1, g2⟩ => ⟨_, _, e, ?_⟩
  · refine a_consB (e_lst a_nil) fun x H1 k1 ⟨l1, e, n1, g1⟩ => ?_
    subst e
    intro H2 k2 Q q'
    refine a_1B (e_rep e_non (e_meth0 GS (by show 1 ≤ 7; decide) (k1.tok ht) (ev 0) (k1.xat om) rfl ⟨m, M, rfl, hM.ex k1, rfl, rfl⟩) (Nat.le_trans hM.ok.sa (by decide))) (fun _ _ => rfl) H2 k2 Q fun vs H3 k3 ⟨x, e, l2, e2, n2, g2⟩ => q' vs H3 k3 ⟨l1, l2, by rw [e, e2], n1, k1.free n2, fun z => ?_, k3.xat (k2.xat g1), g2⟩
    rw [← z, g1] at n2
    cases n2
  refine s_forTB (α := (Nat × Nat × Option Nat) × Addr) (e_call GT (Nat.le_refl _) (k1.tok ht) (a_1 (ev 0)) ⟨m, M, rfl, hM.ex k1, rfl, rfl⟩) fun v H2 k2 ⟨s', tp, vs, hr, hd, e, htp, hP⟩ => ?_
  obtain ⟨zs, e1, e2, hz⟩ := paired_zip hP
  obtain ⟨i1, i2, i3, i4⟩ := steps_ok hM.ok hr
  have hlen : zs.length ≤ 100000 := by
    have : zs.length = s'.st.length := by rw [← e1, List.length_map]
    omega
  have k02 : Ex B.G H H2 := k1.t k2
  have new : ∀ {H3 : Hp}, Kp B.G [l1, l2] H2 H3 → Ex B.G H H3 := fun k => Kp.step k02 k fun x hx => .inr (by
    simp only [List.mem_cons, List.not_mem_nil, or_false] at hx
    rcases hx with rfl | rfl
    · exact n1
    · exact n2)
  have tup_kp : ∀ {H3 : Hp} {q : Addr} {xs : List V}, Kp B.G [l1, l2] H2 H3 → SqT B.K H2 q xs → SqT B.K H3 q xs := fun {H3 q xs} k h => by
    have nl : ∀ {o}, H2 q = some o → (∀ xs, o ≠ .lst xs) → q ∉ [l1, l2] := fun {o} hq no hx => by
      simp only [List.mem_cons, List.not_mem_nil, or_false] at hx
      rcases hx with e | e
      · rw [e, k2.xat g1] at hq
        exact no _ (Option.some.inj hq).symm
      · rw [e, k2.xat g2] at hq
        exact no _ (Option.some.inj hq).symm
    rcases h with (z | ⟨o, z⟩) | z
    · exact .inl (.inl (k.at z (nl z (by simp))))
    · exact .inl (.inr ⟨o, k.at z (nl z (by simp))⟩)
    · exact .inr z
  refine ⟨tp, zs, fun z => .ref z.2, fun i σ1 H3 => ∃ o3 o4 o5 vs, σ1 = [some (.ref m), some (.ref l1), some (.ref l2), o3, o4, o5] ∧ Kp B.G [l1, l2] H2 H3 ∧ H3 l1 = some (.lst vs) ∧ vs.length ≤ i ∧ H3 l2 = some (.lst ((replay M.A.length ((zs.take i).map (fun z => z.1))).1.map oV)) ∧ Paired (BpR B.K H3) (replay M.A.length ((zs.take i).map (fun z => z.1))).2 vs, e, by rw [← e2]; exact htp, ⟨none, none, none, [], rfl, Kp.refl, k2.xat g1, Nat.le_refl _, ?_, .nil⟩, fun i σ1 H3 ⟨_, _, _, _, _, k, _⟩ => by rw [← e2]; exact tup_kp k htp, fun i z σ1 H3 hzi ⟨o3, o4, o5, vs3, e3, k3, h1, hl, h2, hP3⟩ => ?_, fun σ1 H3 ⟨o3, o4, o5, vs3, e3, k3, h1, hl, h2, hP3⟩ => ?_⟩
  · show H2 l2 = some (.lst ((List.replicate M.A.length none).map oV))
    rw [List.map_replicate]
    exact k2.xat g2
  · subst e3
    have hzm : z ∈ zs := List.mem_of_getElem? hzi
    have hpm : z.1 ∈ s'.st := by rw [← e1]; exact List.mem_map.mpr ⟨z, hzm, rfl⟩
    obtain ⟨pa, pr, pw⟩ := i4 _ hpm
    have il : i < zs.length := (List.getElem?_eq_some_iff.mp hzi).1
    refine ⟨_, eg_tup3 3 4 5 (tup_kp k3 (hz z hzm)), ?_⟩
    generalize hR : replay M.A.length ((zs.take i).map (fun z => z.1)) = R at *
    have eR : replay M.A.length ((zs.take (i + 1)).map (fun z => z.1)) = repl1 R z.1 := by
      rw [List.take_add_one, hzi, List.map_append, ← hR]
      unfold replay
      rw [List.foldl_append]
      rfl
    have lR : R.1.length = M.A.length := by
      have : ∀ (st : List (Nat × Nat × Option Nat)) (s0 : List (Option Nat) × List (Nat × Nat × List Nat)), (st.foldl repl1 s0).1.length = s0.1.length := by
        intro st
        induction st with
        | nil => intro s0; rfl
        | cons p r ih => intro s0; rw [List.foldl_cons, ih]; exact heldAfter_len
      rw [← hR]
      unfold replay
      rw [this]
      exact List.length_replicate
    obtain ⟨⟨a, r, f⟩, adr⟩ := z
    have pa : a < M.A.length := pa
    have pr : r < M.R.length := pr
    have fin : ∀ (w : Nat) (H5 : Hp), f = some w → Kp B.G [l1, l2] H2 H5 → H5 l1 = some (.lst vs3) → H5 l2 = some (.lst ((heldAfter R.1 a r f).map oV)) → Paired (BpR B.K H5) R.2 vs3 → ∀ (DD : Ends), (∀ H6, (∃ vs, Kp B.G [l1, l2] H2 H6 ∧ H6 l1 = some (.lst vs) ∧ vs.length ≤ i + 1 ∧ H6 l2 = some (.lst ((heldAfter R.1 a r f).map oV)) ∧ Paired (BpR B.K H6) (R.2 ++ [(w, r, inN (heldAfter R.1 a r f) r)]) vs) → S (ctx B ["market", "found", "held", "asker", "room", "refused"] (top 27) 7 cdv "best_paper") DD [some (.ref m), some (.ref l1), some (.ref l2), some (nI a), some (nI r), some (oV f)] H6 []) →
        ∀ {p1 p2 p3 p4 p5 p6 p7 p8 p9 p10 p11 : Pos} {x1 : Nat}, (p2.endLine == p10.line) = true → S (ctx B ["market", "found", "held", "asker", "room", "refused"] (top 27) 7 cdv "best_paper") DD [some (.ref m), some (.ref l1), some (.ref l2), some (nI a), some (nI r), some (oV f)] H5
          [.Expr (.Call (.Attribute (.Name "found" p1) "append" p2) [.Tuple [.Name "refused" p3, .Name "room" p4, .Call (.Name "those_in" p5) [.Name "held" p6, .Name "room" p7] [] p8] x1 p9] [] p10) p11] := by
      intro w H5 hf k5 g1' g2' hP5 DD hDD p1 p2 p3 p4 p5 p6 p7 p8 p9 p10 p11 x1 hline
      subst hf
      refine s_expr (e_append (Pa := fun y H' => ∃ q t, y = .ref q ∧ SqT B.K H' q [nI w, nI r, .ref t] ∧ SqT B.K H' t ((inN (heldAfter R.1 a r (some w)) r).map nI)) (ev 1) g1' (EK.imp (e_tupB (PA := fun vs H' => ∃ t, vs = [nI w, nI r, .ref t] ∧ SqT B.K H' t ((inN (heldAfter R.1 a r (some w)) r).map nI)) (a_consV (PA' := fun vs H' => ∃ t, vs = [nI r, .ref t] ∧ SqT B.K H' t ((inN (heldAfter R.1 a r (some w)) r).map nI)) (ev 5) (a_consV (ev 4) (a_1B (e_call GI (by show 1 ≤ 7; decide) ((new k5).tok ht) (a_cons (ev 2) (a_1 (ev 4))) ⟨l2, heldAfter R.1 a r (some w), r, rfl, .inl (.inl (.inl g2')), by rw [heldAfter_len, lR]; exact Nat.le_trans hM.ok.sa (by decide), rfl, rfl⟩)) (fun vs H1 ⟨x, e, t, e2, h⟩ => ⟨t, by rw [e, e2], h⟩)) (fun vs H1 ⟨t, e, h⟩ => ⟨t, by rw [e]; rfl, h⟩)) (fun vs H1 ⟨t, e, _⟩ => by rw [e]; exact Nat.le_of_ble_eq_true rfl)) fun v H6 k6 ⟨p, vs, Hx, e, _, _, hp, ⟨t, e2, h⟩, _, k7⟩ => ⟨p, t, e, .inl (.inl (by rw [hp, e2])), ex_t k7 h⟩) (by omega) (hline := hline)) fun v H6 k6 ⟨y, Hx, _, kx, ⟨q, t, e, hq, hh⟩, k7, h7⟩ => hDD H6 ⟨_, k5.trans (k6.mono (by simp)), h7, by simp; omega, k6.at g2' (by simpa using Ne.symm n12), ?_⟩
      exact paired_append (paired_imp hP5 fun r v z => z.kp k6 g1' (by simp) (by simp)) (.cons (BpR.kp ⟨q, t, e, hq, hh⟩ k7 (kx.xat g1') (by simp) (by simp)) .nil)
    have hal : a < (R.1.map oV).length := by rw [List.length_map, lR]; exact pa
    cases f with
    | none =>
      refine s_if (b := true) (t_k (CM.is (c_ne (oV_scal none a) (ev 5) (ev 3)) rfl)) (fun _ => ?_) (fun z => nomatch z)
      refine s_lput (ev 4) (ev 2) (ev 3) h2 (ixN_nat hal) fun H4 k4 h4 => s_next ?_
      refine s_if (b := false) (t_k (CM.is (c_notN (ev 5)) rfl)) (fun z => nomatch z) fun _ => s_next (s_lp ⟨_, _, _, vs3, rfl, k3.trans (k4.mono (by simp)), k4.at h1 (by simpa using n12), by omega, ?_, ?_⟩)
      · rw [eR, h4]
        show some (HO.lst ((R.1.map oV).set a (nI r))) = some (HO.lst ((heldAfter R.1 a r none).map oV))
        unfold heldAfter
        rw [if_neg (by simp), List.map_set]
        rfl
      · rw [eR]
        exact paired_imp hP3 fun r v z => z.kp k4 h2 (by simp) (by simp)
    | some w =>
      have pw : w < M.A.length := pw w rfl
      by_cases hwa : w = a
      · subst hwa
        refine s_if (b := false) (t_k (CM.is (c_ne (oV_scal (some w) w) (ev 5) (ev 3)) (by simp [oV]))) (fun z => nomatch z) fun _ => s_next ?_
        refine s_if (b := true) (t_k (CM.is (c_notN (ev 5)) rfl)) (fun _ => ?_) (fun z => nomatch z)
        refine s_if (b := false) (t_k (CM.is (c_ne (oV_scal (some w) w) (ev 5) (ev 3)) (by simp [oV]))) (fun z => nomatch z) fun _ => s_next ?_
        refine fin w H3 rfl k3 h1 ?_ hP3 _ (fun H6 ⟨vs, a1, a2, a3, a4, a5⟩ => s_next (s_lp ⟨_, _, _, vs, rfl, a1, a2, a3, by rw [eR]; exact a4, by rw [eR]; exact a5⟩)) rfl
        unfold heldAfter
        rw [if_pos rfl]
        exact h2
      · have hne : ¬ (some w : Option Nat) = some a := by simpa using hwa
        have eh : heldAfter R.1 a r (some w) = (R.1.set a (some r)).set w none := by
          unfold heldAfter
          rw [if_neg hne]
        refine s_if (b := true) (t_k (CM.is (c_ne (oV_scal (some w) a) (ev 5) (ev 3)) (by rw [oV_eq]; simp [hwa]))) (fun _ => ?_) (fun z => nomatch z)
        refine s_lput (ev 4) (ev 2) (ev 3) h2 (ixN_nat hal) fun H4 k4 h4 => s_next ?_
        refine s_if (b := true) (t_k (CM.is (c_notN (ev 5)) rfl)) (fun _ => ?_) (fun z => nomatch z)
        refine s_if (b := true) (t_k (CM.is (c_ne (oV_scal (some w) a) (ev 5) (ev 3)) (by rw [oV_eq]; simp [hwa]))) (fun _ => ?_) (fun z => nomatch z)
        have hwl : w < ((R.1.map oV).set a (nI r)).length := by rw [List.length_set, List.length_map, lR]; exact pw
        refine s_lput e_non (ev 2) (ev 5) h4 (ixN_nat hwl) fun H5 k5 h5 => s_next ?_
        refine fin w H5 rfl ((k3.trans (k4.mono (by simp))).trans (k5.mono (by simp))) (k5.at (k4.at h1 (by simpa using n12)) (by simpa using n12)) ?_ (paired_imp hP3 fun r v z => (z.kp k4 h2 (by simp) (by simp)).kp k5 h4 (by simp) (by simp)) _ (fun H6 ⟨vs, a1, a2, a3, a4, a5⟩ => s_next (s_lp ⟨_, _, _, vs, rfl, a1, a2, a3, by rw [eR]; exact a4, by rw [eR]; exact a5⟩)) rfl
        rw [h5, eh, List.map_set, List.map_set]
        rfl
  · subst e3
    rw [List.take_length, e1] at hP3
    exact s_ret (e_tupleOf TM.tup (ev 1) (.inl (.inl (.inl h1)))) fun v H4 k4 ⟨t, e, ht'⟩ => hD _ _ ((new k3).t k4) ⟨s', hr, hd, t, vs3, e, ht', paired_imp hP3 fun r v z => z.ex k4⟩
end
end Pm
end
/-! ## W10 -/
section
set_option Elab.async false
set_option linter.all false
set_option maxRecDepth 100000
set_option maxHeartbeats 2000000
namespace Pm
open PySem L2
def GoneAt (H : Hp) (g : Addr) (gs : List (Nat × Nat)) : Prop := ∃ kvs, H g = some (.dT kvs) ∧ (∀ a r : Nat, (valV kvs [(Sum.inl (a : Int) : L2.Key), Sum.inl (r : Int)]).isSome = decide ((a, r) ∈ gs)) ∧ kvs.length ≤ gs.length
theorem GoneAt.ex {G : Gt} {H H' : Hp} {g : Addr} {gs : List (Nat × Nat)} (h : GoneAt H g gs) (k : Ex G H H') : GoneAt H' g gs := by
  obtain ⟨kvs, h1, h2⟩ := h
  exact ⟨kvs, k.xat h1, h2⟩
/-- by right -/
def hbr (M : Mkt) (gs : List (Nat × Nat)) (h r a : Nat) : Bool := M.likes h r && betterW (M.Lr r) (some h) (some a) && (aheadW (M.La h) (some r)).all fun o => decide ((h, o) ∈ gs)
def RowOk (M : Mkt) (gs : List (Nat × Nat)) (x : Nat × Nat × List Nat) : Prop := x.1 < M.A.length ∧ x.2.1 < M.R.length ∧ (∀ h ∈ x.2.2, h < M.A.length) ∧ x.2.2.length ≤ 1000 ∧ (x.1 ∈ M.Lr x.2.1 → x.2.2.length = M.qs x.2.1 ∧ x.2.2.Nodup ∧ ∀ h ∈ x.2.2, hbr M gs h x.2.1 x.1 = true)
abbrev kys (rows : List (Nat × Nat × List Nat)) : List (Nat × Nat) := rows.map fun x => (x.1, x.2.1)
def RowsOk (M : Mkt) (rows : List (Nat × Nat × List Nat)) : Prop := rows.length ≤ 100000 ∧ ∀ i x, rows[i]? = some x → RowOk M (kys (rows.take i)) x
def FinA (M : Mkt) (mt : List (Option Nat)) (gs : List (Nat × Nat)) (a : Nat) : Prop := ∀ r ∈ aheadW (M.La a) (mt.getD a none), (a, r) ∈ gs
def FinAll (M : Mkt) (mt : List (Option Nat)) (gs : List (Nat × Nat)) : Prop := ∀ a, a < M.A.length → FinA M mt gs a
def pHbr (B : Bs) (Cw Cm : Addr) : Pre := fun vs H S P => ∃ m M g gs h r a, vs = [.ref m, .ref g, nI h, nI r, nI a] ∧ MktAt B Cw Cm H m M ∧ GoneAt H g gs ∧ h < M.A.length ∧ r < M.R.length ∧ S = [] ∧ P = fun v _ => v = .bl (hbr M gs h r a)
theorem pHbr_ex {B : Bs} {Cw Cm : Addr} : PreEx B.G (pHbr B Cw Cm) := fun vs H H' S P k ⟨m, M, g, gs, h, r, a, h1, h2, h3, h4⟩ => ⟨m, M, g, gs, h, r, a, h1, h2.ex k, h3.ex k, h4⟩
def pCheckBest (B : Bs) (Cw Cm Cp : Addr) : PreX := fun vs H S P PX => ∃ m M q mt v rows, vs = [.ref m, .ref q, v] ∧ MktAt B Cw Cm H m M ∧ SqT B.K H q (mt.map oV) ∧ MatchOk M mt ∧ BpAt B.K H v rows ∧ RowsOk M rows ∧ S = [] ∧ (P = fun v _ => v = .bl true ∧ FinAll M mt (kys rows)) ∧ PX = fun c _ => c = .ref Cp ∧ ¬ FinAll M mt (kys rows)
theorem pCheckBest_ex {B : Bs} {Cw Cm Cp : Addr} : PreExX B.G (pCheckBest B Cw Cm Cp) := fun vs H H' S P PX k ⟨m, M, q, mt, v, rows, h1, h2, h3, h4, h5, h6⟩ => ⟨m, M, q, mt, v, rows, h1, h2.ex k, ex_t k h3, h4, h5.ex k, h6⟩
theorem aheadW_sub {ord : List Nat} {o : Option Nat} {x : Nat} (h : x ∈ aheadW ord o) : x ∈ ord := by
  unfold aheadW at h
  split at h
  · exact h
  · exact List.mem_of_mem_take h
section
variable {B : Bs} {Cw Cm : Addr} (TM : MktC B Cw Cm)
include TM
theorem ok_hbr {f : Addr} {fd : FuncData} {P c : Addr} (F : FunC B.K "holds_by_right" "holds_by_right" (top 29) f fd (.ref c)) (TB : LamX.TabB B.base B.mg c P) (hmT : (P, ("holds_by_right.<locals>.<genexpr>" : Str)) ∈ B.G) (hu : ∀ p ∈ B.G, p.1 = P → p.2 = ("holds_by_right.<locals>.<genexpr>" : Str)) (hall : B.mg "all" = none)
    (GL : GM B 2 Cm "likes" (pLikes B Cw Cm)) (GB : GM B 2 Cw "better" (pBetter B Cw)) (GA : GM B 2 Cw "ahead_of" (pAhead B Cw)) : FnOk B.P B.w B.K B.mg B.base CX0 4 f fd ["market", "gone", "holder", "room", "asker"] (spM B.G (pHbr B Cw Cm)) := by
  refine def_ok F sc29 (fun vs H SS P ⟨m, M, g, gs, h, r, a, e, _⟩ => by rw [e]; rfl) fun vs H SS P D ht hp hD _ => ?_
  obtain ⟨m, M, g, gs, h, r, a, rfl, hM, hG, hh, hr, rfl, rfl⟩ := hp
  obtain ⟨dx, la, lr, t, om, _⟩ := hM.mobj
  obtain ⟨wh, w1, w2⟩ := hM.asker hh
  obtain ⟨dx2, t2, dr2, o2, q2⟩ := w2.obj
  obtain ⟨wr, r1, r2⟩ := hM.room hr
  obtain ⟨dx3, t3, dr3, o3, q3⟩ := r2.obj
  refine s_if (b := !M.likes h r || !betterW (M.Lr r) (some h) (some a)) (t_or (t_not (t_val (e_meth GL (by show 2 ≤ 3; decide) ht (ev 0) om rfl (a_cons (ev 2) (a_1 (ev 3))) ⟨m, M, h, r, rfl, hM, hh, hr, rfl, rfl⟩))) fun _ => t_not (t_val (e_meth GB (by show 2 ≤ 3; decide) ht (e_room TM r1 (ev 0) (ev 3)) o3 rfl (a_cons (ev 2) (a_1 (ev 4))) ⟨wr, _, some h, some a, rfl, r2, rfl, rfl⟩))) (fun hb => ?_) (fun hb => s_next ?_)
  · exact s_ret e_bl fun v H2 k e => hD _ _ k (by
      rw [e]
      congr 1
      unfold hbr
      cases h1 : M.likes h r <;> cases h2 : betterW (M.Lr r) (some h) (some a) <;> simp_all)
  · obtain ⟨kvs, g1, g2, _⟩ := hG
    refine s_ret (e_allp (as := aheadW (M.La h) (some r)) (j := 5) (fun o => decide ((h, o) ∈ gs)) 0 (Nat.le_refl _) hall ⟨TB, rfl, rfl, hmT, hu⟩ (eip_tupB (ev := nI) (e_meth GA (by show 2 ≤ 3; decide) ht (e_asker TM w1 (ev 0) (ev 2)) o2 rfl (a_1 (ev 3)) ⟨wh, _, some r, rfl, w2, rfl, rfl⟩) fun x H1 k ⟨t, e, ht'⟩ => ⟨t, e, ht'⟩) ht fun o x H1 ho k e => ?_) fun v H2 k e => hD _ _ k (by
      rw [e]
      congr 1
      unfold hbr
      cases h1 : M.likes h r <;> cases h2 : betterW (M.Lr r) (some h) (some a) <;> simp_all)
    subst e
    exact e_k (CM.is (c_dinT (key := [Sum.inl (h : Int), Sum.inl (o : Int)]) (e_tup (a_cons (ev 2) (a_1 (ev 5)))) (ev 1) (.inl (k.xat g1))) (g2 h o))
theorem ok_checkBest {f : Addr} {fd : FuncData} {P c Cp : Addr} (EP : ExcC B "BadPaper" Cp) (F : FunC B.K "check_best" "check_best" (top 28) f fd (.ref c)) (TB : LamX.TabB B.base B.mg c P) (hmT : (P, ("check_best.<locals>.<genexpr>" : Str)) ∈ B.G) (hu : ∀ p ∈ B.G, p.1 = P → p.2 = ("check_best.<locals>.<genexpr>" : Str))
    (GS : GM B 1 Cm "size" (pSize B Cw Cm)) (GH : GM B 1 Cw "has" (pHas B Cw)) (GA : GM B 2 Cw "ahead_of" (pAhead B Cw)) (GR : GF B 4 "holds_by_right" (pHbr B Cw Cm)) : FnOk B.P B.w B.K B.mg B.base (L2.CX B.P B.w) 8 f fd ["market", "match", "paper"] (spX B.G (pCheckBest B Cw Cm Cp)) := by
  refine def_okX F sc28 (fun vs H SS P PX ⟨m, M, q, mt, v, rows, e, _⟩ => by rw [e]; rfl) fun vs H SS P PX D E ht hp hD _ hE => ?_
  obtain ⟨m, M, q, mt, v, rows, rfl, hM, hq, hok, ⟨tp, vsP, rfl, htp, hP⟩, hrows, rfl, rfl, rfl⟩ := hp
  obtain ⟨hrl, hrow⟩ := hrows
  obtain ⟨zs, e1, e2, hz⟩ := paired_zip (G := fun (row : Nat × Nat × List Nat) q => ∃ t, SqT B.K H q [nI row.1, nI row.2.1, .ref t] ∧ SqT B.K H t (row.2.2.map nI)) (paired_imp hP fun r v ⟨q, t, e, h1, h2⟩ => ⟨q, e, t, h1, h2⟩)
  subst e2
  have lz : zs.length = rows.length := by rw [← e1, List.length_map]
  refine s_set (i := 3) e_dnewT fun v H1 k1 ⟨g, e, g0, hg⟩ => ?_
  subst e
  refine s_forV (as := zs) (ev := fun z => V.ref z.2) (fun i σ1 H2 => ∃ o4 o5 o6 o7, σ1 = [some (.ref m), some (.ref q), some (.ref tp), some (.ref g), o4, o5, o6, o7, none, none] ∧ Ex B.G H H2 ∧ GoneAt H2 g (kys (rows.take i))) (ei_tup (ev 2) (ex_t k1 htp)) ⟨none, none, none, none, rfl, k1, [], hg, fun a r => by simp [valV], Nat.zero_le _⟩ (fun i σ1 H2 _ ⟨_, _, _, _, _, k, _⟩ => ex_t k htp)
    (fun i z σ1 H2 hzi ⟨o4, o5, o6, o7, e, k2, hG⟩ => ?_) fun σ1 H2 ⟨o4, o5, o6, o7, e, k2, hG⟩ => ?_
  · subst e
    have hzm : z ∈ zs := List.mem_of_getElem? hzi
    have hri : rows[i]? = some z.1 := by rw [← e1, List.getElem?_map, hzi]; rfl
    obtain ⟨t, hq1, hq2⟩ := hz z hzm
    obtain ⟨⟨w, r, hs⟩, adr⟩ := z
    obtain ⟨ow, orr, oh, ohl, oby⟩ := hrow i _ hri
    have hM2 := hM.ex k2
    have ht2 := k2.tok ht
    obtain ⟨dx, la, lr, ts, om, _⟩ := hM2.mobj
    have hq1' : SqT B.K H2 adr [nI w, nI r, .ref t] := ex_t k2 hq1
    have hq2' : SqT B.K H2 t (hs.map nI) := ex_t k2 hq2
    refine ⟨_, eg_tup3 4 5 6 hq1', ?_⟩
    refine s_if (b := false) (T.is (t_or (s := false) (t := false) (T.is (t_val (e_anyp (as := hs ++ [w]) (j := 8) (fun n => !(decide ((0 : Int) ≤ n) && decide ((n : Int) < M.A.length))) 1 (by show 4 ≤ 7; decide) TM.any ⟨TB, rfl, rfl, hmT, hu⟩ (eip_tupB (ev := nI) (e_catT (e_tupleT TM.tup (ev 6) hq2') hq2' (e_tup (a_1 (ev 4))) (ys := [nI w]) (fun y H3 k ⟨q, e, _, hq⟩ => ⟨q, e, .inl (.inl hq)⟩) (by simp; have : hs.length ≤ 1000 := ohl; omega)) fun x H3 k ⟨t', e, h⟩ => ⟨t', e, by rw [List.map_append]; exact h⟩) ht2 fun n x H3 hn k e => ?_)) ?_)
      fun _ => T.is (t_not (t_chain (fun X _ => op_le) (fun X _ => op_lt) e_int (ev 5) (e_lenR TM hM2 (ev 0)))) (by have : r < M.R.length := orr; simp; omega)) rfl) (fun z => nomatch z) fun _ => s_next ?_
    · subst e
      exact e_not (e_chain (fun X _ => op_le) (fun X _ => op_lt) e_int (ev 8) (e_meth0 GS (Nat.le_refl _) (k.tok ht2) (ev 0) (k.xat om) rfl ⟨m, M, rfl, hM2.ex k, rfl, rfl⟩))
    · rw [List.any_eq_false]
      intro n hn
      have : n < M.A.length := by
        rcases List.mem_append.mp hn with z | z
        · exact oh n z
        · rw [List.mem_singleton.mp z]
          exact ow
      simp
      omega
    obtain ⟨wr, r1, r2⟩ := hM2.room orr
    obtain ⟨dx3, t3, dr3, o3, q3⟩ := r2.obj
    refine s_setV (i := 7) (e_room TM r1 (ev 0) (ev 5)) ?_
    have put : ∀ {p1 p2 p3 p4 p5 p6 p7 : Pos} {x1 j : Nat}, S (ctxX B ["market", "match", "paper", "gone", "asker", "room", "holders", "wish", "one", "holder"] (top 28) 7 (.ref c) "check_best" (fun cls d _ H => E cls d H)) (lpS (ctxX B ["market", "match", "paper", "gone", "asker", "room", "holders", "wish", "one", "holder"] (top 28) 7 (.ref c) "check_best" (fun cls d _ H => E cls d H)) ((defBody (top 28)).drop 2) D (fun σ1 H2 => ∃ o4 o5 o6 o7, σ1 = [some (.ref m), some (.ref q), some (.ref tp), some (.ref g), o4, o5, o6, o7, none, none] ∧ Ex B.G H H2 ∧ GoneAt H2 g (kys (rows.take (i + 1)))))
        [some (.ref m), some (.ref q), some (.ref tp), some (.ref g), some (nI w), some (nI r), some (.ref t), some (.ref wr), none, none] H2 [.Assign [.Subscript (.Name "gone" p1) (.Tuple [.Name "asker" p2, .Name "room" p3] x1 p4) p5] (.Constant (.int 1) j p6) p7] := by
      intro p1 p2 p3 p4 p5 p6 p7 x1 j
      obtain ⟨kvs, g1, g2, g3⟩ := hG
      have ktake : kys (rows.take (i + 1)) = kys (rows.take i) ++ [(w, r)] := by
        unfold kys
        rw [List.take_add_one, hri, List.map_append]
        rfl
      refine s_dputT (key := [Sum.inl (w : Int), Sum.inl (r : Int)]) e_int (ev 3) (e_tup (a_cons (ev 4) (a_1 (ev 5)))) g1 ?_ fun H3 H4 k3 k4 h4 => s_lp ⟨_, _, _, _, rfl, Kp.step (k2.t k3) k4 fun x hx => .inr (by rw [List.mem_singleton.mp hx]; exact g0), _, h4, fun a r' => ?_, ?_⟩
      · have : (kys (rows.take i)).length ≤ 100000 := by
          unfold kys
          rw [List.length_map]
          exact Nat.le_trans (List.length_take_le' _ _) hrl
        omega
      · rw [valV_put, ktake]
        by_cases hc : a = w ∧ r' = r
        · obtain ⟨rfl, rfl⟩ := hc
          rw [if_pos rfl]
          simp
        · rw [if_neg (fun z => hc (by simp at z; omega)), g2]
          have : (a, r') ∈ kys (rows.take i) ++ [(w, r)] ↔ (a, r') ∈ kys (rows.take i) := by
            simp
            intro z1 z2
            exact absurd ⟨z1, z2⟩ hc
          exact (decide_eq_decide.mpr this).symm
      · rw [ktake, List.length_append]
        have hle : (putK kvs [(Sum.inl (w : Int) : L2.Key), Sum.inl (r : Int)] (V.int 1)).length ≤ kvs.length + 1 := by
          unfold putK
          split <;> simp
        have : [(w, r)].length = 1 := rfl
        omega
    refine s_if (b := decide (w ∈ M.Lr r)) (t_val (e_meth GH (by show 1 ≤ 7; decide) ht2 (ev 7) o3 rfl (a_1 (ev 4)) ⟨wr, _, w, rfl, r2, rfl, rfl⟩)) (fun hb => ?_) (fun _ => s_next put)
    obtain ⟨y1, y2, y3⟩ := oby (by simpa using hb)
    have y1 : hs.length = M.qs r := y1
    have y2 : hs.Nodup := y2
    have hmg : mergeK [] (hs.map fun a : Nat => ((Sum.inl (a : Int) : L2.Key), V.int 1)) = hs.map fun a : Nat => ((Sum.inl (a : Int) : L2.Key), V.int 1) := by
      rw [mergeK_nodup, List.nil_append]
      rw [List.nil_append, List.map_map]
      exact List.Pairwise.map _ (fun a b hab z => hab (by have := Sum.inl.inj z; omega)) y2
    have ohl : hs.length ≤ 1000 := ohl
    refine s_if (b := false) (T.is (t_or (s := false) (t := false) (t_k (CM.is (c_ne (x := nI hs.length) (y := nI (M.qs r)) rfl (EK.is (e_lenSeq TM.len (ev 6) (.inr hq2')) (by rw [List.length_map])) (e_seat TM hM2 orr (ev 0) (ev 5))) (by simp [y1])))
      fun _ => t_k (CM.is (c_ne (x := nI hs.length) (y := nI hs.length) rfl (e_lenDB TM.len (e_dictOf TM.dict (e_lc [("one", 8)] (lc_pairs (as := hs) (ei_tup (ev 6) hq2') (fun H2 k => ex_t k hq2') (fun _ => true) (fun a : Nat => (Sum.inl (a : Int) : L2.Key)) (fun _ => V.int 1) (by omega) fun a x H2 ha k e => ?_))) fun x H2 k ⟨d, e1, e2, e3⟩ => ⟨d, _, e1, e3, ?_⟩) (EK.is (e_lenSeq TM.len (ev 6) (.inr hq2')) (by rw [List.length_map]))) (by simp))) rfl) (fun z => nomatch z) fun _ => s_next ?_
    · subst e
      exact ⟨_, eg_name 8, rfl, ts_nil, fun _ => ⟨ev 8, e_int⟩⟩
    · rw [List.filter_eq_self.mpr (fun _ _ => rfl), hmg, List.length_map]
    refine s_if (b := false) (T.is (t_val (e_any (as := hs) (j := 9) (fun h => !hbr M (kys (rows.take i)) h r w) 4 (Nat.le_refl _) TM.any ⟨TB, rfl, rfl, hmT, hu⟩ (ei_tup (ev := nI) (ev 6) hq2') (fun H3 k => ex_t k hq2') ht2 fun h x H3 hh k e => ?_)) ?_) (fun z => nomatch z) fun _ => s_next (s_next put)
    · subst e
      exact e_not (e_call GR (Nat.le_refl _) (k.tok ht2) (a_cons (ev 0) (a_cons (ev 3) (a_cons (ev 9) (a_cons (ev 5) (a_1 (ev 4)))))) ⟨m, M, g, _, h, r, w, rfl, hM2.ex k, hG.ex k, oh h hh, orr, rfl, rfl⟩)
    · rw [List.any_eq_false]
      intro h hh
      have y := y3 h hh
      show ¬ ((!hbr M (kys (rows.take i)) h r w) = true)
      have y : hbr M (kys (rows.take i)) h r w = true := y
      rw [y]
      decide
  · subst e
    rw [lz, List.take_length] at hG
    have hM2 := hM.ex k2
    have ht2 := k2.tok ht
    obtain ⟨dx, la, lr, t, was, wrs, h1, h2, h3, h4, h5, h6⟩ := id hM2.ob
    have hlA : was.length = M.A.length := (paired_len h5).symm
    refine s_for (as := was.zipIdx) (fun i σ1 H3 => ∃ o4 o7, σ1 = [some (.ref m), some (.ref q), some (.ref tp), some (.ref g), o4, o5, o6, o7, none, none] ∧ Ex B.G H2 H3 ∧ ∀ a, a < i → FinA M mt (kys rows) a) (ei_enumL (as := was) (ev := id) TM.enum (e_fld (ev 0) h1 TM.cl TM.nA rfl) (by rw [List.map_id]; exact .inl (.inl h2))) ⟨o4, o7, rfl, Kp.refl, fun a h => absurd h (by omega)⟩
      (fun i σ1 H3 _ ⟨_, _, _, k, _⟩ => by rw [List.map_id]; exact .inl (.inl (k.xat h2))) (fun i a x σ1 H3 H4 ha ⟨o4', o7', e, k3, hfin⟩ k4 ⟨Tq, e3, hT⟩ => ?_) fun σ1 H3 ⟨o4', o7', e, k3, hfin⟩ => ?_
    · subst e e3
      have hi : i < was.length := by
        have := (List.getElem?_eq_some_iff.mp ha).1
        rwa [List.length_zipIdx] at this
      rw [zipIdx_at hi] at ha
      cases ha
      have hiA : i < M.A.length := hlA ▸ hi
      have k34 : Ex B.G H2 H4 := k3.t k4
      obtain ⟨v, e4, wa, e5, hwa⟩ := paired_get h5 (i := i) (a := M.La i) (by unfold Mkt.La; rw [List.getD_eq_getElem?_getD, List.getElem?_eq_getElem hiA]; rfl)
      have e6 : was[i] = .ref wa := by
        rw [List.getElem?_eq_getElem hi] at e4
        rw [Option.some.inj e4, e5]
      obtain ⟨dx1, t1, dr1, o1, q1⟩ := (hwa.ex k34).obj
      have hq4 := ex_t (k2.t k34) hq
      obtain ⟨kvs, g1, g2, _⟩ := hG.ex k34
      refine ⟨_, eg_tup2 4 7 (.inl (.inl hT)), ?_⟩
      refine s_if (b := (aheadW (M.La i) (mt.getD i none)).any fun r => !decide ((i, r) ∈ kys rows)) (t_val (e_anyp (as := aheadW (M.La i) (mt.getD i none)) (j := 5) (fun r => !decide ((i, r) ∈ kys rows)) 0 (by show 3 ≤ 7; decide) TM.any ⟨TB, rfl, rfl, hmT, hu⟩ (eip_tupB (ev := nI) (e_meth GA (by show 2 ≤ 7; decide) (k34.tok ht2) ((ev 7).is (w := .ref wa) e6) o1 rfl (a_1 (e_ixT (ev 1) (ev 4) hq4 (atI_nat (mt_at hok hiA)))) ⟨wa, _, mt.getD i none, rfl, hwa.ex k34, rfl, rfl⟩) fun x H5 k ⟨t, e, h⟩ => ⟨t, e, h⟩) (k34.tok ht2) fun r x H5 hr k e => ?_)) (fun hb => ?_) (fun hb => s_next (s_lp ⟨_, _, rfl, k34, fun a hai => ?_⟩))
      · subst e
        exact e_k (CM.is (c_dnotinT (key := [Sum.inl (i : Int), Sum.inl (r : Int)]) (e_tup (a_cons (ev 4) (a_1 (ev 5)))) (ev 3) (.inl (k.xat g1))) (by rw [g2]))
      · refine s_raise EP fun H5 k5 => hE _ _ (k2.t (k34.t k5)) ⟨rfl, fun hf => ?_⟩
        obtain ⟨r, hr1, hr2⟩ := List.any_eq_true.mp hb
        have := hf i hiA r hr1
        simp [this] at hr2
      · by_cases e : a = i
        · subst e
          intro r hr
          have := (List.any_eq_false.mp hb) r hr
          simpa using this
        · exact hfin a (by omega)
    · subst e
      refine s_ret e_bl fun v H4 k4 e => hD _ _ (k2.t (k3.t k4)) ⟨e, fun a ha => hfin a ?_⟩
      rw [List.length_zipIdx, hlA]
      exact ha
end
end Pm
end
/-! ## W11 -/
section
set_option Elab.async false
set_option linter.all false
set_option maxRecDepth 100000
set_option maxHeartbeats 2000000
namespace Pm
open PySem L2
def pCheckStable (B : Bs) (Cw Cm Cp : Addr) : PreX := fun vs H S P PX => ∃ m M q mt v ps, vs = [.ref m, .ref q, v] ∧ MktAt B Cw Cm H m M ∧ SqT B.K H q (mt.map oV) ∧ MatchOk M mt ∧ NoBlock M mt ∧ TupsAt B.K H v (ps.map (rowV M mt)) ∧ (∀ p ∈ ps, p ∈ offP M mt) ∧ ps.length ≤ 10000 ∧ S = [] ∧ (P = fun v _ => v = .bl true ∧ (offP M mt).Perm ps) ∧ PX = fun c _ => c = .ref Cp ∧ ¬ (offP M mt).Perm ps
theorem pCheckStable_ex {B : Bs} {Cw Cm Cp : Addr} : PreExX B.G (pCheckStable B Cw Cm Cp) := fun vs H H' S P PX k ⟨m, M, q, mt, v, ps, h1, h2, h3, h4, h5, h6, h7⟩ => ⟨m, M, q, mt, v, ps, h1, h2.ex k, ex_t k h3, h4, h5, h6.ex k, h7⟩
theorem prH_ex {G : Gt} {H H' : Hp} {p : Nat × Nat} {v : V} (k : Ex G H H') (h : PrH H p v) : PrH H' p v := by
  obtain ⟨q, e, hq⟩ := h
  exact ⟨q, e, k.xat hq⟩
theorem prH_kp {G : Gt} {H H1 : Hp} {l : Addr} {zs : List V} {p : Nat × Nat} {v : V} (k : Kp G [l] H H1) (hl : H l = some (.lst zs)) (h : PrH H p v) : PrH H1 p v := by
  obtain ⟨q, e, hq⟩ := h
  exact ⟨q, e, k.at1 hl hq (by simp)⟩
def pD (p : Nat × Nat) : PyData := .tuple [.int p.1, .int p.2]
theorem pD_inj {l m : List (Nat × Nat)} : l.map pD = m.map pD ↔ l = m := by
  constructor
  · intro h
    refine List.map_inj_right (f := pD) (fun a b h => ?_) |>.mp h
    unfold pD at h
    simp at h
    obtain ⟨a1, a2⟩ := a
    obtain ⟨b1, b2⟩ := b
    simp at h ⊢
    omega
  · intro h
    rw [h]
theorem dp_pairs {K : PySem.W.Frag} {H : Hp} {ps : List (Nat × Nat)} {vs : List V} (h : Paired (PrH H) ps vs) : DpAll K H vs (ps.map pD) :=
  dpAll_paired h fun p v ⟨q, e, hq⟩ => by
    subst e
    exact .tup (.inl (.inl hq)) (.cons (.int _) (.cons (.int _) .nil))
theorem sm_pairs {ps : List (Nat × Nat)} : Sm 2 (.list (ps.map pD)) := .lst fun d hd => by
  obtain ⟨p, _, rfl⟩ := List.mem_map.mp hd
  refine .tup fun d hd => ?_
  rcases List.mem_cons.mp hd with e | hd
  · rw [e]
    exact .int _
  · rcases List.mem_cons.mp hd with e | hd
    · rw [e]
      exact .int _
    · cases hd
section
variable {B : Bs} {Cw Cm : Addr} (TM : MktC B Cw Cm)
include TM
theorem ok_checkStable {f : Addr} {fd : FuncData} {P c Cp : Addr} (EP : ExcC B "BadPaper" Cp) (F : FunC B.K "check_stable" "check_stable" (top 26) f fd (.ref c)) (TB : LamX.TabB B.base B.mg c P) (hmT : (P, ("check_stable.<locals>.<genexpr>" : Str)) ∈ B.G) (hu : ∀ p ∈ B.G, p.1 = P → p.2 = ("check_stable.<locals>.<genexpr>" : Str)) (hall : B.mg "all" = none) (hsorted : B.mg "sorted" = none)
    (GC : GF B 4 "check_match" (pCheckMatch B Cw Cm)) (GU : GF B 3 "unwanted" (pUnwanted B Cw Cm)) (GP : GM B 2 Cm "pairs" (pPairs B Cw Cm)) (GB : GM B 2 Cw "better" (pBetter B Cw)) (GT : GF B 1 "those_in" (pThoseIn B)) : FnOk B.P B.w B.K B.mg B.base (L2.CX B.P B.w) 6 f fd ["market", "match", "paper"] (spX B.G (pCheckStable B Cw Cm Cp)) := by
  refine def_okX F sc26 (fun vs H SS P PX ⟨m, M, q, mt, v, ps, e, _⟩ => by rw [e]; rfl) fun vs H SS P PX D E ht hp hD _ hE => ?_
  obtain ⟨m, M, q, mt, v, ps, rfl, hM, hq, hok, hnb, ⟨tp, vsP, rfl, htp, hP⟩, hps, hpl, rfl, rfl, rfl⟩ := hp
  refine s_expr (e_call GC (by show 4 ≤ 5; decide) ht (a_cons (ev 0) (a_1 (ev 1))) ⟨m, M, q, mt, rfl, hM, hq, hok, rfl, rfl⟩) fun v H1 k1 _ => ?_
  have hM1 := hM.ex k1
  have ht1 := k1.tok ht
  refine s_if (b := false) (t_k (CM.is (c_neTup0 (ds := []) (n := 0) (e_call GU (by show 3 ≤ 5; decide) ht1 (a_cons (ev 0) (a_1 (ev 1))) ⟨m, M, q, mt, rfl, hM1, ex_t k1 hq, hok, rfl, rfl⟩) (fun x H4 k4 ⟨t, e, h⟩ => ⟨t, [], e, h, fun _ _ => .nil⟩) (by intro _ h; cases h)) rfl)) (fun z => nomatch z) fun _ => s_next ?_
  obtain ⟨dx, la, lr, t, om, _⟩ := hM1.mobj
  refine s_setLc (i := 3) [("pair", 7)] (lc_Rp (as := M.pairs) (IV := fun p v H' => PrH H' p v) (eip_tupR (e_meth0 GP (by show 2 ≤ 5; decide) ht1 (ev 0) om rfl ⟨m, M, rfl, hM1, rfl, rfl⟩) (fun x H2 k ⟨t, vs, e, h1, h2⟩ => ⟨t, vs, e, h1, h2⟩) fun a v H2 H3 k h => prH_ex k h) (fun p => !decide (mt.getD p.1 none = some p.2)) (fun _ p v H' => PrH H' p v) (fun D' p v H2 H3 zs hz k h => prH_kp k hz h) (Nat.le_trans (pairs_len hM.ok) (by decide)) fun D' p x H2 zs hp k _ hD1 hx => ?_) fun v H2 k2 ⟨dl, ys, e, d0, hdl, hys⟩ => ?_
  · obtain ⟨pq, e, hpq⟩ := hx
    subst e
    obtain ⟨pa, _⟩ := pairs_ok hM.ok hp
    refine ⟨_, eg_name 7, rfl, ts_one (t_k (CM.is (c_ne (oV_scal _ _) (e_ixT (ev 1) (e_ixT (ev 7) e_int (.inl (.inl hpq)) atI_zero) (ex_t (k1.t k) hq) (atI_nat (mt_at hok pa))) (e_ixT (ev 7) e_int (.inl (.inl hpq)) (by rfl))) (by rw [oV_eq]))), fun _ => EK.imp (ev 7) fun v H3 k3 e => ⟨pq, e, k3.xat hpq⟩⟩
  subst e
  have hys' : Paired (PrH H2) (offP M mt) ys := hys
  have k12 : Ex B.G H H2 := k1.t k2
  have rows2 : Paired (fun (p : Nat × Nat) v => ∃ q, v = V.ref q ∧ SqT B.K H2 q (rowV M mt p)) ps vsP := paired_imp (paired_map_l hP) fun p v ⟨q, e, h⟩ => ⟨q, e, ex_t k12 h⟩
  have htp2 := ex_t k12 htp
  refine s_if (b := !decide ((offP M mt).Perm ps)) (t_k (c_neD (d1 := .list ((sortP (offP M mt)).map pD)) (d2 := .list ((sortP ps).map pD)) (Pb := fun _ _ y H4 => ∃ p ys, y = .ref p ∧ H4 p = some (.lst ys) ∧ Paired (PrH H4) (sortP ps) ys) (e_sortPairs2 hsorted (ev 3) fun x H3 k e => ⟨dl, ys, e, k.xat hdl, paired_imp hys' fun p v h => prH_ex k h⟩)
    (fun x H3 k3 _ => e_sortPairs2 hsorted (e_lc [("asker", 4), ("room", 5), ("word", 6)] (lc_Rp (as := ps) (IV := fun p v H' => ∃ q, v = V.ref q ∧ SqT B.K H' q (rowV M mt p)) (eip_tupR (ev 2) (fun x H4 k e => ⟨tp, vsP, e, ex_t (k3.t k) htp2, paired_imp rows2 fun p v ⟨q, e, h⟩ => ⟨q, e, ex_t (k3.t k) h⟩⟩) fun a v H4 H5 k ⟨q, e, h⟩ => ⟨q, e, ex_t k h⟩) (fun _ => true) (fun _ p v H' => PrH H' p v) (fun D' p v H2 H3 zs hz k h => prH_kp k hz h) (by omega) fun D' p x H4 zs hp k _ hD1 ⟨tq, e, htq⟩ => ?_)) fun x H4 k ⟨D', ys', e1, _, e3, e4⟩ => ⟨D', ys', e1, e3, by rwa [List.filter_eq_self.mpr (fun _ _ => rfl)] at e4⟩)
    (fun x H3 y H4 k3 ⟨p1, ys1, e1, h1, h2⟩ k4 ⟨p2, ys2, e2, h3, h4⟩ => ?_) sm_pairs sm_pairs (by decide) (by decide) ?_)) (fun hb => ?_) (fun hb => s_next ?_)
  · subst e
    exact ⟨_, eg_tup3 4 5 6 htq, rfl, ts_nil, fun _ => EK.imp (e_tup (a_cons (ev 4) (a_1 (ev 5)))) fun v H5 k5 ⟨t, e1, _, e3⟩ => ⟨t, e1, e3⟩⟩
  · subst e1 e2
    exact ⟨.lst (.inl (.inl (k4.xat h1))) (dp_pairs (paired_imp h2 fun p v h => prH_ex k4 h)), .lst (.inl (.inl h3)) (dp_pairs h4)⟩
  · simp only [Bool.not_eq_true', decide_eq_false_iff_not, ne_eq, PyData.list.injEq]
    rw [pD_inj, sortP_iff]
  · refine s_raise EP fun H5 k5 => hE _ _ (k12.t k5) ⟨rfl, ?_⟩
    simpa using hb
  have hperm : (offP M mt).Perm ps := by simpa using hb
  obtain ⟨zs, e1, e2, hz⟩ := paired_zip rows2
  subst e2
  refine s_forV (as := zs) (ev := fun z => V.ref z.2) (fun i σ1 H3 => ∃ o4 o5 o6 o8 o9 o10, σ1 = [some (.ref m), some (.ref q), some (.ref tp), some (.ref dl), o4, o5, o6, none, o8, o9, o10, none] ∧ Ex B.G H2 H3) (ei_tup (ev 2) htp2) ⟨none, none, none, none, none, none, rfl, Kp.refl⟩ (fun i σ1 H3 _ ⟨_, _, _, _, _, _, _, k⟩ => ex_t k htp2)
    (fun i z σ1 H3 hzi ⟨o4, o5, o6, o8, o9, o10, e, k3⟩ => ?_) fun σ1 H3 ⟨o4, o5, o6, o8, o9, o10, e, k3⟩ => ?_
  · subst e
    have hzm : z ∈ zs := List.mem_of_getElem? hzi
    have hpm : z.1 ∈ offP M mt := hps _ (by rw [← e1]; exact List.mem_map.mpr ⟨z, hzm, rfl⟩)
    obtain ⟨⟨a, r⟩, adr⟩ := z
    obtain ⟨pa, pr, pl1, pl2⟩ := pairs_ok hM.ok (List.mem_filter.mp hpm).1
    have pa : a < M.A.length := pa
    have pr : r < M.R.length := pr
    have hor := hnb _ hpm
    have hor : hasB M mt a r = true ∨ fullB M mt a r = true := hor
    have k03 := k12.t k3
    have hM3 := hM.ex k03
    have ht3 := k03.tok ht
    obtain ⟨wa, w1, w2⟩ := hM3.asker pa
    obtain ⟨dx2, t2, dr2, o2, q2⟩ := w2.obj
    obtain ⟨wr, r1, r2⟩ := hM3.room pr
    obtain ⟨dx3, t3, dr3, o3, q3⟩ := r2.obj
    refine ⟨_, eg_tup3 4 5 6 (ex_t k3 (hz _ hzm)), ?_⟩
    refine s_asg (e_tupB (PA := fun vs H' => ∃ t, vs = [.ref t, .ref wr] ∧ SqT B.K H' t ((inN mt r).map nI)) ?_ (fun vs H1 ⟨t, e, _⟩ => by rw [e]; exact Nat.le_of_ble_eq_true rfl)) (hw := fun X g => swapN2 g .local rfl rfl) fun v H4 k4 ⟨p, vs, Hx, ep, _, _, hp2, ⟨t, e, htt1⟩, _, k12'⟩ => ?_
    · refine a_consB (e_call GT (by show 1 ≤ 5; decide) ht3 (a_cons (ev 1) (a_1 (ev 5))) ⟨q, mt, r, rfl, .inr (ex_t k03 hq), by rw [hok.len]; exact Nat.le_trans hM.ok.sa (by decide), rfl, rfl⟩) fun x H4 k4 ⟨t, e, hq1⟩ => ?_
      subst e
      exact fun H5 k5 Q q' => a_1 (e_room TM (r1.ex k4) (ev 0) (ev 5)) (fun _ _ => rfl) H5 k5 Q fun vs H6 k6 e => q' _ _ k6 ⟨t, by rw [e], ex_t (k5.t k6) hq1⟩
    subst ep e
    have htt := ex_t k12' htt1
    refine ⟨_, eg_tup2 8 9 (.inl (.inl hp2)), ?_⟩
    have ht4 := k4.tok ht3
    have fin : ∀ {H5 : Hp} {o10' : Option V}, Ex B.G H4 H5 → o10' = some (.bl true) → ∀ {p1 p2 p3 p4 p5 p6 p7 : Pos} {mm : Str} {j : Nat}, S (ctxX B ["market", "match", "paper", "due", "asker", "room", "word", "pair", "inside", "wish", "good", "other"] (top 26) 5 (.ref c) "check_stable" (fun cls d _ H => E cls d H)) (lpS (ctxX B ["market", "match", "paper", "due", "asker", "room", "word", "pair", "inside", "wish", "good", "other"] (top 26) 5 (.ref c) "check_stable" (fun cls d _ H => E cls d H)) ((defBody (top 26)).drop 5) D (fun σ1 H3 => ∃ o4 o5 o6 o8 o9 o10, σ1 = [some (.ref m), some (.ref q), some (.ref tp), some (.ref dl), o4, o5, o6, none, o8, o9, o10, none] ∧ Ex B.G H2 H3))
        [some (.ref m), some (.ref q), some (.ref tp), some (.ref dl), some (nI a), some (nI r), some (.str (wordB M mt a r)), none, some (.ref t), some (.ref wr), o10', none] H5 [.If (.UnaryOp .Not (.Name "good" p1) p2) [.Raise (some (.Call (.Name "BadPaper" p3) [.Constant (.str mm) j p4] [] p5)) none p6] [] p7] := by
      intro H5 o10' k5 eo p1 p2 p3 p4 p5 p6 p7 mm j
      subst eo
      exact s_if (b := false) (T.is (t_not (s := true) (t_val (ev 10))) rfl) (fun z => nomatch z) fun _ => s_next (s_lp ⟨_, _, _, _, _, _, rfl, k3.t (k4.t k5)⟩)
    cases hb : hasB M mt a r with
    | true =>
      refine s_if (b := true) (t_k (CM.is (c_eq rfl (ev 6) e_str) (by unfold wordB; rw [hb]; rfl))) (fun _ => ?_) (fun z => nomatch z)
      refine s_setV (i := 10) (v := .bl true) (EK.is (e_meth GB (by show 2 ≤ 5; decide) ht4 (e_asker TM (w1.ex k4) (ev 0) (ev 4)) (k4.xat o2) rfl (a_cons (e_ixT (ev 1) (ev 4) (ex_t (k03.t k4) hq) (atI_nat (mt_at hok pa))) (a_1 (ev 5))) ⟨wa, _, mt.getD a none, some r, rfl, w2.ex k4, rfl, rfl⟩) (congrArg V.bl hb)) (s_next (fin Kp.refl rfl))
    | false =>
      have hf : fullB M mt a r = true := by
        rcases hor with h | h
        · rw [h] at hb
          cases hb
        · exact h
      unfold fullB at hf
      simp only [Bool.and_eq_true, decide_eq_true_eq] at hf
      refine s_if (b := false) (t_k (CM.is (c_eq rfl (ev 6) e_str) (by unfold wordB; rw [hb]; decide +kernel))) (fun z => nomatch z) (fun _ => ?_)
      refine s_setV (i := 10) (v := .bl true) (EK.is (e_and (s := true) (t := true) (e_k (CM.is (c_eq rfl (ev 6) e_str) (by unfold wordB; rw [hb]; decide +kernel))) fun _ => e_k (CM.is (c_eq (x := nI (inN mt r).length) (y := nI (M.qs r)) rfl (EK.is (e_lenSeq TM.len (ev 8) (.inr htt)) (by rw [List.length_map])) (e_seat TM (hM3.ex k4) pr (ev 0) (ev 5))) (by simp [hf.1]))) rfl) ?_
      refine s_setV (i := 10) (v := .bl true) (EK.is (e_and (s := true) (t := true) (ev 10) fun _ => EK.is (e_all (as := inN mt r) (j := 11) (fun o => betterW (M.Lr r) (some o) (some a)) 2 (Nat.le_refl _) hall ⟨TB, rfl, rfl, hmT, hu⟩ (ei_tup (ev := nI) (ev 8) htt) (fun H1 k => ex_t k htt) ht4 fun o x H5 ho k e => ?_) (congrArg V.bl hf.2)) rfl) (s_next (fin Kp.refl rfl))
      subst e
      exact e_meth GB (Nat.le_refl _) (k.tok ht4) (ev 9) ((k4.t k).xat o3) rfl (a_cons (ev 11) (a_1 (ev 4))) ⟨wr, _, some o, some a, rfl, r2.ex (k4.t k), rfl, rfl⟩
  · subst e
    exact s_ret e_bl fun v H4 k4 e => hD _ _ (k12.t (k3.t k4)) ⟨e, hperm⟩
end
end Pm
end
/-! ## W12 -/
section
set_option Elab.async false
set_option linter.all false
set_option maxRecDepth 100000
set_option maxHeartbeats 2000000
namespace Pm
open PySem L2
theorem e_andX {C : Ctx} {σ : L2.St} {H : Hp} {a b : Expr} {pos : Pos} {Pa P : V → Hp → Prop} (ha : E C σ H a Pa) (hb : ∀ v H1, Ex C.G H H1 → Pa v H1 → v = .bl true ∧ E C σ H1 b P) : E C σ H (.BoolOp .And [a, b] pos) P :=
  ek_of (fun X g => pe_and (pe_w g) (pe_one (pe_w g))) fun H1 k Q q => ha H1 k _ fun u H2 k2 p2 => by
    obtain ⟨e, h⟩ := hb u H2 (k.t k2) p2
    refine ⟨true, e, ?_⟩
    show wE C b σ H2 Q
    exact h H2 Kp.refl Q fun v H3 k3 p3 => q v H3 (k2.t k3) p3
def pBoth (B : Bs) (Cw Cm : Addr) : Pre := fun vs H S P => ∃ m M q mt, vs = [.ref m, .ref q] ∧ MktAt B Cw Cm H m M ∧ SqT B.K H q (mt.map oV) ∧ MatchOk M mt ∧ NoBlock M mt ∧ (∀ s', AskRuns M (ASt.init M) s' → Done M s' → RowsOk M (replay M.A.length s'.st).2 ∧ FinAll M mt (kys (replay M.A.length s'.st).2)) ∧ S = [] ∧
  P = fun v H' => ∃ t v1 v2 s', v = .ref t ∧ SqT B.K H' t [v1, v2] ∧ TupsAt B.K H' v1 ((offP M mt).map (rowV M mt)) ∧ AskRuns M (ASt.init M) s' ∧ Done M s' ∧ BpAt B.K H' v2 (replay M.A.length s'.st).2
theorem pBoth_ex {B : Bs} {Cw Cm : Addr} : PreEx B.G (pBoth B Cw Cm) := fun vs H H' S P k ⟨m, M, q, mt, h1, h2, h3, h4⟩ => ⟨m, M, q, mt, h1, h2.ex k, ex_t k h3, h4⟩
def pCheckBoth (B : Bs) (Cw Cm Cp : Addr) : PreX := fun vs H S P PX => ∃ m M q mt t v1 v2 ps rows, vs = [.ref m, .ref q, .ref t] ∧ MktAt B Cw Cm H m M ∧ SqT B.K H q (mt.map oV) ∧ MatchOk M mt ∧ NoBlock M mt ∧ SqT B.K H t [v1, v2] ∧ TupsAt B.K H v1 (ps.map (rowV M mt)) ∧ (∀ p ∈ ps, p ∈ offP M mt) ∧ ps.length ≤ 10000 ∧ BpAt B.K H v2 rows ∧ RowsOk M rows ∧ S = [] ∧
  (P = fun v _ => v = .bl true ∧ (offP M mt).Perm ps ∧ FinAll M mt (kys rows)) ∧ PX = fun c _ => c = .ref Cp ∧ ¬ ((offP M mt).Perm ps ∧ FinAll M mt (kys rows))
theorem pCheckBoth_ex {B : Bs} {Cw Cm Cp : Addr} : PreExX B.G (pCheckBoth B Cw Cm Cp) := fun vs H H' S P PX k ⟨m, M, q, mt, t, v1, v2, ps, rows, h1, h2, h3, h4, h5, h6, h7, h8, h9, h10, h11⟩ => ⟨m, M, q, mt, t, v1, v2, ps, rows, h1, h2.ex k, ex_t k h3, h4, h5, ex_t k h6, h7.ex k, h8, h9, h10.ex k, h11⟩
section
variable {B : Bs} {Cw Cm Cp : Addr}
theorem ok_both {f : Addr} {fd : FuncData} {cdv : Value} (F : FunC B.K "both_papers" "both_papers" (top 30) f fd cdv) (GS : GF B 7 "stable_paper" (pStable B Cw Cm)) (GB : GF B 8 "best_paper" (pBest B Cw Cm)) (GC : GFX B 8 "check_best" (pCheckBest B Cw Cm Cp)) : FnOk B.P B.w B.K B.mg B.base CX0 9 f fd ["market", "match"] (spM B.G (pBoth B Cw Cm)) := by
  refine def_ok F sc30 (fun vs H SS P ⟨m, M, q, mt, e, _⟩ => by rw [e]; rfl) fun vs H SS P D ht hp hD _ => ?_
  obtain ⟨m, M, q, mt, rfl, hM, hq, hok, hnb, hfin, rfl, rfl⟩ := hp
  refine s_set (i := 2) (e_call GS (by show 7 ≤ 8; decide) ht (a_cons (ev 0) (a_1 (ev 1))) ⟨m, M, q, mt, rfl, hM, hq, hok, hnb, rfl, rfl⟩) fun v1 H1 k1 h1 => ?_
  refine s_set (i := 3) (e_call GB (Nat.le_refl _) (k1.tok ht) (a_1 (ev 0)) ⟨m, M, rfl, hM.ex k1, rfl, rfl⟩) fun v2 H2 k2 ⟨s', hr, hd, h2⟩ => ?_
  have k12 := k1.t k2
  obtain ⟨hro, hfa⟩ := hfin s' hr hd
  refine s_expr (e_callX (E' := fun _ _ _ => False) GC (Nat.le_refl _) (k12.tok ht) (PA := fun vs _ => vs = [.ref m, .ref q, v2]) (a_cons (ev 0) (a_cons (ev 1) (a_1 (ev 3)))) (fun vs H3 k e => ⟨m, M, q, mt, v2, _, e, hM.ex (k12.t k), ex_t (k12.t k) hq, hok, h2.ex k, hro, rfl, rfl, rfl⟩) rfl (fun c H3 _ h => h.2 hfa)) fun v H3 k3 _ => ?_
  exact s_ret (e_tup (a_cons (ev 2) (a_1 (ev 3)))) fun v H4 k4 ⟨t, e, _, ht'⟩ => hD _ _ (k12.t (k3.t k4)) ⟨t, v1, v2, s', e, .inl (.inl ht'), h1.ex (k2.t (k3.t k4)), hr, hd, h2.ex (k3.t k4)⟩
theorem ok_checkBoth {f : Addr} {fd : FuncData} {cdv : Value} (F : FunC B.K "check_both" "check_both" (top 31) f fd cdv) (GS : GFX B 6 "check_stable" (pCheckStable B Cw Cm Cp)) (GC : GFX B 8 "check_best" (pCheckBest B Cw Cm Cp)) : FnOk B.P B.w B.K B.mg B.base (L2.CX B.P B.w) 9 f fd ["market", "match", "papers"] (spX B.G (pCheckBoth B Cw Cm Cp)) := by
  refine def_okX F sc31 (fun vs H SS P PX ⟨m, M, q, mt, t, v1, v2, ps, rows, e, _⟩ => by rw [e]; rfl) fun vs H SS P PX D E ht hp hD _ hE => ?_
  obtain ⟨m, M, q, mt, t, v1, v2, ps, rows, rfl, hM, hq, hok, hnb, htt, h1, h1a, h1b, h2, hro, rfl, rfl, rfl⟩ := hp
  refine s_ret (SS := []) (P := fun v _ => v = .bl true ∧ (offP M mt).Perm ps ∧ FinAll M mt (kys rows)) (e_andX (e_callX (SS := []) (P := fun v _ => v = .bl true ∧ (offP M mt).Perm ps) (PX := fun c _ => c = .ref Cp ∧ ¬ (offP M mt).Perm ps) (E' := E) GS (by show 6 ≤ 8; decide) ht (PA := fun vs _ => vs = [.ref m, .ref q, v1]) (a_cons (ev 0) (a_cons (ev 1) (a_1 (e_ixT (ev 2) e_int htt atI_zero)))) (fun vs H3 k e => ⟨m, M, q, mt, v1, ps, e, hM.ex k, ex_t k hq, hok, hnb, h1.ex k, h1a, h1b, rfl, rfl, rfl⟩) rfl (fun c H3 k h => hE _ _ k ⟨h.1, fun z => h.2 z.1⟩)) fun v H1 k1 ⟨e, hperm⟩ => ⟨e, ?_⟩) fun v H2 k e => hD _ _ k e
  refine EK.imp (e_callX (SS := []) (P := fun v _ => v = .bl true ∧ FinAll M mt (kys rows)) (PX := fun c _ => c = .ref Cp ∧ ¬ FinAll M mt (kys rows)) (E' := E) GC (Nat.le_refl _) (k1.tok ht) (PA := fun vs _ => vs = [.ref m, .ref q, v2]) (a_cons (ev 0) (a_cons (ev 1) (a_1 (e_ixT (ev 2) e_int (ex_t k1 htt) (by rfl))))) (fun vs H3 k e => ⟨m, M, q, mt, v2, rows, e, hM.ex (k1.t k), ex_t (k1.t k) hq, hok, h2.ex (k1.t k), hro, rfl, rfl, rfl⟩) rfl (fun c H3 k h => hE _ _ (k1.t k) ⟨h.1, fun z => h.2 z.2⟩)) fun v H2 k ⟨e, hf⟩ => ⟨e, hperm, hf⟩
end
end Pm
end
/-! ## W13 -/
section
set_option Elab.async false
set_option linter.all false
set_option maxRecDepth 100000
set_option maxHeartbeats 2000000
namespace Pm
open PySem L2
/-! ### Fair -/
structure ARow where
  l : List Str
  h : Option Str
  n : Nat
structure RRow where
  o : List Str
  c : Nat
structure FSt where
  A : List (Str × ARow)
  R : List (Str × RRow)
def osV : Option Str → V
  | none => .non
  | some r => .str r
/-- a dict from texts to tuples of texts -/
def TupD {ρ : Type} (K : PySem.W.Frag) (H : Hp) (g : ρ → List Str) (as : List (Str × ρ)) (kvs : List (L2.Key × V)) : Prop := Paired (fun (p : Str × ρ) (kv : L2.Key × V) => kv.1 = Sum.inr p.1 ∧ ∃ t, kv.2 = .ref t ∧ SqT K H t ((g p.2).map V.str)) as kvs
structure FSt.Ok (F : FSt) : Prop where
  kA : (F.A.map (fun p => p.1)).Nodup
  kR : (F.R.map (fun p => p.1)).Nodup
  sA : F.A.length ≤ 60
  sR : F.R.length ≤ 60
  tA : ∀ p ∈ F.A, p.2.l.length ≤ 60 ∧ ∀ x ∈ p.2.l, sOk x
  tR : ∀ p ∈ F.R, p.2.o.length ≤ 60 ∧ ∀ x ∈ p.2.o, sOk x
  oA : ∀ p ∈ F.A, sOk p.1 ∧ ∀ r, p.2.h = some r → sOk r
  oR : ∀ p ∈ F.R, sOk p.1
structure FairAt (B : Bs) (Cf : Addr) (H : Hp) (f d1 d2 d3 d4 d5 : Addr) (F : FSt) : Prop where
  ob : ∃ dx n, H f = some (.ins Cf dx [("lists", .ref d1), ("orders", .ref d2), ("seats", .ref d3), ("held", .ref d4), ("next", .ref d5), ("asks", .int n)])
  l : ∃ kvs, Rd H d1 (.dK kvs) ∧ TupD B.K H ARow.l F.A kvs
  o : ∃ kvs, Rd H d2 (.dK kvs) ∧ TupD B.K H RRow.o F.R kvs
  s : H d3 = some (.dK (F.R.map fun p => (Sum.inr p.1, nI p.2.c)))
  h : H d4 = some (.dK (F.A.map fun p => (Sum.inr p.1, osV p.2.h)))
  n : H d5 = some (.dK (F.A.map fun p => (Sum.inr p.1, nI p.2.n)))
  ds : [d1, d2, d3, d4, d5].Nodup
  ok : F.Ok
theorem TupD.ex {G : Gt} {ρ : Type} {K : PySem.W.Frag} {H H' : Hp} {g : ρ → List Str} {as : List (Str × ρ)} {kvs : List (L2.Key × V)} (h : TupD K H g as kvs) (k : Ex G H H') : TupD K H' g as kvs := paired_imp h fun p kv ⟨e, t, e2, h⟩ => ⟨e, t, e2, ex_t k h⟩
theorem FairAt.ex {B : Bs} {Cf f d1 d2 d3 d4 d5 : Addr} {H H' : Hp} {F : FSt} (h : FairAt B Cf H f d1 d2 d3 d4 d5 F) (k : Ex B.G H H') : FairAt B Cf H' f d1 d2 d3 d4 d5 F := by
  obtain ⟨⟨dx, n, h1⟩, ⟨kl, h2, h3⟩, ⟨ko, h4, h5⟩, h6, h7, h8, r1, r2⟩ := h
  exact ⟨⟨dx, n, k.xat h1⟩, ⟨kl, ex_rd k h2, h3.ex k⟩, ⟨ko, ex_rd k h4, h5.ex k⟩, k.xat h6, k.xat h7, k.xat h8, r1, r2⟩
theorem valV_map' {ρ : Type} {g : ρ → V} (a : Str) : ∀ (as : List (Str × ρ)), valV (as.map fun p => ((Sum.inr p.1 : L2.Key), g p.2)) (Sum.inr a) = (as.lookup a).map g
  | [] => rfl
  | (k, r) :: as => by
    rw [List.map_cons]
    by_cases h : k = a
    · subst h
      rw [valV_pos rfl]
      simp [List.lookup]
    · rw [valV_neg (by simpa using h), valV_map' a as]
      have : (a == k) = false := by simpa using fun z => h z.symm
      rw [List.lookup_cons, this]
theorem TupD.get {ρ : Type} {K : PySem.W.Frag} {H : Hp} {g : ρ → List Str} (a : Str) : ∀ {as : List (Str × ρ)} {kvs : List (L2.Key × V)}, TupD K H g as kvs → (as.lookup a = none ∧ valV kvs (Sum.inr a) = none) ∨ ∃ r t, as.lookup a = some r ∧ valV kvs (Sum.inr a) = some (.ref t) ∧ SqT K H t ((g r).map V.str)
  | _, _, .nil => .inl ⟨rfl, rfl⟩
  | (k, r) :: as, (k', v) :: kvs, .cons ⟨e, t, e2, h⟩ q => by
    have e : k' = Sum.inr k := e
    have e2 : v = .ref t := e2
    subst e e2
    by_cases hk : k = a
    · subst hk
      exact .inr ⟨r, t, by simp [List.lookup], valV_pos rfl, h⟩
    · have hb : (a == k) = false := by simpa using fun z => hk z.symm
      rw [List.lookup_cons, hb, valV_neg (by simpa using hk)]
      exact TupD.get a q
theorem TupD.keys {ρ : Type} {K : PySem.W.Frag} {H : Hp} {g : ρ → List Str} : ∀ {as : List (Str × ρ)} {kvs : List (L2.Key × V)}, TupD K H g as kvs → kvs.map (fun kv => kV kv.1) = as.map fun p => V.str p.1
  | _, _, .nil => rfl
  | _, _, .cons ⟨e, _⟩ q => by
    rw [List.map_cons, List.map_cons, TupD.keys q, e]
    rfl
structure FairC (B : Bs) (Cf : Addr) : Prop where
  cl : Cls B.K Cf
  nL : NoAttr B.K Cf "lists"
  nO : NoAttr B.K Cf "orders"
  nS : NoAttr B.K Cf "seats"
  nH : NoAttr B.K Cf "held"
  nN : NoAttr B.K Cf "next"
  nA : NoAttr B.K Cf "asks"
  len : B.mg "len" = none
  tup : B.mg "tuple" = none
  dict : B.mg "dict" = none
  list : B.mg "list" = none
  sorted : B.mg "sorted" = none
/-- the state's mathematics: does a like r -/
def FSt.likes (F : FSt) (a r : Str) : Bool := match F.A.lookup a, F.R.lookup r with
  | some x, some y => decide (r ∈ x.l) && decide (a ∈ y.o)
  | _, _ => false
theorem inV_str {x : Str} {xs : List Str} : inV (.str x) (xs.map V.str) = decide (x ∈ xs) := by
  rw [Bool.eq_iff_iff]
  unfold inV
  simp [List.any_map, eqV]
theorem flat_str {xs : List Str} : (xs.map V.str).all flatV = true := by
  simp [List.all_map, flatV]
def pFLikes (B : Bs) (Cf : Addr) : Pre := fun vs H S P => ∃ f d1 d2 d3 d4 d5 F a r, vs = [.ref f, .str a, .str r] ∧ FairAt B Cf H f d1 d2 d3 d4 d5 F ∧ S = [] ∧ P = fun v _ => v = .bl (F.likes a r)
theorem pFLikes_ex {B : Bs} {Cf : Addr} : PreEx B.G (pFLikes B Cf) := fun vs H H' S P k ⟨f, d1, d2, d3, d4, d5, F, a, r, h1, h2, h3⟩ => ⟨f, d1, d2, d3, d4, d5, F, a, r, h1, h2.ex k, h3⟩
section
variable {B : Bs} {Cf : Addr} (TF : FairC B Cf)
include TF
theorem ok_fLikes {ff : Addr} {fd : FuncData} {cdv : Value} (Fn : FunC B.K "likes" "Fair.likes" (dFair 1) ff fd cdv) : FnOk B.P B.w B.K B.mg B.base CX0 1 ff fd ["self", "asker", "room"] (spM B.G (pFLikes B Cf)) := by
  refine def_ok Fn scFair1 (fun vs H SS P ⟨f, d1, d2, d3, d4, d5, F, a, r, e, _⟩ => by rw [e]; rfl) fun vs H SS P D ht hp hD _ => ?_
  obtain ⟨f, d1, d2, d3, d4, d5, F, a, r, rfl, hF, rfl, rfl⟩ := hp
  obtain ⟨dx, n, o1⟩ := hF.ob
  obtain ⟨kl, l1, l2⟩ := hF.l
  obtain ⟨ko, m1, m2⟩ := hF.o
  refine s_if (b := !(valV kl (Sum.inr a)).isSome || !(valV ko (Sum.inr r)).isSome) (t_or (t_k (c_dnotin (d := d1) (ev 1) (e_fld (ev 0) o1 TF.cl TF.nL rfl) (.inl ⟨kl, Sum.inr a, l1, rfl, rfl⟩))) fun _ => t_k (c_dnotin (d := d2) (ev 2) (e_fld (ev 0) o1 TF.cl TF.nO rfl) (.inl ⟨ko, Sum.inr r, m1, rfl, rfl⟩))) (fun hb => ?_) (fun hb => s_next ?_)
  · refine s_ret e_bl fun v H2 k e => hD _ _ k ?_
    rw [e]
    congr 1
    unfold FSt.likes
    rcases l2.get a with ⟨h1, h2⟩ | ⟨x, t, h1, h2, h3⟩
    · rw [h1]
    · rcases m2.get r with ⟨h4, h5⟩ | ⟨y, t', h4, h5, h6⟩
      · rw [h1, h4]
      · rw [h2, h5] at hb
        cases hb
  · rcases l2.get a with ⟨h1, h2⟩ | ⟨x, t, h1, h2, h3⟩
    · rw [h2] at hb
      cases hb
    · rcases m2.get r with ⟨h4, h5⟩ | ⟨y, t', h4, h5, h6⟩
      · rw [h2, h5] at hb
        cases hb
      · refine s_ret (e_and (e_k (c_inSeq (ev 2) (e_dget (d := d1) (e_fld (ev 0) o1 TF.cl TF.nL rfl) (ev 1) (.inl ⟨kl, Sum.inr a, l1, rfl, h2.symm⟩)) (.inr h3) rfl flat_str)) fun _ => e_k (c_inSeq (ev 1) (e_dget (d := d2) (e_fld (ev 0) o1 TF.cl TF.nO rfl) (ev 2) (.inl ⟨ko, Sum.inr r, m1, rfl, h5.symm⟩)) (.inr h6) rfl flat_str)) fun v H2 k e => hD _ _ k ?_
        rw [e, inV_str, inV_str]
        unfold FSt.likes
        rw [h1, h4]
end
end Pm
end
/-! ## W14 -/
section
set_option Elab.async false
set_option linter.all false
set_option maxRecDepth 100000
set_option maxHeartbeats 2000000
namespace Pm
open PySem L2
/-! ### Fair: those_in, who_waits, match, names -/
def FSt.held (F : FSt) (a : Str) : Option Str := (F.A.lookup a).bind fun x => x.h
def FSt.asks (F : FSt) : List Str := F.A.map fun p => p.1
def FSt.rooms (F : FSt) : List Str := F.R.map fun p => p.1
def FSt.waits (F : FSt) (a : Str) : Bool := match F.A.lookup a with
  | some x => decide (x.h = none) && decide (x.n < x.l.length)
  | none => false
def FSt.inside (F : FSt) (r : Str) : List Str := match F.R.lookup r with
  | some y => y.o.filter fun a => decide (F.held a = some r)
  | none => []
theorem lookup_mem {ρ : Type} {a : Str} {r : ρ} : ∀ {as : List (Str × ρ)}, as.lookup a = some r → (a, r) ∈ as
  | [], h => by cases h
  | (k, x) :: as, h => by
    rw [List.lookup_cons] at h
    cases hb : a == k with
    | true =>
      rw [hb] at h
      cases h
      rw [beq_iff_eq.mp hb]
      simp
    | false =>
      rw [hb] at h
      exact List.mem_cons_of_mem _ (lookup_mem h)
theorem lookup_of_mem {ρ : Type} {a : Str} {as : List (Str × ρ)} (h : a ∈ as.map fun p => p.1) : ∃ r, as.lookup a = some r := by
  induction as with
  | nil => cases h
  | cons p as ih =>
    obtain ⟨k, x⟩ := p
    rw [List.lookup_cons]
    cases hb : a == k with
    | true => exact ⟨x, rfl⟩
    | false =>
      rcases List.mem_cons.mp h with e | e
      · have e : a = k := e
        rw [e] at hb
        simp at hb
      · exact ih e
section
variable {B : Bs} {Cf f d1 d2 d3 d4 d5 : Addr} {H : Hp} {F : FSt}
theorem FairAt.lg (h : FairAt B Cf H f d1 d2 d3 d4 d5 F) {a : Str} {x : ARow} (hx : F.A.lookup a = some x) : ∃ t, DGet H d1 (.str a) (some (.ref t)) ∧ SqT B.K H t (x.l.map V.str) := by
  obtain ⟨kl, l1, l2⟩ := h.l
  rcases l2.get a with ⟨h1, _⟩ | ⟨r, t, h1, h2, h3⟩
  · rw [hx] at h1
    cases h1
  · rw [hx] at h1
    cases h1
    exact ⟨t, .inl ⟨kl, Sum.inr a, l1, rfl, h2.symm⟩, h3⟩
theorem FairAt.og (h : FairAt B Cf H f d1 d2 d3 d4 d5 F) {a : Str} {x : RRow} (hx : F.R.lookup a = some x) : ∃ t, DGet H d2 (.str a) (some (.ref t)) ∧ SqT B.K H t (x.o.map V.str) := by
  obtain ⟨kl, l1, l2⟩ := h.o
  rcases l2.get a with ⟨h1, _⟩ | ⟨r, t, h1, h2, h3⟩
  · rw [hx] at h1
    cases h1
  · rw [hx] at h1
    cases h1
    exact ⟨t, .inl ⟨kl, Sum.inr a, l1, rfl, h2.symm⟩, h3⟩
theorem FairAt.hg (h : FairAt B Cf H f d1 d2 d3 d4 d5 F) (a : Str) : DGet H d4 (.str a) ((F.A.lookup a).map fun x => osV x.h) := .inl ⟨_, Sum.inr a, .inl h.h, rfl, (valV_map' (g := fun x => osV x.h) a F.A).symm⟩
theorem FairAt.ng (h : FairAt B Cf H f d1 d2 d3 d4 d5 F) (a : Str) : DGet H d5 (.str a) ((F.A.lookup a).map fun x => nI x.n) := .inl ⟨_, Sum.inr a, .inl h.n, rfl, (valV_map' (g := fun x => nI x.n) a F.A).symm⟩
theorem FairAt.sg (h : FairAt B Cf H f d1 d2 d3 d4 d5 F) (a : Str) : DGet H d3 (.str a) ((F.R.lookup a).map fun x => nI x.c) := .inl ⟨_, Sum.inr a, .inl h.s, rfl, (valV_map' (g := fun x => nI x.c) a F.R).symm⟩
theorem FairAt.keysL (h : FairAt B Cf H f d1 d2 d3 d4 d5 F) : ∃ kvs, Rd H d1 (.dK kvs) ∧ kvs.map (fun kv => kv.1) = F.asks.map Sum.inr := by
  obtain ⟨kl, l1, l2⟩ := h.l
  refine ⟨kl, l1, ?_⟩
  clear l1
  unfold FSt.asks
  generalize F.A = as at l2
  induction l2 with
  | nil => rfl
  | cons h t ih => rw [List.map_cons, List.map_cons, List.map_cons, ih, h.1]
theorem FairAt.keysO (h : FairAt B Cf H f d1 d2 d3 d4 d5 F) : ∃ kvs, Rd H d2 (.dK kvs) ∧ kvs.map (fun kv => kv.1) = F.rooms.map Sum.inr := by
  obtain ⟨kl, l1, l2⟩ := h.o
  refine ⟨kl, l1, ?_⟩
  clear l1
  unfold FSt.rooms
  generalize F.R = as at l2
  induction l2 with
  | nil => rfl
  | cons h t ih => rw [List.map_cons, List.map_cons, List.map_cons, ih, h.1]
end
theorem osV_eq (o : Option Str) (r : Str) : decide (osV o = .str r) = decide (o = some r) := by cases o <;> simp [osV]
theorem osV_scal (o : Option Str) (r : Str) : scal (osV o) (.str r) = true := by cases o <;> rfl
theorem osV_non (o : Option Str) : decide (osV o = .non) = decide (o = none) := by cases o <;> simp [osV]
abbrev FEx (B : Bs) (Cf : Addr) (H : Hp) (f : Addr) (F : FSt) : Prop := ∃ d1 d2 d3 d4 d5, FairAt B Cf H f d1 d2 d3 d4 d5 F
theorem FEx.ex {B : Bs} {Cf f : Addr} {H H' : Hp} {F : FSt} (h : FEx B Cf H f F) (k : Ex B.G H H') : FEx B Cf H' f F := by
  obtain ⟨d1, d2, d3, d4, d5, h⟩ := h
  exact ⟨d1, d2, d3, d4, d5, h.ex k⟩
def pFThose (B : Bs) (Cf : Addr) : Pre := fun vs H S P => ∃ f F r, vs = [.ref f, .str r] ∧ FEx B Cf H f F ∧ (∃ y, F.R.lookup r = some y) ∧ S = [] ∧ P = fun v H' => ∃ p, v = .ref p ∧ H' p = some (.lst ((F.inside r).map V.str))
theorem pFThose_ex {B : Bs} {Cf : Addr} : PreEx B.G (pFThose B Cf) := fun vs H H' S P k ⟨f, F, r, h1, h2, h3⟩ => ⟨f, F, r, h1, h2.ex k, h3⟩
def pFWaits (B : Bs) (Cf : Addr) : Pre := fun vs H S P => ∃ f F, vs = [.ref f] ∧ FEx B Cf H f F ∧ S = [] ∧ P = fun v H' => ∃ p, v = .ref p ∧ H' p = some (.lst (((sortS F.asks).filter F.waits).map V.str))
theorem pFWaits_ex {B : Bs} {Cf : Addr} : PreEx B.G (pFWaits B Cf) := fun vs H H' S P k ⟨f, F, h1, h2, h3⟩ => ⟨f, F, h1, h2.ex k, h3⟩
def pFMatch (B : Bs) (Cf : Addr) : Pre := fun vs H S P => ∃ f F, vs = [.ref f] ∧ FEx B Cf H f F ∧ S = [] ∧ P = fun v H' => TupsAt B.K H' v ((sortS F.asks).map fun a => [.str a, osV (F.held a)])
theorem pFMatch_ex {B : Bs} {Cf : Addr} : PreEx B.G (pFMatch B Cf) := fun vs H H' S P k ⟨f, F, h1, h2, h3⟩ => ⟨f, F, h1, h2.ex k, h3⟩
section
variable {B : Bs} {Cf : Addr} (TF : FairC B Cf)
include TF
theorem ok_fThose {ff : Addr} {fd : FuncData} {cdv : Value} (Fn : FunC B.K "those_in" "Fair.those_in" (dFair 2) ff fd cdv) : FnOk B.P B.w B.K B.mg B.base CX0 1 ff fd ["self", "room"] (spM B.G (pFThose B Cf)) := by
  refine def_ok Fn scFair2 (fun vs H SS P ⟨f, F, r, e, _⟩ => by rw [e]; rfl) fun vs H SS P D ht hp hD _ => ?_
  obtain ⟨f, F, r, rfl, ⟨d1, d2, d3, d4, d5, hF⟩, ⟨y, hy⟩, rfl, rfl⟩ := hp
  obtain ⟨dx, n, o1⟩ := hF.ob
  obtain ⟨t, g1, g2⟩ := hF.og hy
  refine s_ret (e_lc [("asker", 2)] (lc_V (as := y.o) (ei_tup (ev := V.str) (e_dget (e_fld (ev 0) o1 TF.cl TF.nO rfl) (ev 1) g1) g2) (fun H1 k => ex_t k g2) (fun a => decide (F.held a = some r)) V.str (Nat.le_trans (hF.ok.tR _ (lookup_mem hy)).1 (by decide)) fun a H1 ha k => ⟨_, eg_name 2, rfl, ts_one (t_k (CM.is (c_eq (osV_scal (F.held a) r) (EK.is (e_get1 (e_fld (ev 0) (k.xat o1) TF.cl TF.nH rfl) (ev 2) ((hF.ex k).hg a)) ?_) (ev 1)) (osV_eq _ _))), fun _ => ev 2⟩)) fun v H2 k ⟨p, e, _, hp⟩ => hD _ _ k ⟨p, e, ?_⟩
  · unfold FSt.held
    cases F.A.lookup a <;> rfl
  · rw [hp]
    unfold FSt.inside
    rw [hy]
theorem ok_fWaits {ff : Addr} {fd : FuncData} {cdv : Value} (Fn : FunC B.K "who_waits" "Fair.who_waits" (dFair 5) ff fd cdv) : FnOk B.P B.w B.K B.mg B.base CX0 1 ff fd ["self"] (spM B.G (pFWaits B Cf)) := by
  refine def_ok Fn scFair5 (fun vs H SS P ⟨f, F, e, _⟩ => by rw [e]; rfl) fun vs H SS P D ht hp hD _ => ?_
  obtain ⟨f, F, rfl, ⟨d1, d2, d3, d4, d5, hF⟩, rfl, rfl⟩ := hp
  obtain ⟨dx, n, o1⟩ := hF.ob
  obtain ⟨kl, l1, l2⟩ := hF.keysL
  have hlen : F.asks.length < 64 := by
    have := hF.ok.sA
    unfold FSt.asks
    rw [List.length_map]
    omega
  refine s_ret (e_lc [("one", 1)] (lc_Vp (as := sortS F.asks) (ev := V.str) (eip_listB (e_sortD TF.sorted (e_fld (ev 0) o1 TF.cl TF.nL rfl) l1 l2 hlen) fun x H1 k ⟨p, e, _, h⟩ => ⟨p, e, .inl (.inl h)⟩) F.waits V.str (by rw [(sortS_perm _).length_eq]; omega) fun a H1 ha k => ?_)) fun v H2 k ⟨p, e, _, hp⟩ => hD _ _ k ⟨p, e, hp⟩
  obtain ⟨x, hx⟩ := lookup_of_mem (mem_sortS.mp ha)
  have hF1 := hF.ex k
  have o1' := k.xat o1
  obtain ⟨t, g1, g2⟩ := hF1.lg hx
  have gh := hF1.hg a
  have gn := hF1.ng a
  rw [hx] at gh gn
  refine ⟨_, eg_name 1, rfl, ts_one (T.is (t_and (s := decide (x.h = none)) (t := decide (x.n < x.l.length)) (t_k (CM.is (c_isN (e_dget (e_fld (ev 0) o1' TF.cl TF.nH rfl) (ev 1) gh)) (osV_non _))) fun _ => t_k (CM.is (c_lt (i := x.n) (j := x.l.length) (e_dget (e_fld (ev 0) o1' TF.cl TF.nN rfl) (ev 1) gn) (EK.is (e_lenSeq TF.len (e_dget (e_fld (ev 0) o1' TF.cl TF.nL rfl) (ev 1) g1) (.inr g2)) (by rw [List.length_map]))) (by simp))) ?_), fun _ => ev 1⟩
  unfold FSt.waits
  rw [hx]
theorem ok_fMatch {ff : Addr} {fd : FuncData} {cdv : Value} (Fn : FunC B.K "match" "Fair.match" (dFair 3) ff fd cdv) : FnOk B.P B.w B.K B.mg B.base CX0 1 ff fd ["self"] (spM B.G (pFMatch B Cf)) := by
  refine def_ok Fn scFair3 (fun vs H SS P ⟨f, F, e, _⟩ => by rw [e]; rfl) fun vs H SS P D ht hp hD _ => ?_
  obtain ⟨f, F, rfl, ⟨d1, d2, d3, d4, d5, hF⟩, rfl, rfl⟩ := hp
  obtain ⟨dx, n, o1⟩ := hF.ob
  obtain ⟨kl, l1, l2⟩ := hF.keysL
  have hlen : F.asks.length < 64 := by
    have := hF.ok.sA
    unfold FSt.asks
    rw [List.length_map]
    omega
  refine s_ret (e_tupleOfB (R := fun xs H' => Paired (fun a v => ∃ q, v = V.ref q ∧ SqT B.K H' q [.str a, osV (F.held a)]) (sortS F.asks) xs) TF.tup (e_lc [("asker", 1)] (lc_Rp (as := sortS F.asks) (IV := fun a x _ => x = V.str a) (eip_listB (e_sortD TF.sorted (e_fld (ev 0) o1 TF.cl TF.nL rfl) l1 l2 hlen) fun x H1 k ⟨p, e, _, h⟩ => ⟨p, e, .inl (.inl h)⟩) (fun _ => true) (fun _ a v H' => ∃ q, v = V.ref q ∧ H' q = some (.tup [.str a, osV (F.held a)])) (fun D' a v H1 H2 zs hz kk ⟨q, e, h⟩ => ⟨q, e, kk.at1 hz h (by simp)⟩) (by rw [(sortS_perm _).length_eq]; omega) fun D' a x H1 zs ha k _ hD1 e => ?_))
    fun x H1 k ⟨D', ys, e1, _, e3, e4⟩ => ⟨D', ys, e1, .inl (.inl (.inl e3)), fun H2 k2 => ?_⟩) fun v H2 k ⟨l, xs, e1, e2, e3⟩ => hD _ _ k ⟨l, xs, e1, e2, paired_map e3⟩
  · subst e
    obtain ⟨x, hx⟩ := lookup_of_mem (mem_sortS.mp ha)
    have gh := (hF.ex k).hg a
    rw [hx] at gh
    have eh : F.held a = x.h := by unfold FSt.held; rw [hx]; rfl
    rw [eh]
    exact ⟨_, eg_name 1, rfl, ts_nil, fun _ => EK.imp (e_tup (a_cons (ev 1) (a_1 (e_dget (e_fld (ev 0) (k.xat o1) TF.cl TF.nH rfl) (ev 1) gh)))) fun v H2 k2 ⟨q, e1, _, e3⟩ => ⟨q, e1, e3⟩⟩
  · rw [List.filter_eq_self.mpr (fun _ _ => rfl)] at e4
    exact paired_imp e4 fun a v ⟨q, e, h⟩ => ⟨q, e, .inl (.inl (k2.xat h))⟩
end
end Pm
end
/-! ## W15 -/
section
set_option Elab.async false
set_option linter.all false
set_option maxRecDepth 100000
set_option maxHeartbeats 2000000
namespace Pm
open PySem L2
/-! ### Fair.ask -/
def FSt.setN (F : FSt) (a : Str) (n : Nat) : FSt := { F with A := F.A.map fun p => (p.1, if p.1 = a then { p.2 with n := n } else p.2) }
def FSt.setH (F : FSt) (a : Str) (h : Option Str) : FSt := { F with A := F.A.map fun p => (p.1, if p.1 = a then { p.2 with h := h } else p.2) }
def FSt.seats (F : FSt) (r : Str) : Nat := match F.R.lookup r with
  | some y => y.c
  | none => 0
/-- what an asker's turn makes of the state, and who is left over -/
def askF (F : FSt) (a : Str) : FSt × Option Str :=
  match F.A.lookup a with
  | none => (F, none)
  | some x => match x.l[x.n]? with
    | none => (F, none)
    | some r =>
      if F.likes a r = true then
        if (((F.setN a (x.n + 1)).setH a (some r)).inside r).length ≤ F.seats r then ((F.setN a (x.n + 1)).setH a (some r), none)
        else (((F.setN a (x.n + 1)).setH a (some r)).setH ((((F.setN a (x.n + 1)).setH a (some r)).inside r).getLastD a) none, some ((((F.setN a (x.n + 1)).setH a (some r)).inside r).getLastD a))
      else (F.setN a (x.n + 1), some a)
theorem putK_map {ρ : Type} {g : ρ → V} {a : Str} {v : V} {as : List (Str × ρ)} (ha : a ∈ as.map fun p => p.1) : putK (as.map fun p => ((Sum.inr p.1 : L2.Key), g p.2)) (Sum.inr a) v = as.map fun p => ((Sum.inr p.1 : L2.Key), if p.1 = a then v else g p.2) := by
  unfold putK
  rw [if_pos, List.map_map]
  · refine List.map_congr_left fun p _ => ?_
    by_cases h : p.1 = a
    · simp [h]
    · simp [h]
  · rw [List.any_eq_true]
    obtain ⟨p, hp, e⟩ := List.mem_map.mp ha
    exact ⟨_, List.mem_map.mpr ⟨p, hp, rfl⟩, by simp [e]⟩
theorem lookup_map {ρ τ : Type} {u : Str → ρ → τ} {a : Str} : ∀ {as : List (Str × ρ)}, (as.map fun p => (p.1, u p.1 p.2)).lookup a = (as.lookup a).map (u a)
  | [] => rfl
  | (k, x) :: as => by
    rw [List.map_cons, List.lookup_cons, List.lookup_cons]
    cases h : a == k with
    | true =>
      rw [beq_iff_eq.mp h]
      rfl
    | false => exact lookup_map
theorem TupD.kp {G : Gt} {ρ : Type} {K : PySem.W.Frag} {H H' : Hp} {g : ρ → List Str} {as : List (Str × ρ)} {kvs : List (L2.Key × V)} {p : Addr} {u : HO} (h : TupD K H g as kvs) (k : Kp G [p] H H') (hp : H p = some u) (n1 : ∀ xs, u ≠ .tup xs) (n2 : ∀ o xs, u ≠ .frz o (.tup xs)) : TupD K H' g as kvs := paired_imp h fun q kv ⟨e, t, e2, h⟩ => ⟨e, t, e2, kp_t1 k hp h (n1 _) fun o => n2 o _⟩
theorem TupD.mapA {ρ τ : Type} {K : PySem.W.Frag} {H : Hp} {g : ρ → List Str} {g' : τ → List Str} {u : Str → ρ → τ} (hu : ∀ a x, g' (u a x) = g x) : ∀ {as : List (Str × ρ)} {kvs : List (L2.Key × V)}, TupD K H g as kvs → TupD K H g' (as.map fun p => (p.1, u p.1 p.2)) kvs
  | _, _, .nil => .nil
  | _, _, .cons ⟨e, t, e2, h⟩ q => .cons ⟨e, t, e2, by show SqT K H t ((g' (u _ _)).map V.str); rw [hu]; exact h⟩ (TupD.mapA hu q)
theorem map_fst {ρ τ : Type} {u : Str → ρ → τ} {as : List (Str × ρ)} : (as.map fun p => (p.1, u p.1 p.2)).map (fun p => p.1) = as.map fun p => p.1 := by
  rw [List.map_map]
  rfl
theorem FSt.Ok.mapA {F : FSt} (h : F.Ok) {u : Str → ARow → ARow} (hu : ∀ a x, (u a x).l = x.l) (ho : ∀ a x, (∀ r, x.h = some r → sOk r) → ∀ r, (u a x).h = some r → sOk r) : FSt.Ok { F with A := F.A.map fun p => (p.1, u p.1 p.2) } where
  kA := by
    show ((F.A.map fun p => (p.1, u p.1 p.2)).map (fun p => p.1)).Nodup
    rw [map_fst]
    exact h.kA
  kR := h.kR
  sA := by
    show (F.A.map fun p => (p.1, u p.1 p.2)).length ≤ 60
    rw [List.length_map]
    exact h.sA
  sR := h.sR
  tA := fun p hp => by
    obtain ⟨q, hq, rfl⟩ := List.mem_map.mp hp
    show (u q.1 q.2).l.length ≤ 60 ∧ ∀ x ∈ (u q.1 q.2).l, sOk x
    rw [hu]
    exact h.tA q hq
  tR := h.tR
  oA := fun p hp => by
    obtain ⟨q, hq, rfl⟩ := List.mem_map.mp hp
    exact ⟨(h.oA q hq).1, ho _ _ (h.oA q hq).2⟩
  oR := h.oR
section
variable {B : Bs} {Cf f d1 d2 d3 d4 d5 : Addr} {H H' : Hp} {F : FSt}
theorem nd5 (h : [d1, d2, d3, d4, d5].Nodup) : d1 ≠ d2 ∧ d1 ≠ d3 ∧ d1 ≠ d4 ∧ d1 ≠ d5 ∧ d2 ≠ d3 ∧ d2 ≠ d4 ∧ d2 ≠ d5 ∧ d3 ≠ d4 ∧ d3 ≠ d5 ∧ d4 ≠ d5 := by
  simp only [List.nodup_cons, List.mem_cons, List.not_mem_nil, or_false, not_or] at h
  obtain ⟨⟨a, b, c, d⟩, ⟨e, g, i⟩, ⟨j, k⟩, l, _⟩ := h
  exact ⟨a, b, c, d, e, g, i, j, k, l⟩
theorem FairAt.setN (h : FairAt B Cf H f d1 d2 d3 d4 d5 F) {a : Str} {n : Nat} (ha : a ∈ F.asks) (k : Kp B.G [d5] H H') (h5 : H' d5 = some (.dK (putK (F.A.map fun p => (Sum.inr p.1, nI p.2.n)) (Sum.inr a) (nI n)))) : FairAt B Cf H' f d1 d2 d3 d4 d5 (F.setN a n) := by
  obtain ⟨n12, n13, n14, n15, n23, n24, n25, n34, n35, n45⟩ := nd5 h.ds
  obtain ⟨⟨dx, m, h1⟩, ⟨kl, h2, h3⟩, ⟨ko, h4, h5'⟩, h6, h7, h8, r1, r2⟩ := h
  refine ⟨⟨dx, m, k.at1 h8 h1 (by simp)⟩, ⟨kl, kp_rd k h2 (by simpa using n15), TupD.mapA (u := fun b x => if b = a then { x with n := n } else x) (fun b x => by split <;> rfl) (h3.kp k h8 (by simp) (by simp))⟩, ⟨ko, kp_rd k h4 (by simpa using n25), h5'.kp k h8 (by simp) (by simp)⟩, k.at h6 (by simpa using n35), ?_, ?_, r1, FSt.Ok.mapA (u := fun b x => if b = a then { x with n := n } else x) r2 (fun b x => by split <;> rfl) (fun b x => by split <;> exact id)⟩
  · rw [k.at h7 (by simpa using n45)]
    show _ = some (HO.dK ((F.A.map _).map _))
    rw [List.map_map]
    congr 2
    refine List.map_congr_left fun p _ => ?_
    show _ = (Sum.inr p.1, osV (if p.1 = a then { p.2 with n := n } else p.2).h)
    split <;> rfl
  · rw [h5, putK_map (g := fun x : ARow => nI x.n) ha]
    show _ = some (HO.dK ((F.A.map _).map _))
    rw [List.map_map]
    congr 2
    refine List.map_congr_left fun p _ => ?_
    show _ = (Sum.inr p.1, nI (if p.1 = a then { p.2 with n := n } else p.2).n)
    split <;> rfl
theorem FairAt.setH (h : FairAt B Cf H f d1 d2 d3 d4 d5 F) {a : Str} {o : Option Str} (ha : a ∈ F.asks) (hs : ∀ r, o = some r → sOk r) (k : Kp B.G [d4] H H') (h5 : H' d4 = some (.dK (putK (F.A.map fun p => (Sum.inr p.1, osV p.2.h)) (Sum.inr a) (osV o)))) : FairAt B Cf H' f d1 d2 d3 d4 d5 (F.setH a o) := by
  obtain ⟨n12, n13, n14, n15, n23, n24, n25, n34, n35, n45⟩ := nd5 h.ds
  obtain ⟨⟨dx, m, h1⟩, ⟨kl, h2, h3⟩, ⟨ko, h4, h5'⟩, h6, h7, h8, r1, r2⟩ := h
  refine ⟨⟨dx, m, k.at1 h7 h1 (by simp)⟩, ⟨kl, kp_rd k h2 (by simpa using n14), TupD.mapA (u := fun b x => if b = a then { x with h := o } else x) (fun b x => by split <;> rfl) (h3.kp k h7 (by simp) (by simp))⟩, ⟨ko, kp_rd k h4 (by simpa using n24), h5'.kp k h7 (by simp) (by simp)⟩, k.at h6 (by simpa using n34), ?_, ?_, r1, FSt.Ok.mapA (u := fun b x => if b = a then { x with h := o } else x) r2 (fun b x => by split <;> rfl) (fun b x hx => by split; exact hs; exact hx)⟩
  · rw [h5, putK_map (g := fun x : ARow => osV x.h) ha]
    show _ = some (HO.dK ((F.A.map _).map _))
    rw [List.map_map]
    congr 2
    refine List.map_congr_left fun p _ => ?_
    show _ = (Sum.inr p.1, osV (if p.1 = a then { p.2 with h := o } else p.2).h)
    split <;> rfl
  · rw [k.at h8 (by simpa using Ne.symm n45)]
    show _ = some (HO.dK ((F.A.map _).map _))
    rw [List.map_map]
    congr 2
    refine List.map_congr_left fun p _ => ?_
    show _ = (Sum.inr p.1, nI (if p.1 = a then { p.2 with h := o } else p.2).n)
    split <;> rfl
theorem FairAt.addAsks (h : FairAt B Cf H f d1 d2 d3 d4 d5 F) (k : Kp B.G [f] H H') {dx : Addr} {n : Int} (hf : H' f = some (.ins Cf dx [("lists", .ref d1), ("orders", .ref d2), ("seats", .ref d3), ("held", .ref d4), ("next", .ref d5), ("asks", .int n)])) : FairAt B Cf H' f d1 d2 d3 d4 d5 F := by
  obtain ⟨⟨dx, m, h1⟩, ⟨kl, h2, h3⟩, ⟨ko, h4, h5'⟩, h6, h7, h8, r1, r2⟩ := h
  have rd : ∀ {d : Addr} {kvs : List (L2.Key × V)}, Rd H d (.dK kvs) → Rd H' d (.dK kvs) := fun h => by
    rcases h with h | ⟨o, h⟩
    · exact .inl (k.at1 h1 h (by simp))
    · exact .inr ⟨o, k.at1 h1 h (by simp)⟩
  exact ⟨⟨_, n, hf⟩, ⟨kl, rd h2, h3.kp k h1 (by simp) (by simp)⟩, ⟨ko, rd h4, h5'.kp k h1 (by simp) (by simp)⟩, k.at1 h1 h6 (by simp), k.at1 h1 h7 (by simp), k.at1 h1 h8 (by simp), r1, r2⟩
end
def pFAsk (B : Bs) (Cf : Addr) : Pre := fun vs H S P => ∃ f d1 d2 d3 d4 d5 F a, vs = [.ref f, .str a] ∧ FairAt B Cf H f d1 d2 d3 d4 d5 F ∧ (∃ x r, F.A.lookup a = some x ∧ x.l[x.n]? = some r) ∧ S = [f, d4, d5] ∧ P = fun v H' => v = osV (askF F a).2 ∧ FairAt B Cf H' f d1 d2 d3 d4 d5 (askF F a).1
theorem pFAsk_ex {B : Bs} {Cf : Addr} : PreEx B.G (pFAsk B Cf) := fun vs H H' S P k ⟨f, d1, d2, d3, d4, d5, F, a, h1, h2, h3⟩ => ⟨f, d1, d2, d3, d4, d5, F, a, h1, h2.ex k, h3⟩
theorem mem_asks {F : FSt} {a : Str} {x : ARow} (h : F.A.lookup a = some x) : a ∈ F.asks := List.mem_map.mpr ⟨_, lookup_mem h, rfl⟩
theorem held_asks {F : FSt} {a r : Str} (h : F.held a = some r) : a ∈ F.asks := by
  unfold FSt.held at h
  cases hx : F.A.lookup a with
  | none => rw [hx] at h; cases h
  | some x => exact mem_asks hx
theorem likes_rooms {F : FSt} {a r : Str} (h : F.likes a r = true) : ∃ y, F.R.lookup r = some y := by
  unfold FSt.likes at h
  cases hx : F.A.lookup a with
  | none => rw [hx] at h; cases h
  | some x =>
    cases hy : F.R.lookup r with
    | none => rw [hx, hy] at h; cases h
    | some y => exact ⟨y, rfl⟩
theorem likes_setN {F : FSt} {a b r : Str} {n : Nat} : (F.setN b n).likes a r = F.likes a r := by
  have e : (F.setN b n).A.lookup a = (F.A.lookup a).map fun x => if a = b then { x with n := n } else x := lookup_map (u := fun (c : Str) (x : ARow) => if c = b then { x with n := n } else x)
  have e2 : (F.setN b n).R = F.R := rfl
  unfold FSt.likes
  rw [e, e2]
  cases F.A.lookup a with
  | none => rfl
  | some x =>
    cases F.R.lookup r with
    | none => rfl
    | some y => by_cases h : a = b <;> simp [h]
section
variable {B : Bs} {Cf : Addr} (TF : FairC B Cf)
include TF
theorem ok_fAsk {ff : Addr} {fd : FuncData} {cdv : Value} (Fn : FunC B.K "ask" "Fair.ask" (dFair 4) ff fd cdv) (GL : GM B 1 Cf "likes" (pFLikes B Cf)) (GT : GM B 1 Cf "those_in" (pFThose B Cf)) : FnOk B.P B.w B.K B.mg B.base CX0 2 ff fd ["self", "asker"] (spM B.G (pFAsk B Cf)) := by
  refine def_ok Fn scFair4 (fun vs H SS P ⟨f, d1, d2, d3, d4, d5, F, a, e, _⟩ => by rw [e]; rfl) fun vs H SS P D ht hp hD _ => ?_
  obtain ⟨f, d1, d2, d3, d4, d5, F, a, rfl, hF, ⟨x, r, hx, hr⟩, rfl, rfl⟩ := hp
  obtain ⟨dx, n, o1⟩ := hF.ob
  obtain ⟨t, g1, g2⟩ := hF.lg hx
  have gn := hF.ng a
  rw [hx] at gn
  have hA : a ∈ F.asks := mem_asks hx
  have gr : (x.l.map V.str)[x.n]? = some (.str r) := by rw [List.getElem?_map, hr]; rfl
  have sz : ∀ (g : ARow → V), (F.A.map fun p => ((Sum.inr p.1 : L2.Key), g p.2)).length < 1000000 := fun g => by
    rw [List.length_map]
    have := hF.ok.sA
    omega
  have hv : valV (F.A.map fun p => ((Sum.inr p.1 : L2.Key), nI p.2.n)) (Sum.inr a) = some (.int (x.n : Int)) := by
    rw [valV_map' (g := fun x => nI x.n) a F.A, hx]
    rfl
  refine s_setV (i := 2) (e_ixT (e_dget (e_fld (ev 0) o1 TF.cl TF.nL rfl) (ev 1) g1) (e_dget (e_fld (ev 0) o1 TF.cl TF.nN rfl) (ev 1) gn) g2 (atI_nat gr)) ?_
  refine s_daug (key := Sum.inr a) (e_fld (ev 0) o1 TF.cl TF.nN rfl) (ev 1) e_int hF.n (sz fun y => nI y.n) hv fun H2 k2 h2 => ?_
  have hF2 : FairAt B Cf H2 f d1 d2 d3 d4 d5 (F.setN a (x.n + 1)) := hF.setN hA k2 h2
  obtain ⟨dx2, n2, o2⟩ := hF2.ob
  refine s_fldaug (ev 0) e_int o2 TF.cl TF.nA (by show 6 < 1000; decide) rfl fun H3 k3 h3 => ?_
  have hF3 := hF2.addAsks k3 h3
  obtain ⟨dx3, n3, o3⟩ := hF3.ob
  have k23 : Kp B.G [f, d4, d5] H H3 := (k2.mono (by simp)).trans (k3.mono (by simp))
  have ht3 := k23.tok ht
  have eask : askF F a = if F.likes a r = true then
        if (((F.setN a (x.n + 1)).setH a (some r)).inside r).length ≤ F.seats r then ((F.setN a (x.n + 1)).setH a (some r), none)
        else (((F.setN a (x.n + 1)).setH a (some r)).setH ((((F.setN a (x.n + 1)).setH a (some r)).inside r).getLastD a) none, some ((((F.setN a (x.n + 1)).setH a (some r)).inside r).getLastD a))
      else (F.setN a (x.n + 1), some a) := by
    unfold askF
    simp only [hx, hr]
  refine s_if (b := !F.likes a r) (t_not (t_val (EK.is (e_meth GL (Nat.le_refl _) ht3 (ev 0) o3 rfl (a_cons (ev 1) (a_1 (ev 2))) ⟨f, d1, d2, d3, d4, d5, _, a, r, rfl, hF3, rfl, rfl⟩) (by rw [likes_setN])))) (fun hb => ?_) (fun hb => s_next ?_)
  · have hb : F.likes a r = false := by simpa using hb
    refine s_ret (ev 1) fun v H4 k4 e => hD _ _ (k23.then k4) ?_
    rw [eask, if_neg (by rw [hb]; decide)]
    exact ⟨e, hF3.ex k4⟩
  have hb : F.likes a r = true := by simpa using hb
  obtain ⟨y, hy⟩ := likes_rooms hb
  have hA3 : a ∈ (F.setN a (x.n + 1)).asks := by
    show a ∈ (F.A.map _).map _
    exact (map_fst (u := fun (c : Str) (z : ARow) => if c = a then { z with n := x.n + 1 } else z) (as := F.A)).symm ▸ hA
  have hrok : sOk r := (hF.ok.tA _ (lookup_mem hx)).2 r (List.mem_of_getElem? hr)
  have sz3 : ∀ {G : FSt} (g : ARow → V), G.Ok → (G.A.map fun p => ((Sum.inr p.1 : L2.Key), g p.2)).length < 1000000 := fun {G} g h => by
    rw [List.length_map]
    have := h.sA
    omega
  refine s_dputV (key := Sum.inr a) (ev 2) (e_fld (ev 0) o3 TF.cl TF.nH rfl) (ev 1) hF3.h (sz3 (fun y => osV y.h) hF3.ok) fun H4 k4 h4 => ?_
  have hF4 := hF3.setH (o := some r) hA3 (fun r' e => by cases e; exact hrok) k4 h4
  obtain ⟨dx4, n4, o4⟩ := hF4.ob
  have k4' : Kp B.G [f, d4, d5] H H4 := k23.trans (k4.mono (by simp))
  have ht4 := k4'.tok ht
  refine s_set (i := 3) (e_meth GT (Nat.le_refl _) ht4 (ev 0) o4 rfl (a_1 (ev 2)) ⟨f, _, r, rfl, ⟨d1, d2, d3, d4, d5, hF4⟩, ⟨y, hy⟩, rfl, rfl⟩) fun v H5 k5 ⟨p, e, hpl⟩ => ?_
  subst e
  have hF5 := hF4.ex k5
  have o5 := k5.xat o4
  have k5' := k4'.then k5
  have gs := hF5.sg r
  have hyR : ((F.setN a (x.n + 1)).setH a (some r)).R.lookup r = some y := hy
  rw [hyR] at gs
  have hse : F.seats r = y.c := by
    unfold FSt.seats
    rw [hy]
  refine s_if (b := decide ((((F.setN a (x.n + 1)).setH a (some r)).inside r).length ≤ F.seats r)) (t_k (CM.is (c_le (i := (((F.setN a (x.n + 1)).setH a (some r)).inside r).length) (j := y.c) (EK.is (e_lenSeq TF.len (ev 3) (.inl (.inl (.inl hpl)))) (by rw [List.length_map])) (e_dget (e_fld (ev 0) o5 TF.cl TF.nS rfl) (ev 2) gs)) (by rw [hse]; simp))) (fun hc => ?_) (fun hc => s_next ?_)
  · have hc : (((F.setN a (x.n + 1)).setH a (some r)).inside r).length ≤ F.seats r := by simpa using hc
    refine s_ret e_non fun v H6 k6 e => hD _ _ (k5'.then k6) ?_
    rw [eask, if_pos hb, if_pos hc]
    exact ⟨e, hF5.ex k6⟩
  · have hc : ¬ (((F.setN a (x.n + 1)).setH a (some r)).inside r).length ≤ F.seats r := by simpa using hc
    obtain ⟨ini, w, hw⟩ := SrtO.snoc_of (l := ((F.setN a (x.n + 1)).setH a (some r)).inside r) (by omega)
    have hlast : (((F.setN a (x.n + 1)).setH a (some r)).inside r).getLastD a = w := by rw [hw]; simp
    have hwi : w ∈ ((F.setN a (x.n + 1)).setH a (some r)).inside r := by rw [hw]; simp
    have hwh : ((F.setN a (x.n + 1)).setH a (some r)).held w = some r := by
      unfold FSt.inside at hwi
      rw [hyR] at hwi
      simpa using (List.mem_filter.mp hwi).2
    have hat : atI ((((F.setN a (x.n + 1)).setH a (some r)).inside r).map V.str) (-1) = some (.str w) := by
      rw [hw, List.map_append]
      exact atI_last _ _
    refine s_dputV (key := Sum.inr w) e_non (e_fld (ev 0) o5 TF.cl TF.nH rfl) (e_ixL (ev 3) (e_neg e_int) (.inl (.inl hpl)) hat) hF5.h (sz3 (fun y => osV y.h) hF5.ok) fun H6 k6 h6 => ?_
    have hF6 := hF5.setH (o := none) (held_asks hwh) (fun r' e => nomatch e) k6 h6
    refine s_ret (e_ixL (ev 3) (e_neg e_int) (.inl (.inl (k6.at1 hF5.h hpl (by simp)))) hat) fun v H7 k7 e => hD _ _ ((k5'.trans (k6.mono (by simp))).then k7) ?_
    rw [eask, if_pos hb, if_neg hc, hlast]
    exact ⟨e, hF6.ex k7⟩
end
end Pm
end
/-! ## W16 -/
section
set_option Elab.async false
set_option linter.all false
set_option maxRecDepth 100000
set_option maxHeartbeats 2000000
namespace Pm
open PySem L2
/-! ### Fair.go_on -/
inductive FRuns (F : FSt) : FSt → Prop
  | refl : FRuns F F
  | step {F1 : FSt} {a : Str} : FRuns F F1 → F1.waits a = true → FRuns F (askF F1 a).1
def remF (F : FSt) : Nat := (F.A.map fun p => p.2.l.length - p.2.n).sum
theorem waits_iff {F : FSt} {a : Str} : F.waits a = true ↔ ∃ x, F.A.lookup a = some x ∧ x.h = none ∧ x.n < x.l.length := by
  unfold FSt.waits
  cases h : F.A.lookup a with
  | none => simp
  | some x => simp
theorem asks_setN {F : FSt} {a : Str} {n : Nat} : (F.setN a n).asks = F.asks := by
  unfold FSt.asks FSt.setN
  simp [List.map_map, Function.comp_def]
theorem asks_setH {F : FSt} {a : Str} {o : Option Str} : (F.setH a o).asks = F.asks := by
  unfold FSt.asks FSt.setH
  simp [List.map_map, Function.comp_def]
theorem look_setN {F : FSt} {a b : Str} {n : Nat} : (F.setN b n).A.lookup a = (F.A.lookup a).map fun x => if a = b then { x with n := n } else x := lookup_map (u := fun (c : Str) (x : ARow) => if c = b then { x with n := n } else x)
theorem look_setH {F : FSt} {a b : Str} {o : Option Str} : (F.setH b o).A.lookup a = (F.A.lookup a).map fun x => if a = b then { x with h := o } else x := lookup_map (u := fun (c : Str) (x : ARow) => if c = b then { x with h := o } else x)
theorem asks_askF {F : FSt} {a : Str} : (askF F a).1.asks = F.asks := by
  unfold askF
  split
  · rfl
  · split
    · rfl
    · split
      · split
        · rw [asks_setH, asks_setN]
        · rw [asks_setH, asks_setH, asks_setN]
      · rw [asks_setN]
theorem held_setH {F : FSt} {w : Str} : (F.setH w none).held w = none := by
  unfold FSt.held
  rw [look_setH]
  cases F.A.lookup w <;> simp
theorem askF_left {F : FSt} {a w : Str} (hw : F.waits a = true) (h : (askF F a).2 = some w) : (askF F a).1.held w = none ∧ w ∈ (askF F a).1.asks := by
  obtain ⟨x, hx, hh, hn⟩ := waits_iff.mp hw
  have hr : x.l[x.n]? = some x.l[x.n] := List.getElem?_eq_getElem hn
  rw [asks_askF]
  revert h
  unfold askF
  simp only [hx, hr]
  split
  · rename_i hl
    split
    · intro h; cases h
    · rename_i hc
      intro h
      cases h
      refine ⟨held_setH, ?_⟩
      obtain ⟨y, hy⟩ := likes_rooms hl
      obtain ⟨ini, w, hw'⟩ := SrtO.snoc_of (l := ((F.setN a (x.n + 1)).setH a (some x.l[x.n])).inside x.l[x.n]) (by omega)
      have hlast : (((F.setN a (x.n + 1)).setH a (some x.l[x.n])).inside x.l[x.n]).getLastD a = w := by rw [hw']; simp
      have hwi : w ∈ ((F.setN a (x.n + 1)).setH a (some x.l[x.n])).inside x.l[x.n] := by rw [hw']; simp
      rw [hlast]
      have hyR : ((F.setN a (x.n + 1)).setH a (some x.l[x.n])).R.lookup x.l[x.n] = some y := hy
      unfold FSt.inside at hwi
      rw [hyR] at hwi
      have := held_asks (of_decide_eq_true (List.mem_filter.mp hwi).2)
      rwa [asks_setH, asks_setN] at this
  · intro h
    cases h
    refine ⟨?_, mem_asks hx⟩
    unfold FSt.held
    rw [look_setN, hx]
    simp [hh]
theorem rem_setH {F : FSt} {a : Str} {o : Option Str} : remF (F.setH a o) = remF F := by
  unfold remF FSt.setH
  simp only [List.map_map]
  congr 1
  refine List.map_congr_left fun p _ => ?_
  show (if p.1 = a then { p.2 with h := o } else p.2).l.length - (if p.1 = a then { p.2 with h := o } else p.2).n = _
  split <;> rfl
theorem rem_at {a : Str} {x : ARow} (hn : x.n < x.l.length) : ∀ {as : List (Str × ARow)}, as.lookup a = some x → (as.map fun p => p.1).Nodup → ((as.map fun p => (p.1, if p.1 = a then { p.2 with n := x.n + 1 } else p.2)).map fun p => p.2.l.length - p.2.n).sum + 1 = (as.map fun p => p.2.l.length - p.2.n).sum
  | [], h, _ => by cases h
  | (k, z) :: as, h, nd => by
    rw [List.lookup_cons] at h
    rw [List.map_cons] at nd
    obtain ⟨h1, h2⟩ := List.nodup_cons.mp nd
    rw [List.map_cons, List.map_cons, List.sum_cons, List.map_cons, List.sum_cons]
    cases hb : a == k with
    | true =>
      rw [hb] at h
      cases h
      have e : a = k := beq_iff_eq.mp hb
      subst e
      have : (as.map fun p => (p.1, if p.1 = a then { p.2 with n := x.n + 1 } else p.2)) = as := by
        conv => rhs; rw [← List.map_id as]
        refine List.map_congr_left fun p hp => ?_
        rw [if_neg (fun e => h1 (List.mem_map.mpr ⟨p, hp, e⟩))]
        rfl
      rw [this]
      simp
      omega
    | false =>
      rw [hb] at h
      have ih := rem_at hn h h2
      have hk : ¬ k = a := fun e => by rw [e] at hb; simp at hb
      have e : (if k = a then { z with n := x.n + 1 } else z) = z := if_neg hk
      show (if k = a then { z with n := x.n + 1 } else z).l.length - (if k = a then { z with n := x.n + 1 } else z).n + _ + 1 = z.l.length - z.n + _
      rw [e]
      omega
theorem rem_askF {F : FSt} {a : Str} (ok : F.Ok) (hw : F.waits a = true) : remF (askF F a).1 + 1 = remF F := by
  obtain ⟨x, hx, hh, hn⟩ := waits_iff.mp hw
  have hr : x.l[x.n]? = some x.l[x.n] := List.getElem?_eq_getElem hn
  have h1 : remF (F.setN a (x.n + 1)) + 1 = remF F := rem_at hn hx ok.kA
  unfold askF
  simp only [hx, hr]
  split
  · split
    · rw [rem_setH]; exact h1
    · rw [rem_setH, rem_setH]; exact h1
  · exact h1
def pFGo (B : Bs) (Cf : Addr) : Pre := fun vs H S P => ∃ f d1 d2 d3 d4 d5 F, vs = [.ref f] ∧ FairAt B Cf H f d1 d2 d3 d4 d5 F ∧ S = [f, d4, d5] ∧ P = fun v H' => ∃ F', FRuns F F' ∧ (∀ a, F'.waits a = false) ∧ FairAt B Cf H' f d1 d2 d3 d4 d5 F'
theorem pFGo_ex {B : Bs} {Cf : Addr} : PreEx B.G (pFGo B Cf) := fun vs H H' S P k ⟨f, d1, d2, d3, d4, d5, F, h1, h2, h3⟩ => ⟨f, d1, d2, d3, d4, d5, F, h1, h2.ex k, h3⟩
section
variable {B : Bs} {Cf : Addr} (TF : FairC B Cf)
include TF
theorem ok_fGo {ff : Addr} {fd : FuncData} {cdv : Value} (Fn : FunC B.K "go_on" "Fair.go_on" (dFair 6) ff fd cdv) (GW : GM B 1 Cf "who_waits" (pFWaits B Cf)) (GA : GM B 2 Cf "ask" (pFAsk B Cf)) : FnOk B.P B.w B.K B.mg B.base CX0 3 ff fd ["self"] (spM B.G (pFGo B Cf)) := by
  refine def_ok Fn scFair6 (fun vs H SS P ⟨f, d1, d2, d3, d4, d5, F, e, _⟩ => by rw [e]; rfl) fun vs H SS P D ht hp _ hN => ?_
  obtain ⟨f, d1, d2, d3, d4, d5, F, rfl, hF, rfl, rfl⟩ := hp
  obtain ⟨dx, n, o1⟩ := hF.ob
  have hok : ∀ {F' : FSt} {x : Str}, F'.Ok → ∀ y ∈ (sortS F'.asks).filter F'.waits, sOk y := fun {F' x} h y hy => by
    obtain ⟨p, hp, rfl⟩ := List.mem_map.mp (mem_sortS.mp (List.mem_filter.mp hy).1)
    exact (h.oA p hp).1
  refine s_set (i := 1) (e_meth0 GW (by show 1 ≤ 2; decide) ht (ev 0) o1 rfl ⟨f, F, rfl, ⟨d1, d2, d3, d4, d5, hF⟩, rfl, rfl⟩) fun v H1 k1 ⟨lw, e, hw⟩ => ?_
  subst e
  refine s_while (fun m σ1 H2 => ∃ F1 lw o2, σ1 = [some (.ref f), some (.ref lw), o2] ∧ Kp B.G [f, d4, d5] H H2 ∧ FairAt B Cf H2 f d1 d2 d3 d4 d5 F1 ∧ FRuns F F1 ∧ H2 lw = some (.lst (((sortS F1.asks).filter F1.waits).map V.str)) ∧ m = remF F1)
    ⟨remF F, F, lw, none, rfl, k1.ex, hF.ex k1, .refl, hw, rfl⟩ fun m σ1 H2 ⟨F1, lw, o2, e, k2, hF2, hr2, hw2, em⟩ => ⟨_, t_k (c_neNilS (ev 1 (by rw [e]; rfl)) hw2 (hok (x := "") hF2.ok)), fun hb => ?_, fun hb => ?_⟩
  · subst e
    refine s_nil fun H3 k3 => hN _ _ (k2.then k3) ⟨F1, hr2, fun a => ?_, hF2.ex k3⟩
    have he : (sortS F1.asks).filter F1.waits = [] := by simpa using hb
    cases hwa : F1.waits a with
    | false => rfl
    | true =>
      obtain ⟨x, hx, _⟩ := waits_iff.mp hwa
      have : a ∈ (sortS F1.asks).filter F1.waits := List.mem_filter.mpr ⟨mem_sortS.mpr (mem_asks hx), hwa⟩
      rw [he] at this
      cases this
  · subst e em
    have hne : (sortS F1.asks).filter F1.waits ≠ [] := by simpa using hb
    obtain ⟨a, as, hcons⟩ := List.exists_cons_of_ne_nil hne
    have hmem := List.mem_filter.mp (show a ∈ (sortS F1.asks).filter F1.waits by rw [hcons]; simp)
    refine s_setV (i := 2) (v := .str a) (e_ixL (ev 1) e_int (.inl (.inl hw2)) (by rw [hcons]; exact atI_zero)) ?_
    refine s_while (fun m σ1 H3 => ∃ F3 here, σ1 = [some (.ref f), some (.ref lw), some (osV here)] ∧ Kp B.G [f, d4, d5] H H3 ∧ FairAt B Cf H3 f d1 d2 d3 d4 d5 F3 ∧ FRuns F F3 ∧ (∀ w, here = some w → F3.held w = none ∧ w ∈ F3.asks) ∧ ((F3 = F1 ∧ here = some a) ∨ remF F3 < remF F1) ∧ m = remF F3)
      ⟨remF F1, F1, some a, rfl, k2, hF2, hr2, fun w e => ?_, .inl ⟨rfl, rfl⟩, rfl⟩ fun m σ2 H3 ⟨F3, here, e, k3, hF3, hr3, hh3, hd3, em⟩ => ?_
    · cases e
      obtain ⟨x, hx, h1, _⟩ := waits_iff.mp hmem.2
      refine ⟨?_, mem_asks hx⟩
      unfold FSt.held
      rw [hx]
      exact h1
    · subst e em
      obtain ⟨dx3, n3, o3⟩ := hF3.ob
      have ht3 := k3.tok ht
      have after : ∀ {o : Option V}, remF F3 < remF F1 → S (ctx B ["self", "waiting", "here"] (dFair 6) 2 cdv "Fair.go_on") (lpS (ctx B ["self", "waiting", "here"] (dFair 6) 2 cdv "Fair.go_on") [] D fun σ2 H2 => ∃ m', m' < remF F1 ∧ ∃ F1 lw o2, σ2 = [some (.ref f), some (.ref lw), o2] ∧ Kp B.G [f, d4, d5] H H2 ∧ FairAt B Cf H2 f d1 d2 d3 d4 d5 F1 ∧ FRuns F F1 ∧ H2 lw = some (.lst (((sortS F1.asks).filter F1.waits).map V.str)) ∧ m' = remF F1) [some (.ref f), some (.ref lw), o] H3 ((match (defBody (dFair 6)).getD 1 (.Pass ⟨0,0,0,0⟩) with | .While _ b _ _ => b | _ => []).drop 2) := by
        intro o hlt
        refine s_set (i := 1) (e_meth0 GW (by show 1 ≤ 2; decide) ht3 (ev 0) o3 rfl ⟨f, F3, rfl, ⟨d1, d2, d3, d4, d5, hF3⟩, rfl, rfl⟩) fun v H4 k4 ⟨lw', e, hw'⟩ => ?_
        subst e
        exact s_lp ⟨remF F3, hlt, F3, lw', _, rfl, k3.then k4, hF3.ex k4, hr3, hw', rfl⟩
      cases here with
      | none =>
        refine ⟨false, T.is (t_and (s := false) (t := false) (t_k (CM.is (c_notN (ev 2)) rfl)) (fun z => nomatch z)) rfl, fun _ => after ?_, fun z => nomatch z⟩
        rcases hd3 with ⟨_, h⟩ | h
        · cases h
        · exact h
      | some w =>
        obtain ⟨hw1, hw2'⟩ := hh3 w rfl
        obtain ⟨x, hx⟩ := lookup_of_mem hw2'
        obtain ⟨t, g1, g2⟩ := hF3.lg hx
        have gn := hF3.ng w
        rw [hx] at gn
        have hxh : x.h = none := by
          unfold FSt.held at hw1
          rw [hx] at hw1
          exact hw1
        refine ⟨decide (x.n < x.l.length), T.is (t_and (s := true) (t := decide (x.n < x.l.length)) (t_k (CM.is (c_notN (ev 2)) rfl)) fun _ => t_k (CM.is (c_lt (i := x.n) (j := x.l.length) (e_dget (e_fld (ev 0) o3 TF.cl TF.nN rfl) (ev 2) gn) (EK.is (e_lenSeq TF.len (e_dget (e_fld (ev 0) o3 TF.cl TF.nL rfl) (ev 2) g1) (.inr g2)) (by rw [List.length_map]))) (by simp))) (Bool.true_and _), fun hf => after ?_, fun hb => ?_⟩
        · have hf : ¬ x.n < x.l.length := by simpa using hf
          rcases hd3 with ⟨h1, h2⟩ | h
          · cases h2
            rw [h1] at hx
            obtain ⟨x', hx', _, hlt⟩ := waits_iff.mp hmem.2
            rw [hx] at hx'
            cases hx'
            exact absurd hlt hf
          · exact h
        · have hb : x.n < x.l.length := by simpa using hb
          have hwt : F3.waits w = true := waits_iff.mpr ⟨x, hx, hxh, hb⟩
          refine s_set (i := 2) (e_meth GA (Nat.le_refl _) ht3 (ev 0) o3 rfl (a_1 (ev 2)) ⟨f, d1, d2, d3, d4, d5, F3, w, rfl, hF3, ⟨x, _, hx, List.getElem?_eq_getElem hb⟩, rfl, rfl⟩) fun v H4 k4 ⟨e, hF4⟩ => ?_
          subst e
          have hrem := rem_askF hF3.ok hwt
          have hlt' : remF (askF F3 w).1 < remF F1 := by
            rcases hd3 with ⟨h1, _⟩ | h
            · rw [← h1]
              omega
            · omega
          exact s_lp ⟨remF (askF F3 w).1, by omega, _, (askF F3 w).2, rfl, k3.trans k4, hF4, .step hr3 hwt, fun w' e => askF_left hwt e, .inr hlt', rfl⟩
end
end Pm
end
/-! ## W17 -/
section
set_option Elab.async false
set_option linter.all false
set_option maxRecDepth 100000
set_option maxHeartbeats 2000000
namespace Pm
open PySem L2
/-! ### check_words, Fair.ask_anew, Fair.told -/
theorem sql_kp {G : Gt} {K : PySem.W.Frag} {S : List Addr} {H H' : Hp} {q : Addr} {xs : List V} (k : Kp G S H H') (h : SqL K H q xs) (hS : ∀ s ∈ S, ∃ u, H s = some u ∧ (∀ xs, u ≠ .lst xs) ∧ ∀ o xs, u ≠ .frz o (.lst xs)) : SqL K H' q xs := by
  rcases h with (z | ⟨o, z⟩) | z
  · refine .inl (.inl (k.at z fun hm => ?_))
    obtain ⟨u, h1, h2, _⟩ := hS q hm
    rw [z] at h1
    exact h2 _ (Option.some.inj h1).symm
  · refine .inl (.inr ⟨o, k.at z fun hm => ?_⟩)
    obtain ⟨u, h1, _, h3⟩ := hS q hm
    rw [z] at h1
    exact h3 _ _ (Option.some.inj h1).symm
  · exact .inr z
theorem FairAt.offL {B : Bs} {Cf f d1 d2 d3 d4 d5 : Addr} {H : Hp} {F : FSt} (h : FairAt B Cf H f d1 d2 d3 d4 d5 F) : ∀ s ∈ [f, d4, d5], ∃ u, H s = some u ∧ (∀ xs, u ≠ .lst xs) ∧ ∀ o xs, u ≠ .frz o (.lst xs) := by
  obtain ⟨dx, n, o1⟩ := h.ob
  intro s hs
  simp only [List.mem_cons, List.not_mem_nil, or_false] at hs
  rcases hs with rfl | rfl | rfl
  · exact ⟨_, o1, by simp, by simp⟩
  · exact ⟨_, h.h, by simp, by simp⟩
  · exact ⟨_, h.n, by simp, by simp⟩
def pCheckWords (B : Bs) : Pre := fun vs H S P => ∃ (q : Addr) (ws : List Str), vs = [.ref q] ∧ SqL B.K H q (ws.map V.str) ∧ ws.Nodup ∧ ws.length ≤ 60 ∧ S = [] ∧ P = fun v H' => ∃ t, v = .ref t ∧ SqT B.K H' t (ws.map V.str)
theorem pCheckWords_ex {B : Bs} : PreEx B.G (pCheckWords B) := fun vs H H' S P k ⟨q, ws, h1, h2, h3⟩ => ⟨q, ws, h1, ex_l k h2, h3⟩
def FSt.fresh (F : FSt) (as : List Str) : FSt := { F with A := F.A.map fun p => (p.1, if p.1 ∈ as then { p.2 with h := none, n := 0 } else p.2) }
theorem fresh_nil {F : FSt} : F.fresh [] = F := by
  unfold FSt.fresh
  have : (F.A.map fun p => (p.1, if p.1 ∈ ([] : List Str) then { p.2 with h := none, n := 0 } else p.2)) = F.A := by
    conv => rhs; rw [← List.map_id F.A]
    refine List.map_congr_left fun p _ => ?_
    simp
  rw [this]
theorem fresh_step {F : FSt} {as : List Str} {a : Str} : ((F.fresh as).setH a none).setN a 0 = F.fresh (as ++ [a]) := by
  unfold FSt.fresh FSt.setH FSt.setN
  simp only [List.map_map]
  congr 1
  refine List.map_congr_left fun p _ => ?_
  simp only [Function.comp_apply]
  by_cases h : p.1 = a <;> by_cases h2 : p.1 ∈ as <;> simp [h, h2] <;> simp_all
theorem asks_fresh {F : FSt} {as : List Str} : (F.fresh as).asks = F.asks := by
  unfold FSt.asks FSt.fresh
  simp [List.map_map, Function.comp_def]
def pFAnew (B : Bs) (Cf : Addr) : Pre := fun vs H S P => ∃ f d1 d2 d3 d4 d5 F q as, vs = [.ref f, .ref q] ∧ FairAt B Cf H f d1 d2 d3 d4 d5 F ∧ SqL B.K H q (as.map V.str) ∧ (∀ a ∈ as, a ∈ F.asks) ∧ S = [f, d4, d5] ∧ P = fun v H' => ∃ F', FRuns (F.fresh as) F' ∧ (∀ a, F'.waits a = false) ∧ FairAt B Cf H' f d1 d2 d3 d4 d5 F'
theorem pFAnew_ex {B : Bs} {Cf : Addr} : PreEx B.G (pFAnew B Cf) := fun vs H H' S P k ⟨f, d1, d2, d3, d4, d5, F, q, as, h1, h2, h3, h4⟩ => ⟨f, d1, d2, d3, d4, d5, F, q, as, h1, h2.ex k, ex_l k h3, h4⟩
/-- what a dict of held rooms says -/
def getO (bs : List (Str × Option Str)) (w : Str) : Option Str := (bs.lookup w).bind id
def diffW (bs : List (Str × Option Str)) (F : FSt) : List Str := (sortS (dd (bs.map (fun p => p.1) ++ F.asks))).filter fun w => !decide (getO bs w = F.held w)
def pFTold (B : Bs) (Cf : Addr) : Pre := fun vs H S P => ∃ f F q bs, vs = [.ref f, .ref q] ∧ FEx B Cf H f F ∧ Rd H q (.dK (bs.map fun p => (Sum.inr p.1, osV p.2))) ∧ bs.length + F.A.length < 64 ∧ S = [] ∧ P = fun v H' => TupsAt B.K H' v ((diffW bs F).map fun w => [.str w, osV (getO bs w), osV (F.held w)])
theorem pFTold_ex {B : Bs} {Cf : Addr} : PreEx B.G (pFTold B Cf) := fun vs H H' S P k ⟨f, F, q, bs, h1, h2, h3, h4⟩ => ⟨f, F, q, bs, h1, h2.ex k, ex_rd k h3, h4⟩
section
variable {B : Bs} {Cf : Addr} (TF : FairC B Cf)
include TF
theorem ok_checkWords {f : Addr} {fd : FuncData} {cdv : Value} (F : FunC B.K "check_words" "check_words" (top 18) f fd cdv) : FnOk B.P B.w B.K B.mg B.base CX0 1 f fd ["words"] (spM B.G (pCheckWords B)) := by
  refine def_ok F sc18 (fun vs H SS P ⟨q, ws, e, _⟩ => by rw [e]; rfl) fun vs H SS P D ht hp hD _ => ?_
  obtain ⟨q, ws, rfl, hq, hnd, hlen, rfl, rfl⟩ := hp
  refine s_set (i := 1) (e_tupleOf TF.tup (ev 0) (.inl hq)) fun v H1 k1 ⟨t, e1, ht1⟩ => ?_
  subst e1
  have hm : mergeK [] (ws.map fun a => ((Sum.inr a : L2.Key), V.int 1)) = ws.map fun a => ((Sum.inr a : L2.Key), V.int 1) := by
    rw [mergeK_nodup, List.nil_append]
    rw [List.nil_append, List.map_map]
    exact List.Pairwise.map _ (fun a b hab z => hab (Sum.inr.inj z)) hnd
  refine s_if (b := false) (t_k (CM.is (c_ne (x := nI ws.length) (y := nI ws.length) rfl (e_lenDB TF.len (e_dictOf TF.dict (e_lc [("word", 2)] (lc_pairs (as := ws) (ei_tup (ev 1) ht1) (fun H2 k => ex_t k ht1) (fun _ => true) (fun a => (Sum.inr a : L2.Key)) (fun _ => V.int 1) (by omega) fun a x H2 ha k e => ?_))) fun x H2 k ⟨d, e1, e2, e3⟩ => ⟨d, _, e1, e3, ?_⟩) (EK.is (e_lenSeq TF.len (ev 1) (.inr ht1)) (by rw [List.length_map]))) (by simp))) (fun z => nomatch z) fun _ => s_next ?_
  · subst e
    exact ⟨_, eg_name 2, rfl, ts_nil, fun _ => ⟨ev 2, e_int⟩⟩
  · rw [List.filter_eq_self.mpr (fun _ _ => rfl), hm, List.length_map]
  exact s_ret (ev 1) fun v H3 k e => hD _ _ (k1.t k) ⟨t, e, ex_t k ht1⟩
theorem ok_fAnew {ff : Addr} {fd : FuncData} {cdv : Value} (Fn : FunC B.K "ask_anew" "Fair.ask_anew" (dFair 8) ff fd cdv) (GG : GM B 3 Cf "go_on" (pFGo B Cf)) : FnOk B.P B.w B.K B.mg B.base CX0 4 ff fd ["self", "askers"] (spM B.G (pFAnew B Cf)) := by
  refine def_ok Fn scFair8 (fun vs H SS P ⟨f, d1, d2, d3, d4, d5, F, q, as, e, _⟩ => by rw [e]; rfl) fun vs H SS P D ht hp _ hN => ?_
  obtain ⟨f, d1, d2, d3, d4, d5, F, q, as, rfl, hF, hq, has, rfl, rfl⟩ := hp
  obtain ⟨dx, n, o1⟩ := hF.ob
  have lst : ∀ {H1 : Hp}, Kp B.G [f, d4, d5] H H1 → SqL B.K H1 q (as.map V.str) := fun k => sql_kp k hq hF.offL
  refine s_forV (as := as) (ev := V.str) (fun i σ1 H1 => ∃ o2, σ1 = [some (.ref f), some (.ref q), o2] ∧ Kp B.G [f, d4, d5] H H1 ∧ FairAt B Cf H1 f d1 d2 d3 d4 d5 (F.fresh (as.take i))) (ei_list (ev 1) hq) ⟨none, rfl, Kp.refl, by rw [List.take_zero, fresh_nil]; exact hF⟩ (fun i σ1 H1 _ ⟨_, _, k, _⟩ => lst k)
    (fun i a σ1 H1 hai ⟨o2, e, k1, hF1⟩ => ?_) fun σ1 H1 ⟨o2, e, k1, hF1⟩ => ?_
  · subst e
    have ha : a ∈ F.asks := has a (List.mem_of_getElem? hai)
    obtain ⟨dx1, n1, o1'⟩ := hF1.ob
    have sz : ∀ {G : FSt} (g : ARow → V), G.Ok → (G.A.map fun p => ((Sum.inr p.1 : L2.Key), g p.2)).length < 1000000 := fun {G} g h => by
      rw [List.length_map]
      have := h.sA
      omega
    refine ⟨_, eg_name 2, ?_⟩
    refine s_dputV (key := Sum.inr a) e_non (e_fld (ev 0) o1' TF.cl TF.nH rfl) (ev 2) hF1.h (sz (fun y => osV y.h) hF1.ok) fun H2 k2 h2 => ?_
    have hF2 := hF1.setH (o := none) (by rw [asks_fresh]; exact ha) (fun r' e => nomatch e) k2 h2
    obtain ⟨dx2, n2, o2'⟩ := hF2.ob
    refine s_dputV (key := Sum.inr a) e_int (e_fld (ev 0) o2' TF.cl TF.nN rfl) (ev 2) hF2.n (sz (fun y => nI y.n) hF2.ok) fun H3 k3 h3 => ?_
    have hF3 := hF2.setN (n := 0) (by rw [asks_setH, asks_fresh]; exact ha) k3 h3
    refine s_lp ⟨_, rfl, (k1.trans (k2.mono (by simp))).trans (k3.mono (by simp)), ?_⟩
    rw [List.take_add_one, hai]
    rw [fresh_step] at hF3
    exact hF3
  · subst e
    rw [List.take_length] at hF1
    obtain ⟨dx1, n1, o1'⟩ := hF1.ob
    refine s_expr (e_meth0 GG (Nat.le_refl _) (k1.tok ht) (ev 0) o1' rfl ⟨f, d1, d2, d3, d4, d5, _, rfl, hF1, rfl, rfl⟩) fun v H2 k2 ⟨F', h1, h2, h3⟩ => s_nil fun H3 k3 => hN _ _ ((k1.trans k2).then k3) ⟨F', h1, h2, h3.ex k3⟩
end
end Pm
end
/-! ## W18 -/
section
set_option Elab.async false
set_option linter.all false
set_option maxRecDepth 100000
set_option maxHeartbeats 2000000
namespace Pm
open PySem L2
theorem osV_inj {a b : Option Str} : decide (osV a = osV b) = decide (a = b) := by cases a <;> cases b <;> simp [osV]
theorem osV_scal2 {a b : Option Str} : scal (osV a) (osV b) = true := by cases a <;> cases b <;> rfl
section
variable {B : Bs} {Cf : Addr} (TF : FairC B Cf)
include TF
theorem ok_fTold {ff : Addr} {fd : FuncData} {cdv : Value} (Fn : FunC B.K "told" "Fair.told" (dFair 9) ff fd cdv) : FnOk B.P B.w B.K B.mg B.base CX0 1 ff fd ["self", "before"] (spM B.G (pFTold B Cf)) := by
  refine def_ok Fn scFair9 (fun vs H SS P ⟨f, F, q, bs, e, _⟩ => by rw [e]; rfl) fun vs H SS P D ht hp hD _ => ?_
  obtain ⟨f, F, q, bs, rfl, ⟨d1, d2, d3, d4, d5, hF⟩, hq, hlen, rfl, rfl⟩ := hp
  obtain ⟨dx, n, o1⟩ := hF.ob
  have k1 : (bs.map fun p => ((Sum.inr p.1 : L2.Key), osV p.2)).map (fun kv => kV kv.1) = (bs.map fun p => p.1).map V.str := by simp [List.map_map, Function.comp_def, kV]
  have k2 : (F.A.map fun p => ((Sum.inr p.1 : L2.Key), osV p.2.h)).map (fun kv => kV kv.1) = F.asks.map V.str := by
    unfold FSt.asks
    simp [List.map_map, Function.comp_def, kV]
  have hl : (bs.map (fun p => p.1) ++ F.asks).length < 64 := by
    unfold FSt.asks
    simp
    omega
  have hdd : (dd (bs.map (fun p => p.1) ++ F.asks)).length < 64 := by
    have := len_ddA (ks := bs.map (fun p => p.1) ++ F.asks) (acc := [])
    simp only [List.length_nil] at this
    show (ddA [] (bs.map (fun p => p.1) ++ F.asks)).length < 64
    omega
  refine s_set (i := 2) (e_sortDB (kvs := (dd (bs.map (fun p => p.1) ++ F.asks)).map fun k => ((Sum.inr k : L2.Key), V.int 1)) TF.sorted (e_dictOf TF.dict (e_lc [("word", 3)] (lc_pairsp (as := bs.map (fun p => p.1) ++ F.asks) (IV := fun a x _ => x = V.str a) (eip_listB (e_catL (xs := (bs.map fun p => p.1).map V.str) (ys := F.asks.map V.str) (EK.imp (e_listD TF.list (ev 1) hq) fun v H1 k ⟨l, e, _, h⟩ => ⟨l, e, by rw [h, k1]⟩) (EK.imp (e_listD TF.list (e_fld (ev 0) o1 TF.cl TF.nH rfl) (.inl hF.h)) fun v H1 k ⟨l, e, _, h⟩ => ⟨l, e, by rw [h, k2]⟩) (by simp only [List.length_map, List.length_append] at hl ⊢; omega)) fun x H1 k ⟨l, e, _, h⟩ => ⟨l, e, .inl (.inl (by rw [h, List.map_append]))⟩) (fun _ => true) (fun a => (Sum.inr a : L2.Key)) (fun _ => V.int 1) (by omega) fun a x H1 ha k e => ?_))) (fun x H1 k ⟨d, e, _, h⟩ => ⟨d, e, .inl ?_⟩) (by rw [List.map_map]; rfl) hdd) fun v H1 kk ⟨lw, e, _, hw⟩ => ?_
  · subst e
    exact ⟨_, eg_name 3, rfl, ts_nil, fun _ => ⟨ev 3, e_int⟩⟩
  · rw [h, List.filter_eq_self.mpr (fun _ _ => rfl), merge_dd]
  subst e
  have hF1 := hF.ex kk
  have o1' := kk.xat o1
  have gb : ∀ {H2 : Hp} (w : Str), Ex B.G H1 H2 → DGet H2 q (.str w) ((bs.lookup w).map osV) := fun w k => .inl ⟨_, Sum.inr w, ex_rd (kk.t k) hq, rfl, (valV_map' (g := osV) w bs).symm⟩
  have eb : ∀ w, ((bs.lookup w).map osV).getD .non = osV (getO bs w) := fun w => by
    unfold getO
    cases bs.lookup w <;> rfl
  have eh : ∀ w, ((F.A.lookup w).map fun x => osV x.h).getD .non = osV (F.held w) := fun w => by
    unfold FSt.held
    cases F.A.lookup w <;> rfl
  refine s_ret (e_tupleOfB (R := fun xs H' => Paired (fun w v => ∃ q, v = V.ref q ∧ SqT B.K H' q [.str w, osV (getO bs w), osV (F.held w)]) (diffW bs F) xs) TF.tup (e_lc [("word", 3)] (lc_R (as := sortS (dd (bs.map (fun p => p.1) ++ F.asks))) (ei_list (ev := V.str) (ev 2) (.inl (.inl hw))) (fun H2 k => .inl (.inl (k.xat hw))) (fun w => !decide (getO bs w = F.held w)) (fun _ w v H' => ∃ q, v = V.ref q ∧ H' q = some (.tup [.str w, osV (getO bs w), osV (F.held w)])) (fun D' a v H1 H2 zs hz k ⟨q, e, h⟩ => ⟨q, e, k.at1 hz h (by simp)⟩) (by rw [(sortS_perm _).length_eq]; omega) fun D' w x H2 zs hw' k _ hD1 e => ?_))
    fun x H2 k ⟨D', ys, e1, _, e3, e4⟩ => ⟨D', ys, e1, .inl (.inl (.inl e3)), fun H3 k3 => paired_imp e4 fun a v ⟨q, e, h⟩ => ⟨q, e, .inl (.inl (k3.xat h))⟩⟩) fun v H2 k ⟨l, xs, e1, e2, e3⟩ => hD _ _ (kk.t k) ⟨l, xs, e1, e2, paired_map e3⟩
  subst e
  have hF2 := hF1.ex k
  have o2' := k.xat o1'
  have e1 : ∀ {C : Ctx} {σ : L2.St} {a : Expr} {b : Expr} {ap cp : Pos}, True := fun {_ _ _ _ _ _} => trivial
  exact ⟨_, eg_name 3, rfl, ts_one (t_k (CM.is (c_ne (osV_scal2 (a := getO bs w) (b := F.held w)) (EK.is (e_get1 (ev 1) (ev 3) (gb w k)) (eb w)) (EK.is (e_get1 (e_fld (ev 0) o2' TF.cl TF.nH rfl) (ev 3) (hF2.hg w)) (eh w))) (by rw [osV_inj]))), fun _ => EK.imp (e_tup (a_cons (ev 3) (a_cons (EK.is (e_get1 (ev 1) (ev 3) (gb w k)) (eb w)) (a_1 (EK.is (e_get1 (e_fld (ev 0) o2' TF.cl TF.nH rfl) (ev 3) (hF2.hg w)) (eh w)))))) fun v H3 k3 ⟨t, e1, _, e3⟩ => ⟨t, e1, e3⟩⟩
end
end Pm
end
/-! ## W19 -/
section
set_option Elab.async false
set_option linter.all false
set_option maxRecDepth 100000
set_option maxHeartbeats 2000000
namespace Pm
open PySem L2
def pFInit (B : Bs) (Cf : Addr) : Pre := fun vs H S P => ∃ (p dx : Addr), vs = [.ref p] ∧ H p = some (.ins Cf dx []) ∧ S = [p] ∧ ∀ v H', v = .non → (∃ d1 d2 d3 d4 d5, H d1 = none ∧ H d2 = none ∧ H d3 = none ∧ H d4 = none ∧ H d5 = none ∧ FairAt B Cf H' p d1 d2 d3 d4 d5 ⟨[], []⟩) → P v H'
theorem pFInit_ex {B : Bs} {Cf : Addr} : PreEx B.G (pFInit B Cf) := fun vs H H' S P k ⟨p, dx, h1, h2, h3, h4⟩ => ⟨p, dx, h1, k.xat h2, h3, fun v H'' e ⟨d1, d2, d3, d4, d5, a, b, c, d, e', h⟩ => h4 v H'' e ⟨d1, d2, d3, d4, d5, k.free a, k.free b, k.free c, k.free d, k.free e', h⟩⟩
section
variable {B : Bs} {Cf : Addr} (TF : FairC B Cf)
include TF
theorem ok_fInit {ff : Addr} {fd : FuncData} {cdv : Value} (Fn : FunC B.K "__init__" "Fair.__init__" (dFair 0) ff fd cdv) : FnOk B.P B.w B.K B.mg B.base CX0 1 ff fd ["self"] (spM B.G (pFInit B Cf)) := by
  refine def_ok Fn scFair0 (fun vs H SS P ⟨p, dx, e, _⟩ => by rw [e]; rfl) fun vs H SS P D ht hp _ hN => ?_
  obtain ⟨p, dx, rfl, hp, rfl, hP⟩ := hp
  refine s_fld e_dnew (fun v H1 k _ => ev 0) hp TF.cl TF.nL (by decide) fun v Ha Hb ka ⟨d1, e1, n1, g1⟩ kb hb => ?_
  subst e1
  have k1 : Kp B.G [p] H Hb := Kp.pre ka kb
  have g1 := kb.at1 (ka.xat hp) g1 (by simp)
  refine s_fld e_dnew (fun v H1 k _ => ev 0) hb TF.cl TF.nO (by show 1 < 1000; decide) fun v Hc Hd kc ⟨d2, e2, n2, g2⟩ kd hd => ?_
  subst e2
  have k2 : Kp B.G [p] H Hd := k1.trans (Kp.pre kc kd)
  have hb' := kc.xat hb
  have g1' := kd.at1 hb' (kc.xat g1) (by simp)
  have g2' := kd.at1 hb' g2 (by simp)
  refine s_fld e_dnew (fun v H1 k _ => ev 0) hd TF.cl TF.nS (by show 2 < 1000; decide) fun v He Hf ke ⟨d3, e3, n3, g3⟩ kf hf => ?_
  subst e3
  have k3 : Kp B.G [p] H Hf := k2.trans (Kp.pre ke kf)
  have hd' := ke.xat hd
  have g1'' := kf.at1 hd' (ke.xat g1') (by simp)
  have g2'' := kf.at1 hd' (ke.xat g2') (by simp)
  have g3'' := kf.at1 hd' g3 (by simp)
  refine s_fld e_dnew (fun v H1 k _ => ev 0) hf TF.cl TF.nH (by show 3 < 1000; decide) fun v Hg Hh kg ⟨d4, e4, n4, g4⟩ kh hh => ?_
  subst e4
  have k4 : Kp B.G [p] H Hh := k3.trans (Kp.pre kg kh)
  have hf' := kg.xat hf
  have m1 := kh.at1 hf' (kg.xat g1'') (by simp)
  have m2 := kh.at1 hf' (kg.xat g2'') (by simp)
  have m3 := kh.at1 hf' (kg.xat g3'') (by simp)
  have m4 := kh.at1 hf' g4 (by simp)
  refine s_fld e_dnew (fun v H1 k _ => ev 0) hh TF.cl TF.nN (by show 4 < 1000; decide) fun v Hi Hj ki ⟨d5, e5, n5, g5⟩ kj hj => ?_
  subst e5
  have k5 : Kp B.G [p] H Hj := k4.trans (Kp.pre ki kj)
  have hh' := ki.xat hh
  have q1 := kj.at1 hh' (ki.xat m1) (by simp)
  have q2 := kj.at1 hh' (ki.xat m2) (by simp)
  have q3 := kj.at1 hh' (ki.xat m3) (by simp)
  have q4 := kj.at1 hh' (ki.xat m4) (by simp)
  have q5 := kj.at1 hh' g5 (by simp)
  refine s_fldV e_int (ev 0) hj TF.cl TF.nA (by show 5 < 1000; decide) fun Hk kk hk => ?_
  have r1 := kk.at1 hj q1 (by simp)
  have r2 := kk.at1 hj q2 (by simp)
  have r3 := kk.at1 hj q3 (by simp)
  have r4 := kk.at1 hj q4 (by simp)
  have r5 := kk.at1 hj q5 (by simp)
  have ne : ∀ {H1 : Hp} {a b : Addr} {o : HO}, H1 a = some o → H1 b = none → a ≠ b := fun h1 h2 z => by rw [z, h2] at h1; cases h1
  have hds : [d1, d2, d3, d4, d5].Nodup := by
    simp only [List.nodup_cons, List.mem_cons, List.not_mem_nil, or_false, not_or, List.nodup_nil, and_true, not_false_eq_true]
    exact ⟨⟨ne g1 n2, ne g1' n3, ne g1'' n4, ne m1 n5⟩, ⟨ne g2' n3, ne g2'' n4, ne m2 n5⟩, ⟨ne g3'' n4, ne m3 n5⟩, ne m4 n5⟩
  refine s_nil fun Hl kl => hN _ _ ((k5.trans kk).then kl) (hP _ _ rfl ⟨d1, d2, d3, d4, d5, n1, k1.free n2, k2.free n3, k3.free n4, k4.free n5, ⟨⟨dx, 0, kl.xat hk⟩, ⟨[], .inl (kl.xat r1), .nil⟩, ⟨[], .inl (kl.xat r2), .nil⟩, kl.xat r3, kl.xat r4, kl.xat r5, hds, ?_⟩⟩)
  exact ⟨List.nodup_nil, List.nodup_nil, Nat.zero_le _, Nat.zero_le _, (fun p hp => nomatch hp), (fun p hp => nomatch hp), (fun p hp => nomatch hp), fun p hp => nomatch hp⟩
end
end Pm
end
/-! ## W20 -/
section
set_option Elab.async false
set_option linter.all false
set_option maxRecDepth 100000
set_option maxHeartbeats 2000000
namespace Pm
open PySem L2
def pFNames (B : Bs) (Cf : Addr) : Pre := fun vs H S P => ∃ f F, vs = [.ref f] ∧ FEx B Cf H f F ∧ S = [] ∧ P = fun v H' => ∃ t t1 t2, v = .ref t ∧ SqT B.K H' t [.ref t1, .ref t2] ∧ SqT B.K H' t1 ((sortS F.asks).map V.str) ∧ SqT B.K H' t2 ((sortS F.rooms).map V.str)
theorem pFNames_ex {B : Bs} {Cf : Addr} : PreEx B.G (pFNames B Cf) := fun vs H H' S P k ⟨f, F, h1, h2, h3⟩ => ⟨f, F, h1, h2.ex k, h3⟩
section
variable {B : Bs} {Cf : Addr} (TF : FairC B Cf)
include TF
theorem ok_fNames {ff : Addr} {fd : FuncData} {cdv : Value} (Fn : FunC B.K "names" "Fair.names" (dFair 17) ff fd cdv) : FnOk B.P B.w B.K B.mg B.base CX0 1 ff fd ["self"] (spM B.G (pFNames B Cf)) := by
  refine def_ok Fn scFair17 (fun vs H SS P ⟨f, F, e, _⟩ => by rw [e]; rfl) fun vs H SS P D ht hp hD _ => ?_
  obtain ⟨f, F, rfl, ⟨d1, d2, d3, d4, d5, hF⟩, rfl, rfl⟩ := hp
  obtain ⟨dx, n, o1⟩ := hF.ob
  obtain ⟨kl, l1, l2⟩ := hF.keysL
  obtain ⟨ko, m1, m2⟩ := hF.keysO
  have hA : F.asks.length < 64 := by
    have := hF.ok.sA
    unfold FSt.asks
    rw [List.length_map]
    omega
  have hR : F.rooms.length < 64 := by
    have := hF.ok.sR
    unfold FSt.rooms
    rw [List.length_map]
    omega
  refine s_ret (e_tupB (PA := fun vs H' => ∃ t1 t2, vs = [.ref t1, .ref t2] ∧ SqT B.K H' t1 ((sortS F.asks).map V.str) ∧ SqT B.K H' t2 ((sortS F.rooms).map V.str)) ?_ (fun vs H1 ⟨t1, t2, e, _⟩ => by rw [e]; exact Nat.le_of_ble_eq_true rfl)) fun v H2 k ⟨p, vs, Hx, e, _, _, hp, ⟨t1, t2, e2, h1, h2⟩, _, kx⟩ => hD _ _ k ⟨p, t1, t2, e, .inl (.inl (by rw [hp, e2])), ex_t kx h1, ex_t kx h2⟩
  refine a_consB (e_tupleOfB (R := fun xs _ => xs = (sortS F.asks).map V.str) TF.tup (e_sortD TF.sorted (e_fld (ev 0) o1 TF.cl TF.nL rfl) l1 l2 hA) fun x H1 k ⟨q, e, _, h⟩ => ⟨q, _, e, .inl (.inl (.inl h)), fun _ _ => rfl⟩) fun x H1 k1 ⟨t1, xs, e, h1, e1⟩ => ?_
  subst e e1
  exact fun H2 k2 Q q' => a_1B (e_tupleOfB (R := fun xs _ => xs = (sortS F.rooms).map V.str) TF.tup (e_sortD TF.sorted (e_fld (ev 0) (k1.xat o1) TF.cl TF.nO rfl) (ex_rd k1 m1) m2 hR) fun x H1 k ⟨q, e, _, h⟩ => ⟨q, _, e, .inl (.inl (.inl h)), fun _ _ => rfl⟩) (fun _ _ => rfl) H2 k2 Q fun vs H3 k3 ⟨x, e, t2, xs, e2, h2, e3⟩ => q' vs H3 k3 ⟨t1, t2, by rw [e, e2], ex_t (k2.t k3) h1, by rw [← e3]; exact h2⟩
end
end Pm
end
/-! ## W21 -/
section
set_option Elab.async false
set_option linter.all false
set_option maxRecDepth 100000
set_option maxHeartbeats 2000000
namespace Pm
open PySem L2
def putA {ρ : Type} (as : List (Str × ρ)) (k : Str) (v : ρ) : List (Str × ρ) := if k ∈ as.map (fun p => p.1) then as.map (fun p => (p.1, if p.1 = k then v else p.2)) else as ++ [(k, v)]
theorem putK_putA {ρ : Type} {g : ρ → V} {k : Str} {v : ρ} {as : List (Str × ρ)} : putK (as.map fun p => ((Sum.inr p.1 : L2.Key), g p.2)) (Sum.inr k) (g v) = (putA as k v).map fun p => ((Sum.inr p.1 : L2.Key), g p.2) := by
  unfold putA
  by_cases h : k ∈ as.map (fun p => p.1)
  · rw [if_pos h, putK_map h, List.map_map]
    refine List.map_congr_left fun p _ => ?_
    simp only [Function.comp_apply]
    by_cases hp : p.1 = k <;> simp [hp]
  · rw [if_neg h, putK_new, List.map_append]
    · rfl
    · rw [valV_map' (g := g) k as]
      cases hl : as.lookup k with
      | none => rfl
      | some r => exact absurd (List.mem_map.mpr ⟨_, lookup_mem hl, rfl⟩) h
theorem TupD.mapP {ρ : Type} {K : PySem.W.Frag} {H : Hp} {g : ρ → List Str} {k : Str} {v : ρ} {t : Addr} (ht : SqT K H t ((g v).map V.str)) : ∀ {as : List (Str × ρ)} {kvs : List (L2.Key × V)}, TupD K H g as kvs → TupD K H g (as.map fun p => (p.1, if p.1 = k then v else p.2)) (kvs.map fun kv => if kv.1 = Sum.inr k then (kv.1, V.ref t) else kv)
  | _, _, .nil => .nil
  | (k', x) :: as, (kk, vv) :: kvs, .cons ⟨e, t', e2, h⟩ q => by
    have e : kk = Sum.inr k' := e
    subst e
    refine .cons ?_ (TupD.mapP ht q)
    by_cases hk : k' = k
    · have e3 : (fun kv : L2.Key × V => if kv.1 = Sum.inr k then (kv.1, V.ref t) else kv) (Sum.inr k', vv) = (Sum.inr k', V.ref t) := if_pos (by rw [hk])
      have e4 : (if k' = k then v else x) = v := if_pos hk
      rw [e3]
      exact ⟨rfl, t, rfl, by show SqT K H t ((g (if k' = k then v else x)).map V.str); rw [e4]; exact ht⟩
    · have e3 : (fun kv : L2.Key × V => if kv.1 = Sum.inr k then (kv.1, V.ref t) else kv) (Sum.inr k', vv) = (Sum.inr k', vv) := if_neg (by simpa using hk)
      have e4 : (if k' = k then v else x) = x := if_neg hk
      rw [e3]
      exact ⟨rfl, t', e2, by show SqT K H t' ((g (if k' = k then v else x)).map V.str); rw [e4]; exact h⟩
theorem TupD.put {ρ : Type} {K : PySem.W.Frag} {H : Hp} {g : ρ → List Str} {k : Str} {v : ρ} {t : Addr} {as : List (Str × ρ)} {kvs : List (L2.Key × V)} (h : TupD K H g as kvs) (ht : SqT K H t ((g v).map V.str)) : TupD K H g (putA as k v) (putK kvs (Sum.inr k) (.ref t)) := by
  unfold putA
  rcases h.get k with ⟨h1, h2⟩ | ⟨r, t', h1, h2, _⟩
  · rw [if_neg, putK_new _ h2]
    · exact paired_append h (.cons ⟨rfl, t, rfl, ht⟩ .nil)
    · intro hm
      obtain ⟨r, hr⟩ := lookup_of_mem hm
      rw [h1] at hr
      cases hr
  · rw [if_pos (List.mem_map.mpr ⟨_, lookup_mem h1, rfl⟩)]
    have e : putK kvs (Sum.inr k) (.ref t) = kvs.map fun kv => if kv.1 = Sum.inr k then (kv.1, V.ref t) else kv := by
      unfold putK
      rw [if_pos]
      rw [valV_any, h2]
      rfl
    rw [e]
    exact h.mapP ht
theorem mem_putA {ρ : Type} {as : List (Str × ρ)} {k : Str} {v : ρ} {p : Str × ρ} (h : p ∈ putA as k v) : p = (k, v) ∨ p ∈ as := by
  unfold putA at h
  split at h
  · obtain ⟨q, hq, rfl⟩ := List.mem_map.mp h
    by_cases hk : q.1 = k
    · left
      rw [if_pos hk, hk]
    · right
      rw [if_neg hk]
      exact hq
  · rcases List.mem_append.mp h with z | z
    · exact .inr z
    · exact .inl (List.mem_singleton.mp z)
theorem putA_keys {ρ : Type} {as : List (Str × ρ)} {k : Str} {v : ρ} : (putA as k v).map (fun p => p.1) = if k ∈ as.map (fun p => p.1) then as.map (fun p => p.1) else as.map (fun p => p.1) ++ [k] := by
  unfold putA
  split
  · simp [List.map_map, Function.comp_def]
  · simp
theorem putA_nd {ρ : Type} {as : List (Str × ρ)} {k : Str} {v : ρ} (h : (as.map (fun p => p.1)).Nodup) : ((putA as k v).map (fun p => p.1)).Nodup := by
  rw [putA_keys]
  split
  · exact h
  · rename_i hk
    rw [List.nodup_append]
    exact ⟨h, by simp, fun a ha b hb => by rw [List.mem_singleton.mp hb]; exact fun e => hk (e ▸ ha)⟩
theorem putA_len {ρ : Type} {as : List (Str × ρ)} {k : Str} {v : ρ} : (putA as k v).length ≤ as.length + 1 := by
  unfold putA
  split <;> simp
/-- neither dict is locked -/
def Unl (H : Hp) (d : Addr) : Prop := ∃ kvs, H d = some (.dK kvs)
theorem Unl.ex {G : Gt} {H H' : Hp} {d : Addr} (h : Unl H d) (k : Ex G H H') : Unl H' d := by
  obtain ⟨kvs, h⟩ := h
  exact ⟨kvs, k.xat h⟩
theorem unl_rd {H : Hp} {d : Addr} {kvs : List (L2.Key × V)} (h : Unl H d) (hr : Rd H d (.dK kvs)) : H d = some (.dK kvs) := by
  obtain ⟨k2, h⟩ := h
  rcases hr with e | ⟨o, e⟩
  · exact e
  · rw [h] at e
    cases e
def FSt.putR (F : FSt) (r : Str) (o : List Str) (c : Nat) : FSt := { F with R := putA F.R r ⟨o, c⟩ }
end Pm
end
/-! ## W22 -/
section
set_option Elab.async false
set_option linter.all false
set_option maxRecDepth 100000
set_option maxHeartbeats 2000000
namespace Pm
open PySem L2
/-! ### Fair.set_room -/
def pFSetR (B : Bs) (Cf : Addr) : Pre := fun vs H S P => ∃ f d1 d2 d3 d4 d5 F r t o c, vs = [.ref f, .str r, .ref t, nI c] ∧ FairAt B Cf H f d1 d2 d3 d4 d5 F ∧ Unl H d2 ∧ SqT B.K H t (o.map V.str) ∧ o.length ≤ 60 ∧ (∀ x ∈ o, sOk x) ∧ sOk r ∧ F.R.length < 60 ∧ S = [d2, d3] ∧ P = fun v H' => FairAt B Cf H' f d1 d2 d3 d4 d5 (F.putR r o c) ∧ Unl H' d2
theorem pFSetR_ex {B : Bs} {Cf : Addr} : PreEx B.G (pFSetR B Cf) := fun vs H H' S P k ⟨f, d1, d2, d3, d4, d5, F, r, t, o, c, h1, h2, h3, h4, h5⟩ => ⟨f, d1, d2, d3, d4, d5, F, r, t, o, c, h1, h2.ex k, h3.ex k, ex_t k h4, h5⟩
section
variable {B : Bs} {Cf : Addr} (TF : FairC B Cf)
include TF
theorem ok_fSetR {ff : Addr} {fd : FuncData} {cdv : Value} (Fn : FunC B.K "set_room" "Fair.set_room" (dFair 14) ff fd cdv) : FnOk B.P B.w B.K B.mg B.base CX0 1 ff fd ["self", "room", "askers", "count"] (spM B.G (pFSetR B Cf)) := by
  refine def_ok Fn scFair14 (fun vs H SS P ⟨f, d1, d2, d3, d4, d5, F, r, t, o, c, e, _⟩ => by rw [e]; rfl) fun vs H SS P D ht hp _ hN => ?_
  obtain ⟨f, d1, d2, d3, d4, d5, F, r, t, o, c, rfl, hF, hU, hq, hol, hos, hrs, hRl, rfl, rfl⟩ := hp
  obtain ⟨dx, n, o1⟩ := hF.ob
  obtain ⟨n12, n13, n14, n15, n23, n24, n25, n34, n35, n45⟩ := nd5 hF.ds
  obtain ⟨ko, m1, m2⟩ := hF.o
  obtain ⟨kl, l1, l2⟩ := hF.l
  have m1' := unl_rd hU m1
  refine s_if (b := false) (t_k (CM.is (c_lt (i := c) (j := 0) (ev 3) e_int) (by simp))) (fun z => nomatch z) fun _ => s_next ?_
  have lko : ko.length < 1000000 := by
    rw [← paired_len m2]
    omega
  refine s_dputV (key := Sum.inr r) (ev 2) (e_fld (ev 0) o1 TF.cl TF.nO rfl) (ev 1) m1' lko fun H1 k1 h1 => ?_
  have o1' := k1.at1 m1' o1 (by simp)
  have s1 := k1.at hF.s (by simpa using Ne.symm n23)
  refine s_dputV (key := Sum.inr r) (ev 3) (e_fld (ev 0) o1' TF.cl TF.nS rfl) (ev 1) s1 (by rw [List.length_map]; omega) fun H2 k2 h2 => ?_
  have kk : Kp B.G [d2, d3] H H2 := (k1.mono (by simp)).trans (k2.mono (by simp))
  have hd2 : H2 d2 = some (.dK (putK ko (Sum.inr r) (.ref t))) := k2.at h1 (by simpa using n23)
  refine s_nil fun H3 k3 => hN _ _ (kk.then k3) ⟨FairAt.ex ⟨⟨dx, n, k2.at1 s1 o1' (by simp)⟩, ⟨kl, kp_rd k2 (kp_rd k1 l1 (by simpa using n12)) (by simpa using n13), (l2.kp k1 m1' (by simp) (by simp)).kp k2 s1 (by simp) (by simp)⟩, ⟨_, .inl hd2, ?_⟩, ?_, k2.at (k1.at hF.h (by simpa using Ne.symm n24)) (by simpa using Ne.symm n34), k2.at (k1.at hF.n (by simpa using Ne.symm n25)) (by simpa using Ne.symm n35), hF.ds, ?_⟩ k3, ⟨_, k3.xat hd2⟩⟩
  · exact TupD.put (v := (⟨o, c⟩ : RRow)) ((m2.kp k1 m1' (by simp) (by simp)).kp k2 s1 (by simp) (by simp)) (kp_t1 k2 s1 (kp_t1 k1 m1' hq (by simp) (by simp)) (by simp) (by simp))
  · rw [h2]
    exact congrArg (fun z => some (HO.dK z)) (putK_putA (g := fun x : RRow => nI x.c) (v := (⟨o, c⟩ : RRow)))
  · have ok := hF.ok
    refine ⟨ok.kA, putA_nd ok.kR, ok.sA, Nat.le_trans putA_len hRl, ok.tA, fun p hp => ?_, ok.oA, fun p hp => ?_⟩
    · rcases mem_putA hp with e | e
      · rw [e]
        exact ⟨hol, hos⟩
      · exact ok.tR p e
    · rcases mem_putA hp with e | e
      · rw [e]
        exact hrs
      · exact ok.oR p e
end
end Pm
end
/-! ## W23 -/
section
set_option Elab.async false
set_option linter.all false
set_option maxRecDepth 100000
set_option maxHeartbeats 2000000
namespace Pm
open PySem L2
/-! ### Fair.part_of -/
def SetAt (H : Hp) (d : Addr) (X : List Str) : Prop := ∃ kvs, H d = some (.dK kvs) ∧ (∀ s, (valV kvs (Sum.inr s)).isSome = decide (s ∈ X)) ∧ kvs.length ≤ X.length
theorem SetAt.ex {G : Gt} {H H' : Hp} {d : Addr} {X : List Str} (h : SetAt H d X) (k : Ex G H H') : SetAt H' d X := by
  obtain ⟨kvs, h1, h2⟩ := h
  exact ⟨kvs, k.xat h1, h2⟩
theorem SetAt.put {H' : Hp} {d : Addr} {X : List Str} {s : Str} {v : V} {kvs : List (L2.Key × V)} (h2 : ∀ s, (valV kvs (Sum.inr s)).isSome = decide (s ∈ X)) (h3 : kvs.length ≤ X.length) (h : H' d = some (.dK (putK kvs (Sum.inr s) v))) : SetAt H' d (s :: X) := by
  refine ⟨_, h, fun t => ?_, ?_⟩
  · rw [valV_put]
    by_cases e : t = s
    · subst e
      simp
    · rw [if_neg (by simpa using e), h2]
      simp [e]
  · have : (putK kvs (Sum.inr s : L2.Key) v).length ≤ kvs.length + 1 := by
      unfold putK
      split <;> simp
    rw [List.length_cons]
    omega
def Closed (F : FSt) (X Y : List Str) : Prop := ∀ a ∈ F.asks, ∀ r ∈ F.rooms, F.likes a r = true → (a ∈ X ↔ r ∈ Y)
def mu (F : FSt) (X Y : List Str) : Nat := (F.asks.filter fun a => !decide (a ∈ X)).length + (F.rooms.filter fun r => !decide (r ∈ Y)).length
theorem filt_le {xs X : List Str} {a : Str} : (xs.filter fun b => !decide (b ∈ a :: X)).length ≤ (xs.filter fun b => !decide (b ∈ X)).length := by
  induction xs with
  | nil => simp
  | cons x r ih =>
    rw [List.filter_cons, List.filter_cons]
    by_cases h1 : x ∈ X
    · have h2 : x ∈ a :: X := List.mem_cons_of_mem _ h1
      simp only [h1, h2, decide_true, Bool.not_true, Bool.false_eq_true, if_false]
      exact ih
    · by_cases h2 : x ∈ a :: X
      · simp only [h1, h2, decide_true, decide_false, Bool.not_true, Bool.not_false, Bool.false_eq_true, if_false, if_true, List.length_cons]
        omega
      · simp only [h1, h2, decide_false, Bool.not_false, if_true, List.length_cons]
        omega
theorem filt_lt {xs X : List Str} {a : Str} (h : a ∈ xs) (hn : a ∉ X) : (xs.filter fun b => !decide (b ∈ a :: X)).length < (xs.filter fun b => !decide (b ∈ X)).length := by
  induction xs with
  | nil => cases h
  | cons x r ih =>
    rw [List.filter_cons, List.filter_cons]
    by_cases e : a = x
    · subst e
      have h2 : a ∈ a :: X := by simp
      have := filt_le (xs := r) (X := X) (a := a)
      simp only [hn, h2, decide_true, decide_false, Bool.not_true, Bool.not_false, Bool.false_eq_true, if_false, if_true, List.length_cons]
      omega
    · have hr : a ∈ r := by
        rcases List.mem_cons.mp h with z | z
        · exact absurd z e
        · exact z
      have ih := ih hr
      by_cases h1 : x ∈ X
      · have h2 : x ∈ a :: X := List.mem_cons_of_mem _ h1
        simp only [h1, h2, decide_true, Bool.not_true, Bool.false_eq_true, if_false]
        exact ih
      · have h2 : x ∉ a :: X := by
          simp only [List.mem_cons, not_or]
          exact ⟨fun z => e z.symm, h1⟩
        simp only [h1, h2, decide_false, Bool.not_false, if_true, List.length_cons]
        omega
theorem mu_lt {F : FSt} {X Y : List Str} {a r : Str} (ha : a ∈ F.asks) (hr : r ∈ F.rooms) (h : decide (a ∈ X) ≠ decide (r ∈ Y)) : mu F (a :: X) (r :: Y) < mu F X Y := by
  unfold mu
  have h1 := filt_le (xs := F.asks) (X := X) (a := a)
  have h2 := filt_le (xs := F.rooms) (X := Y) (a := r)
  by_cases hx : a ∈ X
  · have hy : r ∉ Y := fun z => h (by simp [hx, z])
    have := filt_lt hr hy
    omega
  · have := filt_lt ha hx
    omega
end Pm
end
/-! ## Kn -/
section
set_option Elab.async false
set_option linter.all false
set_option maxRecDepth 100000
set_option maxHeartbeats 2000000
namespace Pm
open PySem L2
section
variable {C : Ctx} {σ σ' : L2.St} {H H' : Hp} {e a b c o tg iter elt : Expr} {es ifs : List Expr} {P P' Pa : V → Hp → Prop} {x y z v w : V} {pos p1 p2 p3 p4 p5 : Pos} {s t : Bool} {k : Nat} {n m : Str} {D : Ends} {rest : List Stmt} {scope : Scope}
variable {α : Type} {own : List (Str × Nat)}
/-- a comprehension over a list that is known once the walk begins -/
theorem lc_X (ha : E C σ H iter Pa) (hs : ∀ x H2, Ex C.G H H2 → Pa x H2 → ∃ (q : Addr) (as : List α) (ev : α → V) (p : α → Bool) (f : α → V), x = .ref q ∧ SqL C.K H2 q (as.map ev) ∧ as.length ≤ 1000000 ∧
      (∀ a H3, a ∈ as → Ex C.G H2 H3 → ∃ σ2, EG (C.blk scope) tg (ev a) (wipe σ (own.map (·.2))) H3 σ2 ∧ wipe σ2 (own.map (·.2)) = wipe σ (own.map (·.2)) ∧ Ts (C.blk scope) σ2 H3 ifs (p a) ∧ (p a = true → EV (C.blk scope) σ2 H3 elt (f a))) ∧
      ∀ v H3, Ex C.G H2 H3 → (∃ D, v = .ref D ∧ H2 D = none ∧ H3 D = some (.lst ((as.filter p).map f))) → P v H3) :
    LC C σ H elt tg iter ifs scope own P := fun H1 k Q q' =>
  ⟨iList C.K (wE C iter), fun X g => by rw [← g.K]; exact pi_list (pe_w g), ha H1 k _ fun u H2 k2 p2 => by
    obtain ⟨q, as, ev, p, f, rfl, hq, hlen, hb, hP⟩ := hs u H2 (k.t k2) p2
    refine ⟨q, rfl, ⟨_, hq⟩, fun D hD => ?_⟩
    have kD : ∀ Ha, Kp C.G [D] (upd H2 D (.lst [])) Ha → Ex C.G H2 Ha := fun Ha z => Kp.step (Ex.new hD) z fun x hx => .inr (by rw [List.mem_singleton.mp hx]; exact hD)
    refine lc_it (walk_list (K := C.K) (a := q) (xs := as.map ev)) (fun i Ha => Kp C.G [D] (upd H2 D (.lst [])) Ha ∧ ∃ ys, Ha D = some (.lst ys) ∧ ys.length ≤ i ∧ ys = ((as.take i).filter p).map f) ?_ ?_ ?_ ?_
    · exact ⟨Kp.refl, [], upd_same, Nat.le_refl _, rfl⟩
    · rintro i Ha hle ⟨k3, _⟩
      exact ex_l (kD Ha k3) hq
    · rintro i x Ha Ha' hlt ⟨k3, ys, hys, hyl, hP'⟩ y
      rw [List.length_map] at hlt
      obtain ⟨e1, e2⟩ := y
      subst e1
      have e2 : (as.map ev)[i]? = some x := e2
      rw [List.getElem?_map, List.getElem?_eq_getElem hlt] at e2
      have e2 : ev as[i] = x := Option.some.inj e2
      subst e2
      have hmem : as[i] ∈ as := List.getElem_mem hlt
      obtain ⟨σ2, hg, hw, ht, he⟩ := hb as[i] Ha' hmem (kD _ k3)
      refine hg Ha' Kp.refl _ ⟨hw, ht Ha' Kp.refl _ fun H3 k5 => ?_⟩
      have k35 : Kp C.G [D] (upd H2 D (.lst [])) H3 := k3.then k5
      rw [take_filter_succ (List.getElem?_eq_getElem hlt)]
      by_cases hp : p as[i] = true
      · rw [hp]
        refine iteT (he hp H3 k5 _ fun y H4 k6 p6 => ⟨ys, (k5.t k6).xat hys, sz_lt (by omega), ?_, ys ++ [y], upd_same, by simp; omega, ?_⟩)
        · exact (k35.then k6).trans (Kp.put1 ((k5.t k6).xat hys))
        · rw [if_pos rfl, p6, hP', List.map_append]
          rfl
      · have hp' : p as[i] = false := by simpa using hp
        rw [hp']
        exact iteF ⟨k35, ys, k5.xat hys, by omega, by simpa using hP'⟩
    · rintro Ha ⟨k3, ys, hys, hyl, hP'⟩
      rw [List.length_map, List.take_length] at hP'
      exact q' _ _ (k2.t (kD Ha k3)) (hP _ _ (kD Ha k3) ⟨D, rfl, hD, by rw [hys, hP']⟩)⟩
end
end Pm
end
/-! ## W24 -/
section
set_option Elab.async false
set_option linter.all false
set_option maxRecDepth 100000
set_option maxHeartbeats 2000000
namespace Pm
open PySem L2
theorem rd_inj {H : Hp} {d : Addr} {a b : List (L2.Key × V)} (h1 : Rd H d (.dK a)) (h2 : Rd H d (.dK b)) : a = b := by
  rcases h1 with h1 | ⟨o, h1⟩ <;> rcases h2 with h2 | ⟨o2, h2⟩ <;> rw [h1] at h2 <;> cases h2 <;> rfl
theorem rd_off {H : Hp} {d : Addr} {kl : List (L2.Key × V)} (h : Rd H d (.dK kl)) : ∃ u, H d = some u ∧ mutO u = true ∧ (∀ xs, u ≠ .tup xs) ∧ (∀ o xs, u ≠ .frz o (.tup xs)) ∧ ∀ c dx fs, u ≠ .ins c dx fs := by
  rcases h with h | ⟨o, h⟩
  · exact ⟨_, h, rfl, by simp, by simp, by simp⟩
  · exact ⟨_, h, rfl, by simp, by simp, by simp⟩
section
variable {B : Bs} {Cf f d1 d2 d3 d4 d5 : Addr} {H H1 : Hp} {F : FSt} {kl : List (L2.Key × V)}
theorem FairAt.re1 (h : FairAt B Cf H f d1 d2 d3 d4 d5 F) (k : Kp B.G [d1] H H1) (hr : Rd H d1 (.dK kl)) (h1 : Rd H1 d1 (.dK kl)) : FairAt B Cf H1 f d1 d2 d3 d4 d5 F := by
  obtain ⟨n12, n13, n14, n15, n23, n24, n25, n34, n35, n45⟩ := nd5 h.ds
  obtain ⟨u, hu, _, u1, u2, u3⟩ := rd_off hr
  obtain ⟨⟨dx, n, o1⟩, ⟨kl', l1, l2⟩, ⟨ko, m1, m2⟩, hs, hh, hn, ds, ok⟩ := h
  cases rd_inj l1 hr
  exact ⟨⟨dx, n, k.at1 hu o1 (fun z => u3 _ _ _ z.symm)⟩, ⟨_, h1, l2.kp k hu u1 u2⟩, ⟨ko, kp_rd k m1 (by simpa using Ne.symm n12), m2.kp k hu u1 u2⟩, k.at hs (by simpa using Ne.symm n13), k.at hh (by simpa using Ne.symm n14), k.at hn (by simpa using Ne.symm n15), ds, ok⟩
theorem FairAt.re2 (h : FairAt B Cf H f d1 d2 d3 d4 d5 F) (k : Kp B.G [d2] H H1) (hr : Rd H d2 (.dK kl)) (h1 : Rd H1 d2 (.dK kl)) : FairAt B Cf H1 f d1 d2 d3 d4 d5 F := by
  obtain ⟨n12, n13, n14, n15, n23, n24, n25, n34, n35, n45⟩ := nd5 h.ds
  obtain ⟨u, hu, _, u1, u2, u3⟩ := rd_off hr
  obtain ⟨⟨dx, n, o1⟩, ⟨kl', l1, l2⟩, ⟨ko, m1, m2⟩, hs, hh, hn, ds, ok⟩ := h
  cases rd_inj m1 hr
  exact ⟨⟨dx, n, k.at1 hu o1 (fun z => u3 _ _ _ z.symm)⟩, ⟨kl', kp_rd k l1 (by simpa using n12), l2.kp k hu u1 u2⟩, ⟨_, h1, m2.kp k hu u1 u2⟩, k.at hs (by simpa using Ne.symm n23), k.at hh (by simpa using Ne.symm n24), k.at hn (by simpa using Ne.symm n25), ds, ok⟩
end
theorem SetAt.at {G : Gt} {H H' : Hp} {S : List Addr} {d : Addr} {X : List Str} (h : SetAt H d X) (k : Kp G S H H') (hd : d ∉ S) : SetAt H' d X := by
  obtain ⟨kvs, h1, h2⟩ := h
  exact ⟨kvs, k.at h1 hd, h2⟩
theorem Unl.at {G : Gt} {H H' : Hp} {S : List Addr} {d : Addr} (h : Unl H d) (k : Kp G S H H') (hd : d ∉ S) : Unl H' d := by
  obtain ⟨kvs, h1⟩ := h
  exact ⟨kvs, k.at h1 hd⟩
theorem SetAt.of_dd {H : Hp} {d : Addr} {X : List Str} (h : H d = some (.dK (mergeK [] ((X.filter fun _ => true).map fun a => ((Sum.inr a : L2.Key), V.int 1))))) : SetAt H d X := by
  rw [List.filter_eq_self.mpr (fun _ _ => rfl), merge_dd] at h
  refine ⟨_, h, fun s => ?_, ?_⟩
  · rw [← valV_any, List.any_map]
    rw [Bool.eq_iff_iff, List.any_eq_true, decide_eq_true_iff, ← mem_dd (ks := X)]
    constructor
    · rintro ⟨x, hx, e⟩
      have e : (Sum.inr x : L2.Key) = Sum.inr s := by simpa using e
      cases e
      exact hx
    · intro hx
      exact ⟨s, hx, by simp⟩
  · rw [List.length_map]
    have := len_ddA (ks := X) (acc := [])
    simpa using this
theorem likes_in {F : FSt} {a r : Str} (h : F.likes a r = true) : a ∈ F.asks ∧ r ∈ F.rooms := by
  unfold FSt.likes at h
  cases hx : F.A.lookup a with
  | none => rw [hx] at h; cases h
  | some x =>
    cases hy : F.R.lookup r with
    | none => rw [hx, hy] at h; cases h
    | some y => exact ⟨mem_asks hx, List.mem_map.mpr ⟨_, lookup_mem hy, rfl⟩⟩
theorem keys_at {kvs : List (L2.Key × V)} {ks : List Str} {i : Nat} {kv : L2.Key × V} (h : kvs.map (fun kv => kv.1) = ks.map Sum.inr) (hi : kvs[i]? = some kv) : ∃ a, ks[i]? = some a ∧ kv.1 = Sum.inr a := by
  have e : (kvs.map fun kv => kv.1)[i]? = some kv.1 := by rw [List.getElem?_map, hi]; rfl
  rw [h, List.getElem?_map] at e
  cases hk : ks[i]? with
  | none => rw [hk] at e; cases e
  | some a =>
    rw [hk] at e
    exact ⟨a, rfl, (Option.some.inj e).symm⟩
def pFPart (B : Bs) (Cf : Addr) : Pre := fun vs H S P => ∃ (f d1 d2 d3 d4 d5 : Addr) (F : FSt) (q1 q2 : Addr) (as rs : List Str), vs = [.ref f, .ref q1, .ref q2] ∧ FairAt B Cf H f d1 d2 d3 d4 d5 F ∧ Unl H d1 ∧ Unl H d2 ∧ SqL B.K H q1 (as.map V.str) ∧ SqL B.K H q2 (rs.map V.str) ∧ as.length ≤ 60 ∧ rs.length ≤ 60 ∧ S = [] ∧ ∀ v H' l X Y, v = .ref l → H l = none → H' l = some (.lst (((sortS F.asks).filter fun a => decide (a ∈ X)).map V.str)) → (∀ a ∈ as, a ∈ X) → (∀ r ∈ rs, r ∈ Y) → Closed F X Y → P v H'
theorem pFPart_ex {B : Bs} {Cf : Addr} : PreEx B.G (pFPart B Cf) := fun vs H H' S P k ⟨f, d1, d2, d3, d4, d5, F, q1, q2, as, rs, h1, h2, h3, h4, h5, h6, h7, h8, h9, h10⟩ => ⟨f, d1, d2, d3, d4, d5, F, q1, q2, as, rs, h1, h2.ex k, h3.ex k, h4.ex k, ex_l k h5, ex_l k h6, h7, h8, h9, fun v H'' l X Y e n => h10 v H'' l X Y e (k.free n)⟩
section
variable {B : Bs} {Cf : Addr} (TF : FairC B Cf)
include TF
theorem ok_fPart {ff : Addr} {fd : FuncData} {cdv : Value} (Fn : FunC B.K "part_of" "Fair.part_of" (dFair 7) ff fd cdv) (GL : GM B 1 Cf "likes" (pFLikes B Cf)) : FnOk B.P B.w B.K B.mg B.base CX0 2 ff fd ["self", "askers", "rooms"] (spM B.G (pFPart B Cf)) := by
  refine def_ok Fn scFair7 (fun vs H SS P ⟨f, d1, d2, d3, d4, d5, F, q1, q2, as, rs, e, _⟩ => by rw [e]; rfl) fun vs H SS P D ht hp hD _ => ?_
  obtain ⟨f, d1, d2, d3, d4, d5, F, q1, q2, as, rs, rfl, hF, hU1, hU2, hq1, hq2, hl1, hl2, rfl, hP⟩ := hp
  obtain ⟨n12, n13, n14, n15, n23, n24, n25, n34, n35, n45⟩ := nd5 hF.ds
  obtain ⟨dx, n, o1⟩ := hF.ob
  obtain ⟨kl, l1, l2⟩ := hF.keysL
  obtain ⟨ko, m1, m2⟩ := hF.keysO
  have hd1 := unl_rd hU1 l1
  have hd2 := unl_rd hU2 m1
  have hAl : F.asks.length ≤ 60 := by
    have := hF.ok.sA
    unfold FSt.asks
    rwa [List.length_map]
  have hRl : F.rooms.length ≤ 60 := by
    have := hF.ok.sR
    unfold FSt.rooms
    rwa [List.length_map]
  refine s_asg (e_tupB (PA := fun vs H' => ∃ p1 p2, vs = [.ref p1, .ref p2] ∧ H p1 = none ∧ H p2 = none ∧ p1 ≠ p2 ∧ SetAt H' p1 as ∧ SetAt H' p2 rs) ?_ (fun vs H1 ⟨_, _, e, _⟩ => by rw [e]; exact Nat.le_of_ble_eq_true rfl)) (hw := fun X g => swapN2x g .local rfl rfl) fun v H1 k1 ⟨tp, vs, Hx, ep, _, _, hp2, ⟨p1, p2, e, g1, g2, gne, a1, a2⟩, kx1, kx2⟩ => ?_
  · refine a_consB (e_dictOf TF.dict (e_lc [("one", 8)] (lc_pairs (as := as) (ei_list (ev := V.str) (ev 1) hq1) (fun H2 k => ex_l k hq1) (fun _ => true) (fun a => (Sum.inr a : L2.Key)) (fun _ => V.int 1) (by omega) fun a x H2 ha k e => ?_))) fun x H1 k1 ⟨p1, e, g1, h1⟩ => ?_
    · subst e
      exact ⟨_, eg_name 8, rfl, ts_nil, fun _ => ⟨ev 8, e_int⟩⟩
    subst e
    refine fun H2 k2 Q q' => a_1B (e_dictOf TF.dict (e_lc [("one", 8)] (lc_pairs (as := rs) (ei_list (ev := V.str) (ev 2) (ex_l k1 hq2)) (fun H2 k => ex_l (k1.t k) hq2) (fun _ => true) (fun a => (Sum.inr a : L2.Key)) (fun _ => V.int 1) (by omega) fun a x H2 ha k e => ?_))) (fun _ _ => rfl) H2 k2 Q fun vs H3 k3 ⟨x, e, p2, e2, g2, h2⟩ => q' vs H3 k3 ⟨p1, p2, by rw [e, e2], g1, k1.free g2, fun z => ?_, (SetAt.of_dd h1).ex (k2.t k3), .of_dd h2⟩
    · subst e
      exact ⟨_, eg_name 8, rfl, ts_nil, fun _ => ⟨ev 8, e_int⟩⟩
    · rw [← z, h1] at g2
      cases g2
  subst e ep
  have b1 := a1.ex kx2
  have b2 := a2.ex kx2
  have hpd : ∀ {p d : Addr} {u : HO}, H p = none → H d = some u → p ≠ d := fun h1 h2 z => by rw [z, h2] at h1; cases h1
  refine ⟨_, eg_tup2 4 5 (.inl (.inl hp2)), ?_⟩
  refine s_setV (i := 3) e_bl ?_
  refine s_while (fun m σ1 H2 => ∃ X Y mv o6 o7, σ1 = [some (.ref f), some (.ref q1), some (.ref q2), some (.bl mv), some (.ref p1), some (.ref p2), o6, o7, none] ∧ Ex B.G H H2 ∧ SetAt H2 p1 X ∧ SetAt H2 p2 Y ∧ (∀ a ∈ as, a ∈ X) ∧ (∀ r ∈ rs, r ∈ Y) ∧ X.length + mu F X Y ≤ 1000 ∧ Y.length + mu F X Y ≤ 1000 ∧ (mv = false → Closed F X Y) ∧ m = mu F X Y + if mv = true then 1 else 0)
    ⟨_, as, rs, true, none, none, rfl, k1, b1, b2, fun _ h => h, fun _ h => h, ?_, ?_, (fun z => nomatch z), rfl⟩ fun m σ1 H2 ⟨X, Y, mv, o6, o7, e, k2, s1, s2, hX, hY, hc1, hc2, hcl, em⟩ => ⟨mv, by rw [e]; exact t_val (ev 3), fun hb => ?_, fun hb => ?_⟩
  · have h1 : (F.asks.filter fun a => !decide (a ∈ as)).length ≤ F.asks.length := List.length_filter_le ..
    have h2 : (F.rooms.filter fun a => !decide (a ∈ rs)).length ≤ F.rooms.length := List.length_filter_le ..
    unfold mu
    omega
  · have h1 : (F.asks.filter fun a => !decide (a ∈ as)).length ≤ F.asks.length := List.length_filter_le ..
    have h2 : (F.rooms.filter fun a => !decide (a ∈ rs)).length ≤ F.rooms.length := List.length_filter_le ..
    unfold mu
    omega
  · subst e
    have hF2 := hF.ex k2
    obtain ⟨dx2, m2', o2⟩ := hF2.ob
    obtain ⟨kx, x1, x2, x3⟩ := s1
    refine s_ret (e_lc [("asker", 6)] (lc_Vp (as := sortS F.asks) (ev := V.str) (eip_listB (e_sortD TF.sorted (e_fld (ev 0) o2 TF.cl TF.nL rfl) (ex_rd k2 l1) l2 (by omega)) fun x H1 k ⟨p, e, _, h⟩ => ⟨p, e, .inl (.inl h)⟩) (fun a => decide (a ∈ X)) V.str (by rw [(sortS_perm _).length_eq]; omega) fun a H3 ha k => ⟨_, eg_name 6, rfl, ts_one (t_k (CM.is (c_din (d := p1) (ev 6) (ev 4) (.inl ⟨kx, Sum.inr a, .inl (k.xat x1), rfl, rfl⟩)) (x2 a))), fun _ => ev 6⟩)) fun v H3 k3 ⟨p, e, g, hp⟩ => hD _ _ (k2.t k3) (hP v H3 p X Y e (k2.free g) hp hX hY (hcl hb))
  · subst e hb em
    have hF2 := hF.ex k2
    obtain ⟨dx2, m2', o2⟩ := hF2.ob
    have hd1' := k2.xat hd1
    have hd2' := k2.xat hd2
    refine s_setV (i := 3) e_bl ?_
    have e1 : p1 ≠ d1 := hpd g1 hd1
    have e2 : p2 ≠ d1 := hpd g2 hd1
    have e3 : p1 ≠ d2 := hpd g1 hd2
    have e4 : p2 ≠ d2 := hpd g2 hd2
    have kk1 : ∀ od, Kp B.G [d1] H2 (L2.upd H2 d1 (.frz od (.dK kl))) := fun od => Kp.put1 hd1'
    refine s_forKeys (d := d1) (kvs := kl) (fun od i σ1 H3 => ∃ X1 Y1 mv o6 o7, σ1 = [some (.ref f), some (.ref q1), some (.ref q2), some (.bl mv), some (.ref p1), some (.ref p2), o6, o7, none] ∧ Kp B.G [p1, p2] (L2.upd H2 d1 (.frz od (.dK kl))) H3 ∧ FairAt B Cf H3 f d1 d2 d3 d4 d5 F ∧ Unl H3 d2 ∧ SetAt H3 p1 X1 ∧ SetAt H3 p2 Y1 ∧ (∀ a ∈ as, a ∈ X1) ∧ (∀ r ∈ rs, r ∈ Y1) ∧ X1.length + mu F X1 Y1 ≤ 1000 ∧ Y1.length + mu F X1 Y1 ≤ 1000 ∧ (mv = false → X1 = X ∧ Y1 = Y ∧ ∀ a ∈ F.asks.take i, ∀ r ∈ F.rooms, F.likes a r = true → (a ∈ X ↔ r ∈ Y)) ∧ (mv = true → mu F X1 Y1 < mu F X Y))
      hd1' (fun od => e_fld (ev 0) ((kk1 od).at1 hd1' o2 (by simp)) TF.cl TF.nL rfl) (fun od => ⟨X, Y, false, o6, o7, rfl, Kp.refl, hF2.re1 (kk1 od) (.inl hd1') (.inr ⟨od, upd_same⟩), ⟨_, (kk1 od).at hd2' (by simpa using Ne.symm n12)⟩, s1.at (kk1 od) (by simpa using e1), s2.at (kk1 od) (by simpa using e2), hX, hY, hc1, hc2, fun _ => ⟨rfl, rfl, fun a ha => by simp at ha⟩, fun z => nomatch z⟩)
      (fun od i σ1 H3 ⟨_, _, _, _, _, _, k3, _⟩ => k3.at upd_same (by simp [Ne.symm e1, Ne.symm e2])) (fun od i kv σ1 H3 hkv ⟨X1, Y1, mv, o6', o7', e, k3, hF3, hU3, s1', s2', hX1, hY1, hc1', hc2', hf, htt⟩ => ?_) fun od σ1 H3 ⟨X1, Y1, mv, o6', o7', e, k3, hF3, hU3, s1', s2', hX1, hY1, hc1', hc2', hf, htt⟩ => ?_
    · subst e
      obtain ⟨a, hai, ek⟩ := keys_at l2 hkv
      refine ⟨_, eg_name 6, ?_⟩
      rw [ek]
      have hrd : Rd H3 d2 (.dK ko) := by
        refine kp_rd k3 ?_ (by simp [Ne.symm e3, Ne.symm e4])
        exact kp_rd (kk1 od) (.inl hd2') (by simpa using Ne.symm n12)
      have hd3 := unl_rd hU3 hrd
      have hd31 : H3 d1 = some (.frz od (.dK kl)) := k3.at upd_same (by simp [Ne.symm e1, Ne.symm e2])
      have ht3 : TOk B.G H3 := k3.tok ((kk1 od).tok (k2.tok ht))
      obtain ⟨dx3, m3', o3⟩ := hF3.ob
      have kk2 : ∀ od2, Kp B.G [d2] H3 (L2.upd H3 d2 (.frz od2 (.dK ko))) := fun od2 => Kp.put1 hd3
      refine s_forKeys (d := d2) (kvs := ko) (fun od2 j σ1 H4 => ∃ X2 Y2 mv2 o7, σ1 = [some (.ref f), some (.ref q1), some (.ref q2), some (.bl mv2), some (.ref p1), some (.ref p2), some (.str a), o7, none] ∧ Kp B.G [p1, p2] (L2.upd H3 d2 (.frz od2 (.dK ko))) H4 ∧ FairAt B Cf H4 f d1 d2 d3 d4 d5 F ∧ SetAt H4 p1 X2 ∧ SetAt H4 p2 Y2 ∧ (∀ a ∈ as, a ∈ X2) ∧ (∀ r ∈ rs, r ∈ Y2) ∧ X2.length + mu F X2 Y2 ≤ 1000 ∧ Y2.length + mu F X2 Y2 ≤ 1000 ∧ (mv2 = false → mv = false ∧ X2 = X ∧ Y2 = Y ∧ ∀ r ∈ F.rooms.take j, F.likes a r = true → (a ∈ X ↔ r ∈ Y)) ∧ (mv2 = true → mu F X2 Y2 < mu F X Y))
        hd3 (fun od2 => e_fld (ev 0) ((kk2 od2).at1 hd3 o3 (by simp)) TF.cl TF.nO rfl) (fun od2 => ⟨X1, Y1, mv, o7', rfl, Kp.refl, hF3.re2 (kk2 od2) (.inl hd3) (.inr ⟨od2, upd_same⟩), s1'.at (kk2 od2) (by simpa using e3), s2'.at (kk2 od2) (by simpa using e4), hX1, hY1, hc1', hc2', fun z => ⟨z, (hf z).1, (hf z).2.1, fun r hr => by simp at hr⟩, htt⟩)
        (fun od2 j σ1 H4 ⟨_, _, _, _, _, k4, _⟩ => k4.at upd_same (by simp [Ne.symm e3, Ne.symm e4])) (fun od2 j kv2 σ1 H4 hkv2 ⟨X2, Y2, mv2, o7'', e, k4, hF4, s1'', s2'', hX2, hY2, hc1'', hc2'', hf2, htt2⟩ => ?_) fun od2 σ1 H4 ⟨X2, Y2, mv2, o7'', e, k4, hF4, s1'', s2'', hX2, hY2, hc1'', hc2'', hf2, htt2⟩ => ?_
      · subst e
        obtain ⟨r, hrj, ek2⟩ := keys_at m2 hkv2
        have hrm : r ∈ F.rooms := List.mem_of_getElem? hrj
        have ham : a ∈ F.asks := List.mem_of_getElem? hai
        refine ⟨_, eg_name 7, ?_⟩
        rw [ek2]
        have ht4 : TOk B.G H4 := k4.tok ((kk2 od2).tok ht3)
        obtain ⟨dx4, m4', o4⟩ := hF4.ob
        obtain ⟨kx, x1, x2, x3⟩ := s1''
        obtain ⟨ky, y1, y2, y3⟩ := s2''
        refine s_if (b := F.likes a r && !decide (decide (a ∈ X2) = decide (r ∈ Y2))) (t_and (t_val (e_meth GL (Nat.le_refl _) ht4 (ev 0) o4 rfl (a_cons (ev 6) (a_1 (ev 7))) ⟨f, d1, d2, d3, d4, d5, F, a, r, rfl, hF4, rfl, rfl⟩)) fun _ => t_k (CM.is (c_ne (x := .bl (decide (a ∈ X2))) (y := .bl (decide (r ∈ Y2))) rfl (EK.is (e_k (c_din (d := p1) (ev 6) (ev 4) (.inl ⟨kx, Sum.inr a, .inl x1, rfl, rfl⟩))) (congrArg V.bl (x2 a))) (EK.is (e_k (c_din (d := p2) (ev 7) (ev 5) (.inl ⟨ky, Sum.inr r, .inl y1, rfl, rfl⟩))) (congrArg V.bl (y2 r)))) (by simp))) (fun hb => ?_) (fun hb => s_next (s_lk ⟨X2, Y2, mv2, _, rfl, k4, hF4, ⟨kx, x1, x2, x3⟩, ⟨ky, y1, y2, y3⟩, hX2, hY2, hc1'', hc2'', fun z => ?_, htt2⟩))
        · have hb1 : F.likes a r = true := by
            cases h : F.likes a r with
            | true => rfl
            | false => rw [h] at hb; cases hb
          have hb2 : decide (a ∈ X2) ≠ decide (r ∈ Y2) := by
            intro z
            rw [hb1, z] at hb
            simp at hb
          have hlt := mu_lt ham hrm hb2
          refine s_dputV (key := Sum.inr a) e_int (ev 4) (ev 6) x1 (by omega) fun H5 k5 h5 => ?_
          refine s_dputV (key := Sum.inr r) e_int (ev 5) (ev 7) (k5.at y1 (by simpa using Ne.symm gne)) (by omega) fun H6 k6 h6 => ?_
          have hd4 : H4 d2 = some (.frz od2 (.dK ko)) := k4.at upd_same (by simp [Ne.symm e3, Ne.symm e4])
          have k56 : Kp B.G [p1, p2] H4 H6 := (k5.mono (by simp)).trans (k6.mono (by simp))
          have off : ∀ s ∈ [p1, p2], s ≠ f ∧ s ≠ d1 ∧ s ≠ d2 ∧ s ≠ d3 ∧ s ≠ d4 ∧ s ≠ d5 := fun s hs => by
            have hs : H s = none := by
              simp only [List.mem_cons, List.not_mem_nil, or_false] at hs
              rcases hs with rfl | rfl <;> assumption
            exact ⟨hpd hs o1, hpd hs hd1, hpd hs hd2, hpd hs hF.s, hpd hs hF.h, hpd hs hF.n⟩
          have hF6 : FairAt B Cf H6 f d1 d2 d3 d4 d5 F := by
            obtain ⟨⟨dx, n, q1⟩, ⟨kl', q2, q3⟩, ⟨ko', q4, q5⟩, hs, hh, hn, ds, ok⟩ := hF4
            have nin : ∀ {d : Addr}, (∀ s ∈ [p1, p2], s ≠ d) → d ∉ [p1, p2] := fun h z => h _ z rfl
            exact ⟨⟨dx, n, k56.at q1 (nin fun s h => (off s h).1)⟩, ⟨kl', kp_rd k56 q2 (nin fun s h => (off s h).2.1), (q3.kp k5 x1 (by simp) (by simp)).kp k6 (k5.at y1 (by simpa using Ne.symm gne)) (by simp) (by simp)⟩, ⟨ko', kp_rd k56 q4 (nin fun s h => (off s h).2.2.1), (q5.kp k5 x1 (by simp) (by simp)).kp k6 (k5.at y1 (by simpa using Ne.symm gne)) (by simp) (by simp)⟩, k56.at hs (nin fun s h => (off s h).2.2.2.1), k56.at hh (nin fun s h => (off s h).2.2.2.2.1), k56.at hn (nin fun s h => (off s h).2.2.2.2.2), ds, ok⟩
          refine s_setV (i := 3) e_bl (s_next (s_lk ⟨a :: X2, r :: Y2, true, _, rfl, k4.trans k56, hF6, .put x2 x3 (k6.at h5 (by simpa using gne)), .put y2 y3 h6, fun b hb => List.mem_cons_of_mem _ (hX2 b hb), fun b hb => List.mem_cons_of_mem _ (hY2 b hb), by simp only [List.length_cons]; omega, by simp only [List.length_cons]; omega, (fun z => nomatch z), fun _ => ?_⟩))
          cases mv2 with
          | true => exact Nat.lt_trans hlt (htt2 rfl)
          | false =>
            obtain ⟨_, rfl, rfl, _⟩ := hf2 rfl
            exact hlt
        · obtain ⟨z1, z2, z3, z4⟩ := hf2 z
          refine ⟨z1, z2, z3, fun r' hr' hlk => ?_⟩
          rw [List.take_add_one, hrj] at hr'
          rcases List.mem_append.mp hr' with h | h
          · exact z4 r' h hlk
          · have : r' = r := by simpa using h
            subst this
            rw [hlk, z2, z3] at hb
            have : decide (a ∈ X) = decide (r' ∈ Y) := by simpa using hb
            simpa using this
      · subst e
        have hd4 : H4 d2 = some (.frz od2 (.dK ko)) := k4.at upd_same (by simp [Ne.symm e3, Ne.symm e4])
        have ku := Kp.unlock k4 (by simp [Ne.symm e3, Ne.symm e4]) hd3 rfl
        have kp : Kp B.G [d2] H4 (L2.upd H4 d2 (.dK ko)) := Kp.put1 hd4
        refine s_lk ⟨X2, Y2, mv2, _, _, rfl, k3.trans ku, hF4.re2 kp (.inr ⟨_, hd4⟩) (.inl upd_same), ⟨_, upd_same⟩, s1''.at kp (by simpa using e3), s2''.at kp (by simpa using e4), hX2, hY2, hc1'', hc2'', fun z => ?_, htt2⟩
        obtain ⟨z1, z2, z3, z4⟩ := hf2 z
        refine ⟨z2, z3, fun b hb r hr hlk => ?_⟩
        rw [List.take_add_one, hai] at hb
        rcases List.mem_append.mp hb with h | h
        · exact (hf z1).2.2 b h r hr hlk
        · have : b = a := by simpa using h
          subst this
          refine z4 r ?_ hlk
          have : ko.length = F.rooms.length := by
            have := congrArg List.length m2
            simpa using this
          rw [this, List.take_length]
          exact hr
    · subst e
      have hd3 : H3 d1 = some (.frz od (.dK kl)) := k3.at upd_same (by simp [Ne.symm e1, Ne.symm e2])
      have ku := Kp.unlock k3 (by simp [Ne.symm e1, Ne.symm e2]) hd1' rfl
      have kp : Kp B.G [d1] H3 (L2.upd H3 d1 (.dK kl)) := Kp.put1 hd3
      refine s_lp ⟨mu F X1 Y1 + if mv = true then 1 else 0, ?_, X1, Y1, mv, _, _, rfl, Kp.step k2 ku (fun x hx => .inr ?_), s1'.at kp (by simpa using e1), s2'.at kp (by simpa using e2), hX1, hY1, hc1', hc2', fun z => ?_, rfl⟩
      · cases mv with
        | true =>
          have := htt rfl
          simp
          omega
        | false =>
          obtain ⟨rfl, rfl, _⟩ := hf rfl
          simp
      · simp only [List.mem_cons, List.not_mem_nil, or_false] at hx
        rcases hx with rfl | rfl <;> assumption
      · obtain ⟨z1, z2, z3⟩ := hf z
        have : kl.length = F.asks.length := by
          have := congrArg List.length l2
          simpa using this
        rw [this, List.take_length] at z3
        rw [z1, z2]
        exact z3
end
end Pm
end
/-! ## W25 -/
section
set_option Elab.async false
set_option linter.all false
set_option maxRecDepth 100000
set_option maxHeartbeats 2000000
namespace Pm
open PySem L2
/-! ### Fair: what the deeds need -/
def FSt.heldL (F : FSt) : List (Str × Option Str) := F.A.map fun p => (p.1, p.2.h)
def ToldAt (B : Bs) (H : Hp) (v : V) (bs : List (Str × Option Str)) (F : FSt) : Prop := TupsAt B.K H v ((diffW bs F).map fun w => [.str w, osV (getO bs w), osV (F.held w)])
structure FairU (B : Bs) (Cf : Addr) (H : Hp) (f d1 d2 d3 d4 d5 : Addr) (F : FSt) : Prop where
  fa : FairAt B Cf H f d1 d2 d3 d4 d5 F
  u1 : Unl H d1
  u2 : Unl H d2
abbrev FEnd (F' : FSt) : Prop := ∀ a, F'.waits a = false
theorem FairU.ex {B : Bs} {Cf f d1 d2 d3 d4 d5 : Addr} {H H' : Hp} {F : FSt} (h : FairU B Cf H f d1 d2 d3 d4 d5 F) (k : Ex B.G H H') : FairU B Cf H' f d1 d2 d3 d4 d5 F := ⟨h.fa.ex k, h.u1.ex k, h.u2.ex k⟩
theorem FairAt.inA {B : Bs} {Cf f d1 d2 d3 d4 d5 : Addr} {H : Hp} {F : FSt} (h : FairAt B Cf H f d1 d2 d3 d4 d5 F) (a : Str) : ∃ o, DGet H d1 (.str a) o ∧ o.isSome = decide (a ∈ F.asks) := by
  obtain ⟨kl, l1, l2⟩ := h.l
  refine ⟨_, .inl ⟨kl, Sum.inr a, l1, rfl, rfl⟩, ?_⟩
  rcases l2.get a with ⟨h1, h2⟩ | ⟨x, t, h1, h2, h3⟩
  · rw [h2]
    refine (decide_eq_false fun hm => ?_).symm
    obtain ⟨x, hx⟩ := lookup_of_mem hm
    rw [h1] at hx
    cases hx
  · rw [h2]
    exact (decide_eq_true (mem_asks h1)).symm
theorem FairAt.inR {B : Bs} {Cf f d1 d2 d3 d4 d5 : Addr} {H : Hp} {F : FSt} (h : FairAt B Cf H f d1 d2 d3 d4 d5 F) (a : Str) : ∃ o, DGet H d2 (.str a) o ∧ o.isSome = decide (a ∈ F.rooms) := by
  obtain ⟨kl, l1, l2⟩ := h.o
  refine ⟨_, .inl ⟨kl, Sum.inr a, l1, rfl, rfl⟩, ?_⟩
  rcases l2.get a with ⟨h1, h2⟩ | ⟨x, t, h1, h2, h3⟩
  · rw [h2]
    refine (decide_eq_false fun hm => ?_).symm
    obtain ⟨x, hx⟩ := lookup_of_mem hm
    rw [h1] at hx
    cases hx
  · rw [h2]
    exact (decide_eq_true (List.mem_map.mpr ⟨_, lookup_mem h1, rfl⟩)).symm
theorem FairAt.fne {B : Bs} {Cf f d1 d2 d3 d4 d5 : Addr} {H : Hp} {F : FSt} (h : FairAt B Cf H f d1 d2 d3 d4 d5 F) : f ≠ d1 ∧ f ≠ d2 ∧ f ≠ d3 ∧ f ≠ d4 ∧ f ≠ d5 := by
  obtain ⟨dx, n, o1⟩ := h.ob
  obtain ⟨kl, l1, _⟩ := h.l
  obtain ⟨ko, m1, _⟩ := h.o
  obtain ⟨u, hu, _, _, _, u3⟩ := rd_off l1
  obtain ⟨w, hw, _, _, _, w3⟩ := rd_off m1
  exact ⟨ne_kind o1 hu (u3 _ _ _).symm, ne_kind o1 hw (w3 _ _ _).symm, ne_kind o1 h.s (by simp), ne_kind o1 h.h (by simp), ne_kind o1 h.n (by simp)⟩
theorem TupD.kpS {G : Gt} {ρ : Type} {K : PySem.W.Frag} {S : List Addr} {H H' : Hp} {g : ρ → List Str} {as : List (Str × ρ)} {kvs : List (L2.Key × V)} (h : TupD K H g as kvs) (k : Kp G S H H') (hS : ∀ s ∈ S, (∃ kvs, H s = some (.dK kvs)) ∨ (∃ c dx fs, H s = some (.ins c dx fs)) ∨ H s = none) : TupD K H' g as kvs := paired_imp h fun q kv ⟨e, t, e2, h⟩ => ⟨e, t, e2, by
  rcases h with (z | ⟨o, z⟩) | z
  · refine .inl (.inl (k.at z fun hm => ?_))
    rcases hS t hm with ⟨_, h⟩ | ⟨_, _, _, h⟩ | h <;> rw [z] at h <;> cases h
  · refine .inl (.inr ⟨o, k.at z fun hm => ?_⟩)
    rcases hS t hm with ⟨_, h⟩ | ⟨_, _, _, h⟩ | h <;> rw [z] at h <;> cases h
  · exact .inr z⟩
theorem asks_runs {F F' : FSt} (h : FRuns F F') : F'.asks = F.asks := by
  induction h with
  | refl => rfl
  | step _ _ ih => rw [asks_askF, ih]
theorem FSt.len_asks {F : FSt} : F.asks.length = F.A.length := by
  unfold FSt.asks
  rw [List.length_map]
theorem FSt.len_heldL {F : FSt} : F.heldL.length = F.A.length := by
  unfold FSt.heldL
  rw [List.length_map]
theorem FSt.heldL_rd {F : FSt} : (F.heldL.map fun p => ((Sum.inr p.1 : L2.Key), osV p.2)) = F.A.map fun p => (Sum.inr p.1, osV p.2.h) := by
  unfold FSt.heldL
  rw [List.map_map]
  rfl
def FSt.come (F : FSt) (a : Str) (ws : List Str) : FSt := { F with A := F.A ++ [(a, ⟨ws, none, 0⟩)] }
theorem FSt.Ok.come {F : FSt} (h : F.Ok) {a : Str} {ws : List Str} (ha : a ∉ F.asks) (hl : F.A.length < 60) (hw : ws.length ≤ 60) (hs : ∀ x ∈ ws, sOk x) (hsa : sOk a) : (F.come a ws).Ok where
  kA := by
    show ((F.A ++ [(a, (⟨ws, none, 0⟩ : ARow))]).map fun p => p.1).Nodup
    rw [List.map_append, List.nodup_append]
    exact ⟨h.kA, by simp, fun x hx y hy => by
      have : y = a := by simpa using hy
      rw [this]
      exact fun e => ha (e ▸ hx)⟩
  kR := h.kR
  sA := by
    show (F.A ++ [(a, (⟨ws, none, 0⟩ : ARow))]).length ≤ 60
    rw [List.length_append]
    exact hl
  sR := h.sR
  tA := fun p hp => by
    rcases List.mem_append.mp hp with z | z
    · exact h.tA p z
    · rw [List.mem_singleton.mp z]
      exact ⟨hw, hs⟩
  tR := h.tR
  oA := fun p hp => by
    rcases List.mem_append.mp hp with z | z
    · exact h.oA p z
    · rw [List.mem_singleton.mp z]
      exact ⟨hsa, fun r e => nomatch e⟩
  oR := h.oR
def pCome (B : Bs) (Cf Cd : Addr) : PreX := fun vs H S P PX => ∃ (f d1 d2 d3 d4 d5 : Addr) (F : FSt) (a : Str) (q : Addr) (ws : List Str), vs = [.ref f, .str a, .ref q] ∧ FairU B Cf H f d1 d2 d3 d4 d5 F ∧ F.A.length ≤ 20 ∧ SqL B.K H q (ws.map V.str) ∧ ws.Nodup ∧ ws.length ≤ 60 ∧ (∀ x ∈ ws, sOk x) ∧ sOk a ∧ S = [f, d1, d2, d3, d4, d5] ∧ (P = fun v H' => a ∉ F.asks ∧ ∃ F', FRuns (F.come a ws) F' ∧ FEnd F' ∧ FairU B Cf H' f d1 d2 d3 d4 d5 F' ∧ ToldAt B H' v F.heldL F') ∧ PX = fun c H' => c = .ref Cd ∧ a ∈ F.asks ∧ FairU B Cf H' f d1 d2 d3 d4 d5 F
theorem pCome_ex {B : Bs} {Cf Cd : Addr} : PreExX B.G (pCome B Cf Cd) := fun vs H H' S P PX k ⟨f, d1, d2, d3, d4, d5, F, a, q, ws, h1, h2, h3, h4, h5⟩ => ⟨f, d1, d2, d3, d4, d5, F, a, q, ws, h1, h2.ex k, h3, ex_l k h4, h5⟩
section
variable {B : Bs} {Cf : Addr} (TF : FairC B Cf)
include TF
theorem ok_fCome {ff Cd : Addr} {fd : FuncData} {cdv : Value} (EP : ExcC B "BadDeed" Cd) (Fn : FunC B.K "come" "Fair.come" (dFair 10) ff fd cdv) (GW : GF B 1 "check_words" (pCheckWords B)) (GG : GM B 3 Cf "go_on" (pFGo B Cf)) (GT : GM B 1 Cf "told" (pFTold B Cf)) : FnOk B.P B.w B.K B.mg B.base (L2.CX B.P B.w) 4 ff fd ["self", "asker", "rooms"] (spX B.G (pCome B Cf Cd)) := by
  refine def_okX Fn scFair10 (fun vs H SS P PX ⟨f, d1, d2, d3, d4, d5, F, a, q, ws, e, _⟩ => by rw [e]; rfl) fun vs H SS P PX D E ht hp hD _ hE => ?_
  obtain ⟨f, d1, d2, d3, d4, d5, F, a, q, ws, rfl, hF, hlen, hq, hnd, hwl, hws, has, rfl, rfl, rfl⟩ := hp
  obtain ⟨dx, n, o1⟩ := hF.fa.ob
  obtain ⟨n12, n13, n14, n15, n23, n24, n25, n34, n35, n45⟩ := nd5 hF.fa.ds
  obtain ⟨f1, f2, f3, f4, f5⟩ := hF.fa.fne
  obtain ⟨o, oa1, oa2⟩ := hF.fa.inA a
  refine s_if (b := decide (a ∈ F.asks)) (t_k (CM.is (c_din (ev 1) (e_fld (ev 0) o1 TF.cl TF.nL rfl) oa1) oa2)) (fun hb => s_raise EP fun H1 k => hE _ _ k.ex ⟨rfl, of_decide_eq_true hb, hF.ex k⟩) (fun hb => s_next ?_)
  have hb : a ∉ F.asks := of_decide_eq_false hb
  refine s_set (i := 3) (e_dictD TF.dict (e_fld (ev 0) o1 TF.cl TF.nH rfl) (.inl hF.fa.h)) fun v H1 k1 ⟨bq, e, gq, hbq⟩ => ?_
  subst e
  obtain ⟨kl, l1, l2⟩ := hF.fa.l
  obtain ⟨ko, m1, m2⟩ := hF.fa.o
  have hd1 := unl_rd hF.u1 l1
  have hd2 := unl_rd hF.u2 m1
  have lkl : kl.length < 1000000 := by
    rw [← paired_len l2]
    omega
  have hno : valV kl (Sum.inr a) = none := by
    rcases l2.get a with ⟨_, h2⟩ | ⟨x, t, h1, _, _⟩
    · exact h2
    · exact absurd (mem_asks h1) hb
  have hlk : F.A.lookup a = none := by
    rcases l2.get a with ⟨h1, _⟩ | ⟨x, t, h1, _, _⟩
    · exact h1
    · exact absurd (mem_asks h1) hb
  have sz : ∀ (g : ARow → V), (F.A.map fun p => ((Sum.inr p.1 : L2.Key), g p.2)).length < 1000000 := fun g => by
    rw [List.length_map]
    omega
  refine s_dput (key := Sum.inr a) (e_call GW (by show 1 ≤ 3; decide) (k1.tok ht) (a_1 (ev 2)) ⟨q, ws, rfl, ex_l k1 hq, hnd, hwl, rfl, rfl⟩) (fun v H2 k _ => e_fld (ev 0) ((k1.t k).xat o1) TF.cl TF.nL rfl) (fun v H2 k _ => ev 1) (k1.xat hd1) lkl fun v H2 H3 k2 ⟨t, e, htt⟩ k3 h3 => ?_
  subst e
  have k12 := k1.t k2
  have kd3 : Kp B.G [d1] H H3 := Kp.pre k12 k3
  have o3 := kd3.at o1 (by simpa using f1)
  have hh3 := kd3.at hF.fa.h (by simpa using Ne.symm n14)
  refine s_dputV (key := Sum.inr a) e_non (e_fld (ev 0) o3 TF.cl TF.nH rfl) (ev 1) hh3 (sz fun y => osV y.h) fun H4 k4 h4 => ?_
  have kd4 : Kp B.G [d1, d4, d5] H H4 := (kd3.mono (by simp)).trans (k4.mono (by simp))
  have o4 := k4.at o3 (by simpa using f4)
  have hn4 := k4.at (kd3.at hF.fa.n (by simpa using Ne.symm n15)) (by simpa using Ne.symm n45)
  refine s_dputV (key := Sum.inr a) e_int (e_fld (ev 0) o4 TF.cl TF.nN rfl) (ev 1) hn4 (sz fun y => nI y.n) fun H5 k5 h5 => ?_
  have kd5 : Kp B.G [d1, d4, d5] H H5 := kd4.trans (k5.mono (by simp))
  have offS : ∀ s ∈ [d1, d4, d5], (∃ kvs, H s = some (.dK kvs)) ∨ (∃ c dx fs, H s = some (.ins c dx fs)) ∨ H s = none := fun s hs => by
    simp only [List.mem_cons, List.not_mem_nil, or_false] at hs
    rcases hs with rfl | rfl | rfl
    · exact .inl ⟨_, hd1⟩
    · exact .inl ⟨_, hF.fa.h⟩
    · exact .inl ⟨_, hF.fa.n⟩
  have ht5 : SqT B.K H5 t (ws.map V.str) := kp_t1 k5 hn4 (kp_t1 k4 hh3 (kp_t1 k3 (k12.xat hd1) htt (by simp) (by simp)) (by simp) (by simp)) (by simp) (by simp)
  have hd1' : H5 d1 = some (.dK (kl ++ [(Sum.inr a, .ref t)])) := by
    rw [k5.at (k4.at h3 (by simpa using n14)) (by simpa using n15), putK_new _ hno]
  have hF5 : FairU B Cf H5 f d1 d2 d3 d4 d5 (F.come a ws) := by
    refine ⟨⟨⟨dx, n, kd5.at o1 (by simp [f1, f4, f5])⟩, ⟨_, .inl hd1', paired_append (l2.kpS kd5 offS) (.cons ⟨rfl, t, rfl, ht5⟩ .nil)⟩, ⟨ko, kp_rd kd5 m1 (by simp [Ne.symm n12, n24, n25]), m2.kpS kd5 offS⟩, kd5.at hF.fa.s (by simp [Ne.symm n13, n34, n35]), ?_, ?_, hF.fa.ds, hF.fa.ok.come hb (by omega) hwl hws has⟩, ⟨_, hd1'⟩, ⟨_, kd5.at hd2 (by simp [Ne.symm n12, n24, n25])⟩⟩
    · rw [k5.at h4 (by simpa using n45), putK_new]
      · show _ = some (HO.dK ((F.A ++ [(a, (⟨ws, none, 0⟩ : ARow))]).map _))
        rw [List.map_append]
        rfl
      · rw [valV_map' (g := fun x => osV x.h) a F.A, hlk]
        rfl
    · rw [h5, putK_new]
      · show _ = some (HO.dK ((F.A ++ [(a, (⟨ws, none, 0⟩ : ARow))]).map _))
        rw [List.map_append]
        rfl
      · rw [valV_map' (g := fun x => nI x.n) a F.A, hlk]
        rfl
  obtain ⟨dx5, n5, o5⟩ := hF5.fa.ob
  refine s_expr (e_meth0 GG (Nat.le_refl _) (kd5.tok ht) (ev 0) o5 rfl ⟨f, d1, d2, d3, d4, d5, _, rfl, hF5.fa, rfl, rfl⟩) fun v H6 k6 ⟨F', r1, r2, r3⟩ => ?_
  obtain ⟨dx6, n6, o6⟩ := r3.ob
  have kd6 : Kp B.G [f, d1, d2, d3, d4, d5] H H6 := (kd5.mono (by simp)).trans (k6.mono (by simp))
  have hq0 : ∀ s, H s ≠ none → bq ≠ s := fun s hs z => hs (z ▸ gq)
  have hbq6 : Rd H6 bq (.dK (F.heldL.map fun p => (Sum.inr p.1, osV p.2))) := by
    rw [F.heldL_rd]
    have e1 : bq ∉ [d1] := by simpa using hq0 d1 (by rw [hd1]; simp)
    have e4 : bq ∉ [d4] := by simpa using hq0 d4 (by rw [hF.fa.h]; simp)
    have e5 : bq ∉ [d5] := by simpa using hq0 d5 (by rw [hF.fa.n]; simp)
    have e6 : bq ∉ [f, d4, d5] := by simp [hq0 f (by rw [o1]; simp), hq0 d4 (by rw [hF.fa.h]; simp), hq0 d5 (by rw [hF.fa.n]; simp)]
    exact .inl (k6.at (k5.at (k4.at (k3.at (k2.xat hbq) e1) e4) e5) e6)
  have hl' : F'.A.length = F.A.length + 1 := by
    have := congrArg List.length (asks_runs r1)
    rw [FSt.len_asks, FSt.len_asks] at this
    rw [this]
    show (F.A ++ [_]).length = _
    simp
  refine s_ret (e_meth GT (by show 1 ≤ 3; decide) (kd6.tok ht) (ev 0) o6 rfl (a_1 (ev 3)) ⟨f, F', bq, F.heldL, rfl, ⟨d1, d2, d3, d4, d5, r3⟩, hbq6, by rw [FSt.len_heldL]; omega, rfl, rfl⟩) fun v H7 k7 p7 => hD _ _ (kd6.then k7) ⟨hb, F', r1, r2, ⟨r3.ex k7, ?_, ?_⟩, p7⟩
  · exact (hF5.u1.at k6 (by simp [Ne.symm f1, n14, n15])).ex k7
  · exact (hF5.u2.at k6 (by simp [Ne.symm f2, n24, n25])).ex k7
end
end Pm
end
/-! ## W26 -/
section
set_option Elab.async false
set_option linter.all false
set_option maxRecDepth 100000
set_option maxHeartbeats 2000000
namespace Pm
open PySem L2
/-! ### Fair: leave -/
section
variable {C : Ctx} {σ : L2.St} {H : Hp} {Cf : Addr} {p0 p1 p2 p3 p4 pos : Pos} {x m : Str} {f d1 d2 d3 d4 d5 : Addr} {F : FSt} {a : Str}
def PartR (H : Hp) (F : FSt) (as rs : List Str) : V → Hp → Prop := fun v H' => ∃ l X Y, v = .ref l ∧ H l = none ∧ H' l = some (.lst (((sortS F.asks).filter fun a => decide (a ∈ X)).map V.str)) ∧ (∀ a ∈ as, a ∈ X) ∧ (∀ r ∈ rs, r ∈ Y) ∧ Closed F X Y
theorem e_partA (GP : GM C.toBs 2 Cf "part_of" (pFPart C.toBs Cf)) (hk : 2 ≤ C.k) (ht : TOk C.G H) (hF : FairU C.toBs Cf H f d1 d2 d3 d4 d5 F) (h0 : EV C σ H (.Name "self" p0) (.ref f)) (h1 : EV C σ H (.Name x p2) (.str a)) {pl : Cx → Sem Bool}
    (hev : ∀ X, Good C X → eval (.Call (.Attribute (.Name "self" p0) "part_of" p1) [.List [.Name x p2] p3, .List [] p4] [] pos) X.env = (do
      let ov ← eval (.Name "self" p0) X.env
      standAt p1.atName
      let (f, first) ← holding [ov] (getMethod ov "part_of" (pl X))
      callWith pos f first (backTo pos (starEach [.List [.Name x p2] p3, .List [] p4] X.env)) (backToKw pos (keywordEach [] X.env))) := by exact fun _ _ => rfl) : E C σ H (.Call (.Attribute (.Name "self" p0) "part_of" p1) [.List [.Name x p2] p3, .List [] p4] [] pos) (PartR H F [a] []) := by
  obtain ⟨dx, n, o1⟩ := hF.fa.ob
  refine e_methB (PA := fun vs H' => ∃ q1 q2, vs = [.ref q1, .ref q2] ∧ H' q1 = some (.lst ([a].map V.str)) ∧ H' q2 = some (.lst (([] : List Str).map V.str))) GP hk ht h0 o1 rfl (a_consB (e_lst (a_1 h1)) (fun x H1 k1 ⟨q1, e, _, g1⟩ => fun H2 k2 Q q' => a_1B (e_lst a_nil) (fun _ _ => rfl) H2 k2 Q fun vs H3 k3 ⟨x2, e3, q2, e2, _, g2⟩ => q' vs H3 k3 ⟨q1, q2, by rw [e, e3, e2], (k2.t k3).xat g1, g2⟩) (fun _ _ => rfl))
    (P := PartR H F [a] []) (SS := []) (fun vs H1 k1 ⟨q1, q2, e, g1, g2⟩ => ⟨f, d1, d2, d3, d4, d5, F, q1, q2, [a], [], by rw [e], hF.fa.ex k1, hF.u1.ex k1, hF.u2.ex k1, .inl (.inl g1), .inl (.inl g2), by simp, by simp, rfl, fun v H' l X Y e n h hX hY hc => ⟨l, X, Y, e, k1.free n, h, hX, hY, hc⟩⟩)  (hev := hev)
theorem e_partR (GP : GM C.toBs 2 Cf "part_of" (pFPart C.toBs Cf)) (hk : 2 ≤ C.k) (ht : TOk C.G H) (hF : FairU C.toBs Cf H f d1 d2 d3 d4 d5 F) (h0 : EV C σ H (.Name "self" p0) (.ref f)) (h1 : EV C σ H (.Name x p2) (.str a)) {pl : Cx → Sem Bool}
    (hev : ∀ X, Good C X → eval (.Call (.Attribute (.Name "self" p0) "part_of" p1) [.List [] p4, .List [.Name x p2] p3] [] pos) X.env = (do
      let ov ← eval (.Name "self" p0) X.env
      standAt p1.atName
      let (f, first) ← holding [ov] (getMethod ov "part_of" (pl X))
      callWith pos f first (backTo pos (starEach [.List [] p4, .List [.Name x p2] p3] X.env)) (backToKw pos (keywordEach [] X.env))) := by exact fun _ _ => rfl) : E C σ H (.Call (.Attribute (.Name "self" p0) "part_of" p1) [.List [] p4, .List [.Name x p2] p3] [] pos) (PartR H F [] [a]) := by
  obtain ⟨dx, n, o1⟩ := hF.fa.ob
  refine e_methB (PA := fun vs H' => ∃ q1 q2, vs = [.ref q1, .ref q2] ∧ H' q1 = some (.lst (([] : List Str).map V.str)) ∧ H' q2 = some (.lst ([a].map V.str))) GP hk ht h0 o1 rfl (a_consB (e_lst a_nil) (fun x H1 k1 ⟨q1, e, _, g1⟩ => fun H2 k2 Q q' => a_1B (e_lst (a_1 (EK.mono h1 k1))) (fun _ _ => rfl) H2 k2 Q fun vs H3 k3 ⟨x2, e3, q2, e2, _, g2⟩ => q' vs H3 k3 ⟨q1, q2, by rw [e, e3, e2], (k2.t k3).xat g1, g2⟩) (fun _ _ => rfl))
    (P := PartR H F [] [a]) (SS := []) (fun vs H1 k1 ⟨q1, q2, e, g1, g2⟩ => ⟨f, d1, d2, d3, d4, d5, F, q1, q2, [], [a], by rw [e], hF.fa.ex k1, hF.u1.ex k1, hF.u2.ex k1, .inl (.inl g1), .inl (.inl g2), by simp, by simp, rfl, fun v H' l X Y e n h hX hY hc => ⟨l, X, Y, e, k1.free n, h, hX, hY, hc⟩⟩)  (hev := hev)
end
theorem drop_map {ρ : Type} {g : ρ → V} {a : Str} {as : List (Str × ρ)} : dropK (as.map fun p => ((Sum.inr p.1 : L2.Key), g p.2)) (Sum.inr a) = (as.filter fun p => decide (p.1 ≠ a)).map fun p => (Sum.inr p.1, g p.2) := by
  unfold dropK
  rw [List.filter_map]
  congr 1
  refine List.filter_congr fun p _ => ?_
  simp
theorem TupD.drop {ρ : Type} {K : PySem.W.Frag} {H : Hp} {g : ρ → List Str} {a : Str} : ∀ {as : List (Str × ρ)} {kvs : List (L2.Key × V)}, TupD K H g as kvs → TupD K H g (as.filter fun p => decide (p.1 ≠ a)) (dropK kvs (Sum.inr a))
  | _, _, .nil => .nil
  | (k', x) :: as, (kk, vv) :: kvs, .cons ⟨e, h⟩ q => by
    have e : kk = Sum.inr k' := e
    subst e
    have ih := TupD.drop (a := a) q
    unfold dropK at ih ⊢
    by_cases hk : k' = a
    · subst hk
      simpa using ih
    · have e1 : ((Sum.inr k' : L2.Key) ≠ Sum.inr a) := by simpa using hk
      rw [List.filter_cons_of_pos (by simpa using hk), List.filter_cons_of_pos (by simpa using hk)]
      exact .cons ⟨rfl, h⟩ ih
def FSt.del (F : FSt) (a : Str) : FSt := { F with A := F.A.filter fun p => decide (p.1 ≠ a) }
def FSt.delR (F : FSt) (r : Str) : FSt := { F with R := F.R.filter fun p => decide (p.1 ≠ r) }
theorem FSt.Ok.del {F : FSt} (h : F.Ok) {a : Str} : (F.del a).Ok where
  kA := h.kA.sublist (List.Sublist.map _ List.filter_sublist)
  kR := h.kR
  sA := Nat.le_trans (List.length_filter_le ..) h.sA
  sR := h.sR
  tA := fun p hp => h.tA p (List.mem_filter.mp hp).1
  tR := h.tR
  oA := fun p hp => h.oA p (List.mem_filter.mp hp).1
  oR := h.oR
theorem FSt.Ok.delR {F : FSt} (h : F.Ok) {a : Str} : (F.delR a).Ok where
  kR := h.kR.sublist (List.Sublist.map _ List.filter_sublist)
  kA := h.kA
  sR := Nat.le_trans (List.length_filter_le ..) h.sR
  sA := h.sA
  tR := fun p hp => h.tR p (List.mem_filter.mp hp).1
  tA := h.tA
  oR := fun p hp => h.oR p (List.mem_filter.mp hp).1
  oA := h.oA
theorem mem_asks_del {F : FSt} {a b : Str} : b ∈ (F.del a).asks ↔ b ∈ F.asks ∧ b ≠ a := by
  unfold FSt.asks FSt.del
  simp only [List.mem_map, List.mem_filter, decide_eq_true_eq]
  constructor
  · rintro ⟨p, ⟨h1, h2⟩, rfl⟩
    exact ⟨⟨p, h1, rfl⟩, h2⟩
  · rintro ⟨⟨p, h1, rfl⟩, h2⟩
    exact ⟨p, ⟨h1, h2⟩, rfl⟩
def pLeave (B : Bs) (Cf Cd : Addr) : PreX := fun vs H S P PX => ∃ (f d1 d2 d3 d4 d5 : Addr) (F : FSt) (a : Str), vs = [.ref f, .str a] ∧ FairU B Cf H f d1 d2 d3 d4 d5 F ∧ F.A.length ≤ 20 ∧ S = [f, d1, d2, d3, d4, d5] ∧ (P = fun v H' => a ∈ F.asks ∧ ∃ (X Y as : List Str) (F' : FSt), a ∈ X ∧ Closed F X Y ∧ (∀ b, b ∈ as ↔ b ∈ F.asks ∧ b ∈ X ∧ b ≠ a) ∧ FRuns ((F.del a).fresh as) F' ∧ FEnd F' ∧ FairU B Cf H' f d1 d2 d3 d4 d5 F' ∧ ToldAt B H' v F.heldL F') ∧ PX = fun c H' => c = .ref Cd ∧ a ∉ F.asks ∧ FairU B Cf H' f d1 d2 d3 d4 d5 F
theorem pLeave_ex {B : Bs} {Cf Cd : Addr} : PreExX B.G (pLeave B Cf Cd) := fun vs H H' S P PX k ⟨f, d1, d2, d3, d4, d5, F, a, h1, h2, h3⟩ => ⟨f, d1, d2, d3, d4, d5, F, a, h1, h2.ex k, h3⟩
section
variable {B : Bs} {Cf : Addr} (TF : FairC B Cf)
include TF
theorem ok_fLeave {ff Cd : Addr} {fd : FuncData} {cdv : Value} (EP : ExcC B "NoSuch" Cd) (Fn : FunC B.K "leave" "Fair.leave" (dFair 11) ff fd cdv) (GP : GM B 2 Cf "part_of" (pFPart B Cf)) (GA : GM B 4 Cf "ask_anew" (pFAnew B Cf)) (GT : GM B 1 Cf "told" (pFTold B Cf)) : FnOk B.P B.w B.K B.mg B.base (L2.CX B.P B.w) 5 ff fd ["self", "asker"] (spX B.G (pLeave B Cf Cd)) := by
  refine def_okX Fn scFair11 (fun vs H SS P PX ⟨f, d1, d2, d3, d4, d5, F, a, e, _⟩ => by rw [e]; rfl) fun vs H SS P PX D E ht hp hD _ hE => ?_
  obtain ⟨f, d1, d2, d3, d4, d5, F, a, rfl, hF, hlen, rfl, rfl, rfl⟩ := hp
  obtain ⟨dx, n, o1⟩ := hF.fa.ob
  obtain ⟨n12, n13, n14, n15, n23, n24, n25, n34, n35, n45⟩ := nd5 hF.fa.ds
  obtain ⟨f1, f2, f3, f4, f5⟩ := hF.fa.fne
  obtain ⟨o, oa1, oa2⟩ := hF.fa.inA a
  refine s_if (b := !decide (a ∈ F.asks)) (t_k (CM.is (c_dnotin (ev 1) (e_fld (ev 0) o1 TF.cl TF.nL rfl) oa1) (by rw [oa2]))) (fun hb => s_raise EP fun H1 k => hE _ _ k.ex ⟨rfl, by simpa using hb, hF.ex k⟩) (fun hb => s_next ?_)
  have hb : a ∈ F.asks := by simpa using hb
  refine s_set (i := 2) (e_dictD TF.dict (e_fld (ev 0) o1 TF.cl TF.nH rfl) (.inl hF.fa.h)) fun v H1 k1 ⟨bq, e, gq, hbq⟩ => ?_
  subst e
  obtain ⟨kl, l1, l2⟩ := hF.fa.l
  obtain ⟨ko, m1, m2⟩ := hF.fa.o
  have hd1 := unl_rd hF.u1 l1
  have hd2 := unl_rd hF.u2 m1
  obtain ⟨x, hx⟩ := lookup_of_mem hb
  have hsl : ∀ X : List Str, ((sortS F.asks).filter fun a => decide (a ∈ X)).length ≤ 20 := fun X => by
    refine Nat.le_trans (List.length_filter_le ..) ?_
    rw [(sortS_perm _).length_eq, FSt.len_asks]
    exact hlen
  refine s_setLc (i := 3) (P := fun v H' => ∃ l X Y, v = .ref l ∧ H l = none ∧ H' l = some (.lst ((((sortS F.asks).filter fun a => decide (a ∈ X)).filter fun b => !decide (b = a)).map V.str)) ∧ a ∈ X ∧ Closed F X Y) [("one", 4)] (lc_X (e_partA (a := a) GP (by show 2 ≤ 4; decide) (k1.tok ht) (hF.ex k1) (ev 0) (ev 1)) fun v H2 k2 ⟨l, X, Y, e, gl, hl, hX, hY, hc⟩ => ⟨l, (sortS F.asks).filter fun a => decide (a ∈ X), V.str, fun b => !decide (b = a), V.str, e, .inl (.inl hl), by have := hsl X; omega, fun b H3 _ k3 => ⟨_, eg_name 4, rfl, ts_one (t_k (CM.is (c_ne (x := .str b) (y := .str a) rfl (ev 4) (ev 1)) (by simp))), fun _ => ev 4⟩, fun v H3 k3 ⟨D', e1, e2, e3⟩ => ⟨D', X, Y, e1, (k1.t k2).free e2, e3, hX a (by simp), hc⟩⟩) fun v H2 k2 ⟨l, X, Y, e, gl, hl, hX, hc⟩ => ?_
  subst e
  have k12 := k1.t k2
  have o2 := k12.xat o1
  refine s_ddel (key := Sum.inr a) (e_fld (ev 0) o2 TF.cl TF.nL rfl) (ev 1) (k12.xat hd1) ?_ fun H3 k3 h3 => ?_
  · rcases l2.get a with ⟨h1, _⟩ | ⟨_, t, _, h2, _⟩
    · rw [hx] at h1
      cases h1
    · rw [h2]
      rfl
  have kd3 : Kp B.G [d1] H H3 := Kp.pre k12 k3
  have o3 := kd3.at o1 (by simpa using f1)
  have hh3 := kd3.at hF.fa.h (by simpa using Ne.symm n14)
  refine s_ddel (key := Sum.inr a) (e_fld (ev 0) o3 TF.cl TF.nH rfl) (ev 1) hh3 (by rw [valV_map' (g := fun x => osV x.h) a F.A, hx]; rfl) fun H4 k4 h4 => ?_
  have kd4 : Kp B.G [d1, d4, d5] H H4 := (kd3.mono (by simp)).trans (k4.mono (by simp))
  have o4 := k4.at o3 (by simpa using f4)
  have hn4 := k4.at (kd3.at hF.fa.n (by simpa using Ne.symm n15)) (by simpa using Ne.symm n45)
  refine s_ddel (key := Sum.inr a) (e_fld (ev 0) o4 TF.cl TF.nN rfl) (ev 1) hn4 (by rw [valV_map' (g := fun x => nI x.n) a F.A, hx]; rfl) fun H5 k5 h5 => ?_
  have kd5 : Kp B.G [d1, d4, d5] H H5 := kd4.trans (k5.mono (by simp))
  have offS : ∀ s ∈ [d1, d4, d5], (∃ kvs, H s = some (.dK kvs)) ∨ (∃ c dx fs, H s = some (.ins c dx fs)) ∨ H s = none := fun s hs => by
    simp only [List.mem_cons, List.not_mem_nil, or_false] at hs
    rcases hs with rfl | rfl | rfl
    · exact .inl ⟨_, hd1⟩
    · exact .inl ⟨_, hF.fa.h⟩
    · exact .inl ⟨_, hF.fa.n⟩
  have hd1' : H5 d1 = some (.dK (dropK kl (Sum.inr a))) := k5.at (k4.at h3 (by simpa using n14)) (by simpa using n15)
  have hF5 : FairU B Cf H5 f d1 d2 d3 d4 d5 (F.del a) := by
    refine ⟨⟨⟨dx, n, kd5.at o1 (by simp [f1, f4, f5])⟩, ⟨_, .inl hd1', (l2.kpS kd5 offS).drop⟩, ⟨ko, kp_rd kd5 m1 (by simp [Ne.symm n12, n24, n25]), m2.kpS kd5 offS⟩, kd5.at hF.fa.s (by simp [Ne.symm n13, n34, n35]), ?_, ?_, hF.fa.ds, hF.fa.ok.del⟩, ⟨_, hd1'⟩, ⟨_, kd5.at hd2 (by simp [Ne.symm n12, n24, n25])⟩⟩
    · rw [k5.at h4 (by simpa using n45), drop_map (g := fun x : ARow => osV x.h)]
      rfl
    · rw [h5, drop_map (g := fun x : ARow => nI x.n)]
      rfl
  obtain ⟨dx5, n5, o5⟩ := hF5.fa.ob
  have hl0 : ∀ s, H s ≠ none → l ≠ s := fun s hs z => hs (z ▸ gl)
  have hq0 : ∀ s, H s ≠ none → bq ≠ s := fun s hs z => hs (z ▸ gq)
  have s1 : H d1 ≠ none := by rw [hd1]; simp
  have s4 : H d4 ≠ none := by rw [hF.fa.h]; simp
  have s5 : H d5 ≠ none := by rw [hF.fa.n]; simp
  have sf : H f ≠ none := by rw [o1]; simp
  have hl5 := k5.at (k4.at (k3.at hl (by simpa using hl0 _ s1)) (by simpa using hl0 _ s4)) (by simpa using hl0 _ s5)
  refine s_expr (e_meth GA (Nat.le_refl _) (kd5.tok ht) (ev 0) o5 rfl (a_1 (ev 3)) ⟨f, d1, d2, d3, d4, d5, F.del a, l, ((sortS F.asks).filter fun a => decide (a ∈ X)).filter fun b => !decide (b = a), rfl, hF5.fa, .inl (.inl hl5), fun b hb' => ?_, rfl, rfl⟩) fun v H6 k6 ⟨F', r1, r2, r3⟩ => ?_
  · obtain ⟨h1, h2⟩ := List.mem_filter.mp hb'
    obtain ⟨h3, _⟩ := List.mem_filter.mp h1
    exact mem_asks_del.mpr ⟨mem_sortS.mp h3, by simpa using h2⟩
  obtain ⟨dx6, n6, o6⟩ := r3.ob
  have kd6 : Kp B.G [f, d1, d2, d3, d4, d5] H H6 := (kd5.mono (by simp)).trans (k6.mono (by simp))
  have hbq6 : Rd H6 bq (.dK (F.heldL.map fun p => (Sum.inr p.1, osV p.2))) := by
    rw [F.heldL_rd]
    exact .inl (k6.at (k5.at (k4.at (k3.at (k2.xat hbq) (by simpa using hq0 _ s1)) (by simpa using hq0 _ s4)) (by simpa using hq0 _ s5)) (by simp [hq0 _ sf, hq0 _ s4, hq0 _ s5]))
  have hl' : F'.A.length ≤ F.A.length := by
    have := congrArg List.length (asks_runs r1)
    rw [asks_fresh, FSt.len_asks, FSt.len_asks] at this
    rw [this]
    exact List.length_filter_le ..
  refine s_ret (e_meth GT (by show 1 ≤ 4; decide) (kd6.tok ht) (ev 0) o6 rfl (a_1 (ev 2)) ⟨f, F', bq, F.heldL, rfl, ⟨d1, d2, d3, d4, d5, r3⟩, hbq6, by rw [FSt.len_heldL]; omega, rfl, rfl⟩) fun v H7 k7 p7 => hD _ _ (kd6.then k7) ⟨hb, X, Y, _, F', hX, hc, fun b => ?_, r1, r2, ⟨r3.ex k7, ?_, ?_⟩, p7⟩
  · rw [List.mem_filter, List.mem_filter, mem_sortS]
    simp only [decide_eq_true_eq, Bool.not_eq_true', decide_eq_false_iff_not, and_assoc]
  · exact (hF5.u1.at k6 (by simp [Ne.symm f1, n14, n15])).ex k7
  · exact (hF5.u2.at k6 (by simp [Ne.symm f2, n24, n25])).ex k7
end
end Pm
end
/-! ## Ko -/
section
set_option Elab.async false
set_option linter.all false
set_option maxRecDepth 100000
set_option maxHeartbeats 2000000
namespace Pm
open PySem L2
section
variable {C : Ctx} {σ σ' : L2.St} {H H' : Hp} {SS : List Addr} {e a b c o tg iter elt : Expr} {es ifs : List Expr} {P P' Pa : V → Hp → Prop} {x y z v w : V} {pos p1 p2 p3 p4 p5 : Pos} {s t : Bool} {k : Nat} {n m : Str} {D : Ends} {rest : List Stmt} {scope : Scope} {pre : Pre} {PA : List V → Hp → Prop} {p Cl dx : Addr} {fs : List (Str × V)}
/-- a method whose promise is known once its arguments are -/
theorem e_methW (M : GM C.toBs k Cl m pre) (hk : k ≤ C.k) (ht : TOk C.G H) (ho : EV C σ H o (.ref p)) (hi : H p = some (.ins Cl dx fs)) (hl : fs.lookup m = none) (ha : A C σ H (e :: es) PA) (hp : ∀ vs H1, Ex C.G H H1 → PA vs H1 → ∃ P', pre (.ref p :: vs) H1 SS P' ∧ ∀ v H', Kp C.G SS H1 H' → P' v H' → P v H') {pl : Cx → Sem Bool}
    (hst : ∀ X, Good C X → starEach (e :: es) X.env = (false, eval e X.env) :: starEach es X.env := by exact fun _ _ => rfl) (hpl : ∀ X, Good C X → (backTo pos (starEach es X.env)).any (·.1) = false := by exact fun _ _ => rfl)
    (hev : ∀ X, Good C X → eval (.Call (.Attribute o m p1) (e :: es) [] pos) X.env = (do
      let ov ← eval o X.env
      standAt p1.atName
      let (f, first) ← holding [ov] (getMethod ov m (pl X))
      callWith pos f first (backTo pos (starEach (e :: es) X.env)) (backToKw pos (keywordEach [] X.env))) := by exact fun _ _ => rfl) : EK C SS σ H (.Call (.Attribute o m p1) (e :: es) [] pos) P := by
  obtain ⟨f, fd, ps, cl, hm, hb, F'⟩ := M.ex
  refine ek_of (t := tMeth Cl m (spM C.G pre) [] E0 (wE C o) (wA C (e :: es))) (fun X g => pe_meth (CX := CX0) (pl := pl X) (pe_w g) (by rw [g.K]; exact cl) (by rw [g.K]; exact hm) (g.fn' F') (g.room.mono hk) (by rw [g.K]; exact hb) .nil pass0 (pa_w g) (hst X g) (hpl X g) (hev X g)) fun H1 k1 Q q => ?_
  refine ho H1 k1 _ fun u H2 k2 p2 => ?_
  subst p2
  refine ⟨p, dx, fs, rfl, (k1.t k2).xat hi, hl, ha H2 (k1.t k2) _ fun vs H3 k3 p3 => ?_⟩
  rw [List.append_nil]
  obtain ⟨P', h1, h2⟩ := hp vs H3 ((k1.t k2).t k3) p3
  exact ⟨((k1.t k2).t k3).tok ht, SS, P', h1, fun v H4 k4 p4 => q v H4 (Kp.pre (k2.t k3) k4) (h2 v H4 k4 p4)⟩
/-- a method that may raise -/
theorem e_methX {pre : PreX} {PX : Value → Hp → Prop} {E' : XK} (M : GMX C.toBs k Cl m pre) (hk : k ≤ C.k) (ht : TOk C.G H) (ho : EV C σ H o (.ref p)) (hi : H p = some (.ins Cl dx fs)) (hl : fs.lookup m = none) (ha : A C σ H (e :: es) PA) (hp : ∀ vs H1, Ex C.G H H1 → PA vs H1 → pre (.ref p :: vs) H1 SS P PX)
    (hW : C.W = fun cls d _ H => E' cls d H) (hX : ∀ c H', Kp C.G SS H H' → PX c H' → E' c none H') {pl : Cx → Sem Bool}
    (hst : ∀ X, Good C X → starEach (e :: es) X.env = (false, eval e X.env) :: starEach es X.env := by exact fun _ _ => rfl) (hpl : ∀ X, Good C X → (backTo pos (starEach es X.env)).any (·.1) = false := by exact fun _ _ => rfl)
    (hev : ∀ X, Good C X → eval (.Call (.Attribute o m p1) (e :: es) [] pos) X.env = (do
      let ov ← eval o X.env
      standAt p1.atName
      let (f, first) ← holding [ov] (getMethod ov m (pl X))
      callWith pos f first (backTo pos (starEach (e :: es) X.env)) (backToKw pos (keywordEach [] X.env))) := by exact fun _ _ => rfl) : EK C SS σ H (.Call (.Attribute o m p1) (e :: es) [] pos) P := by
  obtain ⟨f, fd, ps, cl, hm, hb, F'⟩ := M.ex
  have F2 : ∀ X, Good C X → FnOk X.prog X.w X.K X.mg X.base (L2.CX X.prog X.w) k f fd ps (spX C.G pre) := fun X g => by
    rw [g.P, g.w, g.K, g.mg, g.base]
    exact F'
  refine ek_of (t := tMeth Cl m (spX C.G pre) [] E' (wE C o) (wA C (e :: es))) (fun X g => pe_meth (CX := L2.CX X.prog X.w) (pl := pl X) (pe_w g) (by rw [g.K]; exact cl) (by rw [g.K]; exact hm) (F2 X g) (g.room.mono hk) (by rw [g.K]; exact hb) .nil (passes_call g.tk (fun cls d σ' H' h => by rw [hW]; exact h)) (pa_w g) (hst X g) (hpl X g) (hev X g)) fun H1 k1 Q q => ?_
  refine ho H1 k1 _ fun u H2 k2 p2 => ?_
  subst p2
  refine ⟨p, dx, fs, rfl, (k1.t k2).xat hi, hl, ha H2 (k1.t k2) _ fun vs H3 k3 p3 => ?_⟩
  rw [List.append_nil]
  exact ⟨((k1.t k2).t k3).tok ht, SS, P, PX, hp vs H3 ((k1.t k2).t k3) p3, fun v H4 k4 p4 => q v H4 (Kp.pre (k2.t k3) k4) p4, fun c H4 k4 p4 => hX c H4 (Kp.pre ((k1.t k2).t k3) k4) p4⟩
end
end Pm
end
/-! ## W27 -/
section
set_option Elab.async false
set_option linter.all false
set_option maxRecDepth 100000
set_option maxHeartbeats 2000000
namespace Pm
open PySem L2
/-! ### Fair: shut_room -/
def pShut (B : Bs) (Cf Cd : Addr) : PreX := fun vs H S P PX => ∃ (f d1 d2 d3 d4 d5 : Addr) (F : FSt) (r : Str), vs = [.ref f, .str r] ∧ FairU B Cf H f d1 d2 d3 d4 d5 F ∧ F.A.length ≤ 20 ∧ S = [f, d1, d2, d3, d4, d5] ∧ (P = fun v H' => r ∈ F.rooms ∧ ∃ (X Y as : List Str) (F' : FSt), r ∈ Y ∧ Closed F X Y ∧ (∀ b, b ∈ as ↔ b ∈ F.asks ∧ b ∈ X) ∧ FRuns ((F.delR r).fresh as) F' ∧ FEnd F' ∧ FairU B Cf H' f d1 d2 d3 d4 d5 F' ∧ ToldAt B H' v F.heldL F') ∧ PX = fun c H' => c = .ref Cd ∧ r ∉ F.rooms ∧ FairU B Cf H' f d1 d2 d3 d4 d5 F
theorem pShut_ex {B : Bs} {Cf Cd : Addr} : PreExX B.G (pShut B Cf Cd) := fun vs H H' S P PX k ⟨f, d1, d2, d3, d4, d5, F, a, h1, h2, h3⟩ => ⟨f, d1, d2, d3, d4, d5, F, a, h1, h2.ex k, h3⟩
section
variable {B : Bs} {Cf : Addr} (TF : FairC B Cf)
include TF
theorem ok_fShut {ff Cd : Addr} {fd : FuncData} {cdv : Value} (EP : ExcC B "NoSuch" Cd) (Fn : FunC B.K "shut_room" "Fair.shut_room" (dFair 15) ff fd cdv) (GP : GM B 2 Cf "part_of" (pFPart B Cf)) (GA : GM B 4 Cf "ask_anew" (pFAnew B Cf)) (GT : GM B 1 Cf "told" (pFTold B Cf)) : FnOk B.P B.w B.K B.mg B.base (L2.CX B.P B.w) 5 ff fd ["self", "room"] (spX B.G (pShut B Cf Cd)) := by
  refine def_okX Fn scFair15 (fun vs H SS P PX ⟨f, d1, d2, d3, d4, d5, F, a, e, _⟩ => by rw [e]; rfl) fun vs H SS P PX D E ht hp hD _ hE => ?_
  obtain ⟨f, d1, d2, d3, d4, d5, F, r, rfl, hF, hlen, rfl, rfl, rfl⟩ := hp
  obtain ⟨dx, n, o1⟩ := hF.fa.ob
  obtain ⟨n12, n13, n14, n15, n23, n24, n25, n34, n35, n45⟩ := nd5 hF.fa.ds
  obtain ⟨f1, f2, f3, f4, f5⟩ := hF.fa.fne
  obtain ⟨o, oa1, oa2⟩ := hF.fa.inR r
  refine s_if (b := !decide (r ∈ F.rooms)) (t_k (CM.is (c_dnotin (ev 1) (e_fld (ev 0) o1 TF.cl TF.nO rfl) oa1) (by rw [oa2]))) (fun hb => s_raise EP fun H1 k => hE _ _ k.ex ⟨rfl, by simpa using hb, hF.ex k⟩) (fun hb => s_next ?_)
  have hb : r ∈ F.rooms := by simpa using hb
  refine s_set (i := 2) (e_dictD TF.dict (e_fld (ev 0) o1 TF.cl TF.nH rfl) (.inl hF.fa.h)) fun v H1 k1 ⟨bq, e, gq, hbq⟩ => ?_
  subst e
  obtain ⟨kl, l1, l2⟩ := hF.fa.l
  obtain ⟨ko, m1, m2⟩ := hF.fa.o
  have hd1 := unl_rd hF.u1 l1
  have hd2 := unl_rd hF.u2 m1
  obtain ⟨x, hx⟩ := lookup_of_mem hb
  refine s_set (i := 3) (e_partR (a := r) GP (by show 2 ≤ 4; decide) (k1.tok ht) (hF.ex k1) (ev 0) (ev 1)) fun v H2 k2 ⟨l, X, Y, e, gl, hl, hX, hY, hc⟩ => ?_
  subst e
  have gl := k1.free gl
  have k12 := k1.t k2
  have o2 := k12.xat o1
  refine s_ddel (key := Sum.inr r) (e_fld (ev 0) o2 TF.cl TF.nO rfl) (ev 1) (k12.xat hd2) ?_ fun H3 k3 h3 => ?_
  · rcases m2.get r with ⟨h1, _⟩ | ⟨_, t, _, h2, _⟩
    · rw [hx] at h1
      cases h1
    · rw [h2]
      rfl
  have kd3 : Kp B.G [d2] H H3 := Kp.pre k12 k3
  have o3 := kd3.at o1 (by simpa using f2)
  have hs3 := kd3.at hF.fa.s (by simpa using Ne.symm n23)
  refine s_ddel (key := Sum.inr r) (e_fld (ev 0) o3 TF.cl TF.nS rfl) (ev 1) hs3 (by rw [valV_map' (g := fun x => nI x.c) r F.R, hx]; rfl) fun H4 k4 h4 => ?_
  have kd4 : Kp B.G [d2, d3] H H4 := (kd3.mono (by simp)).trans (k4.mono (by simp))
  have offS : ∀ s ∈ [d2, d3], (∃ kvs, H s = some (.dK kvs)) ∨ (∃ c dx fs, H s = some (.ins c dx fs)) ∨ H s = none := fun s hs => by
    simp only [List.mem_cons, List.not_mem_nil, or_false] at hs
    rcases hs with rfl | rfl
    · exact .inl ⟨_, hd2⟩
    · exact .inl ⟨_, hF.fa.s⟩
  have hd2' : H4 d2 = some (.dK (dropK ko (Sum.inr r))) := k4.at h3 (by simpa using n23)
  have hF5 : FairU B Cf H4 f d1 d2 d3 d4 d5 (F.delR r) := by
    refine ⟨⟨⟨dx, n, kd4.at o1 (by simp [f2, f3])⟩, ⟨kl, kp_rd kd4 l1 (by simp [n12, n13]), l2.kpS kd4 offS⟩, ⟨_, .inl hd2', (m2.kpS kd4 offS).drop⟩, ?_, kd4.at hF.fa.h (by simp [Ne.symm n24, Ne.symm n34]), kd4.at hF.fa.n (by simp [Ne.symm n25, Ne.symm n35]), hF.fa.ds, hF.fa.ok.delR⟩, ⟨_, kd4.at hd1 (by simp [n12, n13])⟩, ⟨_, hd2'⟩⟩
    rw [h4, drop_map (g := fun x : RRow => nI x.c)]
    rfl
  obtain ⟨dx5, n5, o5⟩ := hF5.fa.ob
  have hl0 : ∀ s, H s ≠ none → l ≠ s := fun s hs z => hs (z ▸ gl)
  have hq0 : ∀ s, H s ≠ none → bq ≠ s := fun s hs z => hs (z ▸ gq)
  have s2 : H d2 ≠ none := by rw [hd2]; simp
  have s3 : H d3 ≠ none := by rw [hF.fa.s]; simp
  have s4 : H d4 ≠ none := by rw [hF.fa.h]; simp
  have s5 : H d5 ≠ none := by rw [hF.fa.n]; simp
  have sf : H f ≠ none := by rw [o1]; simp
  have hl5 := k4.at (k3.at hl (by simpa using hl0 _ s2)) (by simpa using hl0 _ s3)
  refine s_expr (e_meth GA (Nat.le_refl _) (kd4.tok ht) (ev 0) o5 rfl (a_1 (ev 3)) ⟨f, d1, d2, d3, d4, d5, F.delR r, l, (sortS F.asks).filter fun a => decide (a ∈ X), rfl, hF5.fa, .inl (.inl hl5), fun b hb' => mem_sortS.mp (List.mem_filter.mp hb').1, rfl, rfl⟩) fun v H6 k6 ⟨F', r1, r2, r3⟩ => ?_
  obtain ⟨dx6, n6, o6⟩ := r3.ob
  have kd6 : Kp B.G [f, d1, d2, d3, d4, d5] H H6 := (kd4.mono (by simp)).trans (k6.mono (by simp))
  have hbq6 : Rd H6 bq (.dK (F.heldL.map fun p => (Sum.inr p.1, osV p.2))) := by
    rw [F.heldL_rd]
    exact .inl (k6.at (k4.at (k3.at (k2.xat hbq) (by simpa using hq0 _ s2)) (by simpa using hq0 _ s3)) (by simp [hq0 _ sf, hq0 _ s4, hq0 _ s5]))
  have hl' : F'.A.length ≤ F.A.length := by
    have := congrArg List.length (asks_runs r1)
    rw [asks_fresh, FSt.len_asks, FSt.len_asks] at this
    rw [this]
    exact Nat.le_refl _
  refine s_ret (e_meth GT (by show 1 ≤ 4; decide) (kd6.tok ht) (ev 0) o6 rfl (a_1 (ev 2)) ⟨f, F', bq, F.heldL, rfl, ⟨d1, d2, d3, d4, d5, r3⟩, hbq6, by rw [FSt.len_heldL]; omega, rfl, rfl⟩) fun v H7 k7 p7 => hD _ _ (kd6.then k7) ⟨hb, X, Y, _, F', hY r (by simp), hc, fun b => ?_, r1, r2, ⟨r3.ex k7, ?_, ?_⟩, p7⟩
  · rw [List.mem_filter, mem_sortS]
    simp only [decide_eq_true_eq]
  · exact (hF5.u1.at k6 (by simp [Ne.symm f1, n14, n15])).ex k7
  · exact (hF5.u2.at k6 (by simp [Ne.symm f2, n24, n25])).ex k7
end
end Pm
end
/-! ## W28 -/
section
set_option Elab.async false
set_option linter.all false
set_option maxRecDepth 100000
set_option maxHeartbeats 2000000
namespace Pm
open PySem L2
/-! ### Fair: open_room -/
def pOpen (B : Bs) (Cf Cd : Addr) : PreX := fun vs H S P PX => ∃ (f d1 d2 d3 d4 d5 : Addr) (F : FSt) (r : Str) (q : Addr) (os : List Str) (c : Nat), vs = [.ref f, .str r, .ref q, nI c] ∧ FairU B Cf H f d1 d2 d3 d4 d5 F ∧ F.A.length ≤ 20 ∧ F.R.length ≤ 20 ∧ SqL B.K H q (os.map V.str) ∧ os.Nodup ∧ os.length ≤ 60 ∧ (∀ x ∈ os, sOk x) ∧ sOk r ∧ S = [f, d1, d2, d3, d4, d5] ∧ (P = fun v H' => r ∉ F.rooms ∧ ∃ (X Y as : List Str) (F' : FSt), r ∈ Y ∧ Closed (F.putR r os c) X Y ∧ (∀ b, b ∈ as ↔ b ∈ F.asks ∧ b ∈ X) ∧ FRuns ((F.putR r os c).fresh as) F' ∧ FEnd F' ∧ FairU B Cf H' f d1 d2 d3 d4 d5 F' ∧ ToldAt B H' v F.heldL F') ∧ PX = fun c H' => c = .ref Cd ∧ r ∈ F.rooms ∧ FairU B Cf H' f d1 d2 d3 d4 d5 F
theorem pOpen_ex {B : Bs} {Cf Cd : Addr} : PreExX B.G (pOpen B Cf Cd) := fun vs H H' S P PX k ⟨f, d1, d2, d3, d4, d5, F, a, q, os, c, h1, h2, h3, h3', h4, h5⟩ => ⟨f, d1, d2, d3, d4, d5, F, a, q, os, c, h1, h2.ex k, h3, h3', ex_l k h4, h5⟩
section
variable {B : Bs} {Cf : Addr} (TF : FairC B Cf)
include TF
theorem ok_fOpen {ff Cd : Addr} {fd : FuncData} {cdv : Value} (EP : ExcC B "BadDeed" Cd) (Fn : FunC B.K "open_room" "Fair.open_room" (dFair 13) ff fd cdv) (GW : GF B 1 "check_words" (pCheckWords B)) (GS : GM B 1 Cf "set_room" (pFSetR B Cf)) (GP : GM B 2 Cf "part_of" (pFPart B Cf)) (GA : GM B 4 Cf "ask_anew" (pFAnew B Cf)) (GT : GM B 1 Cf "told" (pFTold B Cf)) : FnOk B.P B.w B.K B.mg B.base (L2.CX B.P B.w) 5 ff fd ["self", "room", "askers", "count"] (spX B.G (pOpen B Cf Cd)) := by
  refine def_okX Fn scFair13 (fun vs H SS P PX ⟨f, d1, d2, d3, d4, d5, F, r, q, os, c, e, _⟩ => by rw [e]; rfl) fun vs H SS P PX D E ht hp hD _ hE => ?_
  obtain ⟨f, d1, d2, d3, d4, d5, F, r, q, os, c, rfl, hF, hlen, hlenR, hq, hnd, hol, hos, hrs, rfl, rfl, rfl⟩ := hp
  obtain ⟨dx, n, o1⟩ := hF.fa.ob
  obtain ⟨n12, n13, n14, n15, n23, n24, n25, n34, n35, n45⟩ := nd5 hF.fa.ds
  obtain ⟨f1, f2, f3, f4, f5⟩ := hF.fa.fne
  obtain ⟨o, oa1, oa2⟩ := hF.fa.inR r
  refine s_if (b := decide (r ∈ F.rooms)) (t_k (CM.is (c_din (ev 1) (e_fld (ev 0) o1 TF.cl TF.nO rfl) oa1) oa2)) (fun hb => s_raise EP fun H1 k => hE _ _ k.ex ⟨rfl, of_decide_eq_true hb, hF.ex k⟩) (fun hb => s_next ?_)
  have hb : r ∉ F.rooms := of_decide_eq_false hb
  refine s_set (i := 4) (e_dictD TF.dict (e_fld (ev 0) o1 TF.cl TF.nH rfl) (.inl hF.fa.h)) fun v H1 k1 ⟨bq, e, gq, hbq⟩ => ?_
  subst e
  refine s_expr (e_methW (PA := fun vs H' => ∃ t, vs = [.str r, .ref t, nI c] ∧ SqT B.K H' t (os.map V.str)) (SS := [d2, d3]) (P := fun v H' => FairU B Cf H' f d1 d2 d3 d4 d5 (F.putR r os c)) GS (by show 1 ≤ 4; decide) (k1.tok ht) (ev 0) (k1.xat o1) rfl (a_consV (ev 1) (PA' := fun vs H' => ∃ t, vs = [.ref t, nI c] ∧ SqT B.K H' t (os.map V.str)) (a_consB (e_call GW (by show 1 ≤ 4; decide) (k1.tok ht) (a_1 (ev 2)) ⟨q, os, rfl, ex_l k1 hq, hnd, hol, rfl, rfl⟩) fun x H2 k2 ⟨t, e, h⟩ => fun H3 k3 Q q' => a_1 (ev 3) (fun _ _ => rfl) H3 k3 Q fun vs H4 k4 e4 => q' vs H4 k4 ⟨t, by rw [e, e4], ex_t (k3.t k4) h⟩) fun vs H2 ⟨t, e, h⟩ => ⟨t, by rw [e], h⟩)
    fun vs H2 k2 ⟨t, e, h⟩ => ⟨_, ⟨f, d1, d2, d3, d4, d5, F, r, t, os, c, by rw [e], (hF.fa.ex k1).ex k2, (hF.u2.ex k1).ex k2, h, hol, hos, hrs, by omega, rfl, rfl⟩, fun v H3 k3 ⟨h1, h2⟩ => ⟨h1, ((hF.u1.ex k1).ex k2).at k3 (by simp [n12, n13]), h2⟩⟩) fun v H3 k3 hF5 => ?_
  obtain ⟨dx5, n5, o5⟩ := hF5.fa.ob
  have kd4 : Kp B.G [d2, d3] H H3 := Kp.pre k1 k3
  refine s_expr (e_methW (PA := fun vs H' => ∃ l X Y, vs = [.ref l] ∧ H' l = some (.lst (((sortS (F.putR r os c).asks).filter fun a => decide (a ∈ X)).map V.str)) ∧ r ∈ Y ∧ Closed (F.putR r os c) X Y) (SS := [f, d4, d5]) (P := fun v H' => ∃ (X Y as : List Str) (F' : FSt), r ∈ Y ∧ Closed (F.putR r os c) X Y ∧ (∀ b, b ∈ as ↔ b ∈ F.asks ∧ b ∈ X) ∧ FRuns ((F.putR r os c).fresh as) F' ∧ FEnd F' ∧ FairAt B Cf H' f d1 d2 d3 d4 d5 F') GA (Nat.le_refl _) (kd4.tok ht) (ev 0) o5 rfl (fun H4 k4 Q q' => a_1B (e_partR (a := r) GP (by show 2 ≤ 4; decide) (kd4.tok ht) hF5 (ev 0) (ev 1)) (fun _ _ => rfl) H4 k4 Q fun vs H5 k5 ⟨x, e, l, X, Y, e2, _, hl, _, hY, hc⟩ => q' vs H5 k5 ⟨l, X, Y, by rw [e, e2], hl, hY r (by simp), hc⟩)
    fun vs H4 k4 ⟨l, X, Y, e, hl, hY, hc⟩ => ⟨_, ⟨f, d1, d2, d3, d4, d5, F.putR r os c, l, (sortS (F.putR r os c).asks).filter fun a => decide (a ∈ X), by rw [e], hF5.fa.ex k4, .inl (.inl hl), fun b hb' => mem_sortS.mp (List.mem_filter.mp hb').1, rfl, rfl⟩, fun v H5 k5 ⟨F', r1, r2, r3⟩ => ⟨X, Y, _, F', hY, hc, fun b => ?_, r1, r2, r3⟩⟩) fun v H6 k6 ⟨X, Y, as, F', hY, hc, has, r1, r2, r3⟩ => ?_
  · rw [List.mem_filter, mem_sortS, decide_eq_true_eq]
    rfl
  obtain ⟨dx6, n6, o6⟩ := r3.ob
  have hq0 : ∀ s, H s ≠ none → bq ≠ s := fun s hs z => hs (z ▸ gq)
  obtain ⟨ko, m1, m2⟩ := hF.fa.o
  have hd2 := unl_rd hF.u2 m1
  have s2 : H d2 ≠ none := by rw [hd2]; simp
  have s3 : H d3 ≠ none := by rw [hF.fa.s]; simp
  have s4 : H d4 ≠ none := by rw [hF.fa.h]; simp
  have s5 : H d5 ≠ none := by rw [hF.fa.n]; simp
  have sf : H f ≠ none := by rw [o1]; simp
  have kd6 : Kp B.G [f, d1, d2, d3, d4, d5] H H6 := (kd4.mono (by simp)).trans (k6.mono (by simp))
  have hbq6 : Rd H6 bq (.dK (F.heldL.map fun p => (Sum.inr p.1, osV p.2))) := by
    rw [F.heldL_rd]
    exact .inl (k6.at (k3.at hbq (by simp [hq0 _ s2, hq0 _ s3])) (by simp [hq0 _ sf, hq0 _ s4, hq0 _ s5]))
  have hl' : F'.A.length ≤ F.A.length := by
    have := congrArg List.length (asks_runs r1)
    rw [asks_fresh, FSt.len_asks, FSt.len_asks] at this
    rw [this]
    exact Nat.le_refl _
  refine s_ret (e_meth GT (by show 1 ≤ 4; decide) (kd6.tok ht) (ev 0) o6 rfl (a_1 (ev 4)) ⟨f, F', bq, F.heldL, rfl, ⟨d1, d2, d3, d4, d5, r3⟩, hbq6, by rw [FSt.len_heldL]; omega, rfl, rfl⟩) fun v H7 k7 p7 => hD _ _ (kd6.then k7) ⟨hb, X, Y, as, F', hY, hc, has, r1, r2, ⟨r3.ex k7, ?_, ?_⟩, p7⟩
  · exact (hF5.u1.at k6 (by simp [Ne.symm f1, n14, n15])).ex k7
  · exact (hF5.u2.at k6 (by simp [Ne.symm f2, n24, n25])).ex k7
end
end Pm
end
/-! ## W29 -/
section
set_option Elab.async false
set_option linter.all false
set_option maxRecDepth 100000
set_option maxHeartbeats 2000000
namespace Pm
open PySem L2
/-! ### Fair: change_room -/
theorem FairU.off1 {B : Bs} {Cf f d1 d2 d3 d4 d5 : Addr} {H H' : Hp} {F : FSt} {l : Addr} {xs : List V} (h : FairU B Cf H f d1 d2 d3 d4 d5 F) (k : Kp B.G [l] H H') (hl : H l = some (.lst xs)) : FairU B Cf H' f d1 d2 d3 d4 d5 F := by
  obtain ⟨⟨⟨dx, n, o1⟩, ⟨kl, l1, l2⟩, ⟨ko, m1, m2⟩, hs, hh, hn, ds, ok⟩, u1, u2⟩ := h
  have h1 := unl_rd u1 l1
  have h2 := unl_rd u2 m1
  exact ⟨⟨⟨dx, n, k.at1 hl o1 (by simp)⟩, ⟨kl, .inl (k.at1 hl h1 (by simp)), l2.kp k hl (by simp) (by simp)⟩, ⟨ko, .inl (k.at1 hl h2 (by simp)), m2.kp k hl (by simp) (by simp)⟩, k.at1 hl hs (by simp), k.at1 hl hh (by simp), k.at1 hl hn (by simp), ds, ok⟩, ⟨_, k.at1 hl h1 (by simp)⟩, ⟨_, k.at1 hl h2 (by simp)⟩⟩
def pChange (B : Bs) (Cf Cd : Addr) : PreX := fun vs H S P PX => ∃ (f d1 d2 d3 d4 d5 : Addr) (F : FSt) (r : Str) (q : Addr) (os : List Str) (c : Nat), vs = [.ref f, .str r, .ref q, nI c] ∧ FairU B Cf H f d1 d2 d3 d4 d5 F ∧ F.A.length ≤ 20 ∧ F.R.length ≤ 20 ∧ SqL B.K H q (os.map V.str) ∧ os.Nodup ∧ os.length ≤ 60 ∧ (∀ x ∈ os, sOk x) ∧ sOk r ∧ S = [f, d1, d2, d3, d4, d5] ∧ (P = fun v H' => r ∈ F.rooms ∧ ∃ (X1 Y1 X2 Y2 as : List Str) (F' : FSt), r ∈ Y1 ∧ Closed F X1 Y1 ∧ r ∈ Y2 ∧ Closed (F.putR r os c) X2 Y2 ∧ (∀ b, b ∈ as ↔ b ∈ F.asks ∧ (b ∈ X1 ∨ b ∈ X2)) ∧ FRuns ((F.putR r os c).fresh as) F' ∧ FEnd F' ∧ FairU B Cf H' f d1 d2 d3 d4 d5 F' ∧ ToldAt B H' v F.heldL F') ∧ PX = fun c H' => c = .ref Cd ∧ r ∉ F.rooms ∧ FairU B Cf H' f d1 d2 d3 d4 d5 F
theorem pChange_ex {B : Bs} {Cf Cd : Addr} : PreExX B.G (pChange B Cf Cd) := fun vs H H' S P PX k ⟨f, d1, d2, d3, d4, d5, F, a, q, os, c, h1, h2, h3, h3', h4, h5⟩ => ⟨f, d1, d2, d3, d4, d5, F, a, q, os, c, h1, h2.ex k, h3, h3', ex_l k h4, h5⟩
section
variable {B : Bs} {Cf : Addr} (TF : FairC B Cf)
include TF
theorem ok_fChange {ff Cd : Addr} {fd : FuncData} {cdv : Value} (EP : ExcC B "NoSuch" Cd) (Fn : FunC B.K "change_room" "Fair.change_room" (dFair 16) ff fd cdv) (GW : GF B 1 "check_words" (pCheckWords B)) (GS : GM B 1 Cf "set_room" (pFSetR B Cf)) (GP : GM B 2 Cf "part_of" (pFPart B Cf)) (GA : GM B 4 Cf "ask_anew" (pFAnew B Cf)) (GT : GM B 1 Cf "told" (pFTold B Cf)) : FnOk B.P B.w B.K B.mg B.base (L2.CX B.P B.w) 5 ff fd ["self", "room", "askers", "count"] (spX B.G (pChange B Cf Cd)) := by
  refine def_okX Fn scFair16 (fun vs H SS P PX ⟨f, d1, d2, d3, d4, d5, F, r, q, os, c, e, _⟩ => by rw [e]; rfl) fun vs H SS P PX D E ht hp hD _ hE => ?_
  obtain ⟨f, d1, d2, d3, d4, d5, F, r, q, os, c, rfl, hF, hlen, hlenR, hq, hnd, hol, hos, hrs, rfl, rfl, rfl⟩ := hp
  obtain ⟨dx, n, o1⟩ := hF.fa.ob
  obtain ⟨n12, n13, n14, n15, n23, n24, n25, n34, n35, n45⟩ := nd5 hF.fa.ds
  obtain ⟨f1, f2, f3, f4, f5⟩ := hF.fa.fne
  obtain ⟨o, oa1, oa2⟩ := hF.fa.inR r
  obtain ⟨ko, m1, m2⟩ := hF.fa.o
  have hd2 := unl_rd hF.u2 m1
  refine s_if (b := !decide (r ∈ F.rooms)) (t_k (CM.is (c_dnotin (ev 1) (e_fld (ev 0) o1 TF.cl TF.nO rfl) oa1) (by rw [oa2]))) (fun hb => s_raise EP fun H1 k => hE _ _ k.ex ⟨rfl, by simpa using hb, hF.ex k⟩) (fun hb => s_next ?_)
  have hb : r ∈ F.rooms := by simpa using hb
  refine s_par (PA := fun vs H' => ∃ t bq, vs = [.ref t, .ref bq] ∧ H bq = none ∧ SqT B.K H' t (os.map V.str) ∧ H' bq = some (.dK (F.A.map fun p => (Sum.inr p.1, osV p.2.h)))) 5 6 (a_consB (e_call GW (by show 1 ≤ 4; decide) ht (a_1 (ev 2)) ⟨q, os, rfl, hq, hnd, hol, rfl, rfl⟩) fun x H1 k1 ⟨t, e, h⟩ => fun H2 k2 Q q' => a_1B (e_dictD TF.dict (e_fld (ev 0) (k1.xat o1) TF.cl TF.nH rfl) (.inl (k1.xat hF.fa.h))) (fun _ _ => rfl) H2 k2 Q fun vs H3 k3 ⟨x2, e2, bq, e3, gq, hbq⟩ => q' vs H3 k3 ⟨t, bq, by rw [e, e2, e3], k1.free gq, ex_t (k2.t k3) h, hbq⟩) fun vs H1 k1 ⟨t, bq, e, gq, htt, hbq⟩ => ⟨_, _, e, ?_⟩
  refine s_if (b := false) (t_k (CM.is (c_lt (i := c) (j := 0) (ev 3) e_int) (by simp))) (fun z => nomatch z) fun _ => s_next ?_
  have hlenX : ∀ {G : FSt} (X : List Str), G.asks = F.asks → ((sortS G.asks).filter fun a => decide (a ∈ X)).length ≤ 20 := fun {G} X hG => by
    refine Nat.le_trans (List.length_filter_le ..) ?_
    rw [(sortS_perm _).length_eq, hG, FSt.len_asks]
    exact hlen
  refine s_set (i := 4) (e_partR (a := r) GP (by show 2 ≤ 4; decide) (k1.tok ht) (hF.ex k1) (ev 0) (ev 1)) fun v H2 k2 ⟨l, X1, Y1, e, gl, hl, _, hY1, hc1⟩ => ?_
  subst e
  have gl := k1.free gl
  have k12 := k1.t k2
  have hl0 : ∀ s, H s ≠ none → l ≠ s := fun s hs z => hs (z ▸ gl)
  have hq0 : ∀ s, H s ≠ none → bq ≠ s := fun s hs z => hs (z ▸ gq)
  have s2 : H d2 ≠ none := by rw [hd2]; simp
  have s3 : H d3 ≠ none := by rw [hF.fa.s]; simp
  have s4 : H d4 ≠ none := by rw [hF.fa.h]; simp
  have s5 : H d5 ≠ none := by rw [hF.fa.n]; simp
  have sf : H f ≠ none := by rw [o1]; simp
  refine s_expr (e_meth GS (by show 1 ≤ 4; decide) (k12.tok ht) (ev 0) (k12.xat o1) rfl (a_cons (ev 1) (a_cons (ev 5) (a_1 (ev 3)))) ⟨f, d1, d2, d3, d4, d5, F, r, t, os, c, rfl, hF.fa.ex k12, hF.u2.ex k12, ex_t k2 htt, hol, hos, hrs, by omega, rfl, rfl⟩) fun v H3 k3 ⟨h31, h32⟩ => ?_
  have hF3 : FairU B Cf H3 f d1 d2 d3 d4 d5 (F.putR r os c) := ⟨h31, (hF.u1.ex k12).at k3 (by simp [n12, n13]), h32⟩
  have kd3 : Kp B.G [d2, d3] H H3 := Kp.pre k12 k3
  have hl3 := k3.at hl (by simp [hl0 _ s2, hl0 _ s3])
  have hbq3 := k3.at (k2.xat hbq) (by simp [hq0 _ s2, hq0 _ s3])
  have hfl : ∀ xs : List Str, (xs.map V.str).all flatV = true := fun xs => flat_str
  refine s_ext 4 rfl hl3 (by rw [List.length_map]; have := hlenX (G := F) X1 rfl; omega) (e_lc [("one", 7)] (P := fun v H' => ∃ b X2 Y2, v = .ref b ∧ H' b = some (.lst ((((sortS (F.putR r os c).asks).filter fun a => decide (a ∈ X2)).filter fun a => !decide (a ∈ (sortS F.asks).filter fun a => decide (a ∈ X1))).map V.str)) ∧ r ∈ Y2 ∧ Closed (F.putR r os c) X2 Y2) (lc_X (e_partR (a := r) GP (by show 2 ≤ 4; decide) (kd3.tok ht) hF3 (ev 0) (ev 1)) fun v H4 k4 ⟨b, X2, Y2, e, gb, hb2, _, hY2, hc2⟩ => ⟨b, (sortS (F.putR r os c).asks).filter fun a => decide (a ∈ X2), V.str, fun a => !decide (a ∈ (sortS F.asks).filter fun a => decide (a ∈ X1)), V.str, e, .inl (.inl hb2), by have := hlenX (G := F.putR r os c) X2 rfl; omega, fun a H5 _ k5 => ⟨_, eg_name 7, rfl, ts_one (t_k (CM.is (c_notInSeq (ev 7) (ev 4) (.inl (.inl (.inl ((k4.t k5).xat hl3)))) rfl (hfl _)) (by rw [inV_str]))), fun _ => ev 7⟩, fun v H5 k5 ⟨D', e1, e2, e3⟩ => ⟨D', X2, Y2, e1, e3, hY2 r (by simp), hc2⟩⟩)) fun v H4 k4 ⟨b, X2, Y2, e, hb2, hY2, hc2⟩ => ⟨b, _, e, hb2, ?_, fun H5 k5 h5 => ?_⟩
  · rw [List.length_map]
    refine Nat.le_trans (List.length_filter_le ..) ?_
    have := hlenX (G := F.putR r os c) X2 rfl
    omega
  have hl4 := k4.xat hl3
  have hF5 := (hF3.ex k4).off1 k5 hl4
  have kd5 : Kp B.G [d2, d3] H H5 := Kp.step (kd3.then k4) k5 fun x hx => .inr (by rw [List.mem_singleton.mp hx]; exact gl)
  obtain ⟨dx5, n5, o5⟩ := hF5.fa.ob
  rw [← List.map_append] at h5
  have hplen : (((sortS F.asks).filter fun a => decide (a ∈ X1)) ++ (((sortS (F.putR r os c).asks).filter fun a => decide (a ∈ X2)).filter fun a => !decide (a ∈ (sortS F.asks).filter fun a => decide (a ∈ X1)))).length < 64 := by
    rw [List.length_append]
    have h1 := hlenX (G := F) X1 rfl
    have h2 := hlenX (G := F.putR r os c) X2 rfl
    have h3 : (((sortS (F.putR r os c).asks).filter fun a => decide (a ∈ X2)).filter fun a => !decide (a ∈ (sortS F.asks).filter fun a => decide (a ∈ X1))).length ≤ ((sortS (F.putR r os c).asks).filter fun a => decide (a ∈ X2)).length := List.length_filter_le ..
    omega
  have hmem : ∀ b, b ∈ (((sortS F.asks).filter fun a => decide (a ∈ X1)) ++ (((sortS (F.putR r os c).asks).filter fun a => decide (a ∈ X2)).filter fun a => !decide (a ∈ (sortS F.asks).filter fun a => decide (a ∈ X1)))) ↔ b ∈ F.asks ∧ (b ∈ X1 ∨ b ∈ X2) := fun b => by
    have ea : (F.putR r os c).asks = F.asks := rfl
    rw [List.mem_append, List.mem_filter, List.mem_filter, List.mem_filter, mem_sortS, ea, mem_sortS]
    simp only [decide_eq_true_eq, Bool.not_eq_true', decide_eq_false_iff_not, List.mem_filter, mem_sortS]
    constructor
    · rintro (⟨h1, h2⟩ | ⟨⟨h1, h2⟩, _⟩)
      · exact ⟨h1, .inl h2⟩
      · exact ⟨h1, .inr h2⟩
    · rintro ⟨h1, h2⟩
      by_cases h : b ∈ X1
      · exact .inl ⟨h1, h⟩
      · exact .inr ⟨⟨h1, h2.resolve_left h⟩, fun z => h z.2⟩
  refine s_expr (e_methB (PA := fun vs H' => ∃ l', vs = [.ref l'] ∧ H' l' = some (.lst ((sortS (((sortS F.asks).filter fun a => decide (a ∈ X1)) ++ (((sortS (F.putR r os c).asks).filter fun a => decide (a ∈ X2)).filter fun a => !decide (a ∈ (sortS F.asks).filter fun a => decide (a ∈ X1))))).map V.str))) GA (Nat.le_refl _) (kd5.tok ht) (ev 0) o5 rfl (fun H6 k6 Q q' => a_1B (e_sortS TF.sorted (ev 4) (.inl (.inl h5)) hplen) (fun _ _ => rfl) H6 k6 Q fun vs H7 k7 ⟨x, e, l', e2, _, h⟩ => q' vs H7 k7 ⟨l', by rw [e, e2], h⟩)
    fun vs H6 k6 ⟨l', e, h⟩ => ⟨f, d1, d2, d3, d4, d5, F.putR r os c, l', _, by rw [e], hF5.fa.ex k6, .inl (.inl h), fun b hb' => ((hmem b).mp (mem_sortS.mp hb')).1, rfl, rfl⟩) fun v H6 k6 ⟨F', r1, r2, r3⟩ => ?_
  obtain ⟨dx6, n6, o6⟩ := r3.ob
  have kd6 : Kp B.G [f, d1, d2, d3, d4, d5] H H6 := (kd5.mono (by simp)).trans (k6.mono (by simp))
  have hbq6 : Rd H6 bq (.dK (F.heldL.map fun p => (Sum.inr p.1, osV p.2))) := by
    rw [F.heldL_rd]
    exact .inl (k6.at (k5.at1 hl4 (k4.xat hbq3) (by simp)) (by simp [hq0 _ sf, hq0 _ s4, hq0 _ s5]))
  have hl' : F'.A.length ≤ F.A.length := by
    have := congrArg List.length (asks_runs r1)
    rw [asks_fresh, FSt.len_asks, FSt.len_asks] at this
    rw [this]
    exact Nat.le_refl _
  refine s_ret (e_meth GT (by show 1 ≤ 4; decide) (kd6.tok ht) (ev 0) o6 rfl (a_1 (ev 6)) ⟨f, F', bq, F.heldL, rfl, ⟨d1, d2, d3, d4, d5, r3⟩, hbq6, by rw [FSt.len_heldL]; omega, rfl, rfl⟩) fun v H7 k7 p7 => hD _ _ (kd6.then k7) ⟨hb, X1, Y1, X2, Y2, _, F', hY1 r (by simp), hc1, hY2, hc2, fun b => by rw [mem_sortS]; exact hmem b, r1, r2, ⟨r3.ex k7, ?_, ?_⟩, p7⟩
  · exact (hF5.u1.at k6 (by simp [Ne.symm f1, n14, n15])).ex k7
  · exact (hF5.u2.at k6 (by simp [Ne.symm f2, n24, n25])).ex k7
end
end Pm
end
/-! ## W30 -/
section
set_option Elab.async false
set_option linter.all false
set_option maxRecDepth 100000
set_option maxHeartbeats 2000000
namespace Pm
open PySem L2
/-! ### Fair: wish -/
def FSt.setL (F : FSt) (a : Str) (ws : List Str) : FSt := { F with A := F.A.map fun p => (p.1, if p.1 = a then { p.2 with l := ws } else p.2) }
theorem nd_lookup {ρ : Type} {a : Str} {x : ρ} : ∀ {as : List (Str × ρ)}, (as.map fun p => p.1).Nodup → as.lookup a = some x → ∀ p ∈ as, p.1 = a → p.2 = x
  | [], _, h, _, _, _ => by cases h
  | (k, z) :: as, nd, h, p, hp, e => by
    rw [List.map_cons] at nd
    obtain ⟨h1, h2⟩ := List.nodup_cons.mp nd
    rw [List.lookup_cons] at h
    cases hb : a == k with
    | true =>
      rw [hb] at h
      cases h
      rcases List.mem_cons.mp hp with rfl | z'
      · rfl
      · exact absurd (List.mem_map.mpr ⟨p, z', by rw [e]; exact beq_iff_eq.mp hb⟩) h1
    | false =>
      rw [hb] at h
      rcases List.mem_cons.mp hp with rfl | z'
      · have e : k = a := e
        rw [e] at hb
        simp at hb
      · exact nd_lookup h2 h p z' e
theorem putA_setL {F : FSt} {a : Str} {ws : List Str} {x : ARow} (ok : F.Ok) (hx : F.A.lookup a = some x) : putA F.A a { x with l := ws } = (F.setL a ws).A := by
  unfold putA FSt.setL
  rw [if_pos (List.mem_map.mpr ⟨_, lookup_mem hx, rfl⟩)]
  refine List.map_congr_left fun p hp => ?_
  by_cases h : p.1 = a
  · simp only [h, if_true]
    rw [nd_lookup ok.kA hx p hp h]
  · simp only [h, if_false]
theorem asks_setL {F : FSt} {a : Str} {ws : List Str} : (F.setL a ws).asks = F.asks := by
  unfold FSt.asks FSt.setL
  simp [List.map_map, Function.comp_def]
theorem look_setL {F : FSt} {a b : Str} {ws : List Str} : (F.setL b ws).A.lookup a = (F.A.lookup a).map fun x => if a = b then { x with l := ws } else x := lookup_map (u := fun (c : Str) (x : ARow) => if c = b then { x with l := ws } else x)
theorem held_setL {F : FSt} {a b : Str} {ws : List Str} : (F.setL b ws).held a = F.held a := by
  unfold FSt.held
  rw [look_setL]
  cases F.A.lookup a with
  | none => rfl
  | some x => by_cases h : a = b <;> simp [h]
theorem getO_heldL {F : FSt} {a : Str} : getO F.heldL a = F.held a := by
  unfold getO FSt.heldL FSt.held
  have e := lookup_map (u := fun (c : Str) (x : ARow) => x.h) (a := a) (as := F.A)
  rw [e]
  cases F.A.lookup a <;> rfl
theorem FSt.Ok.setL {F : FSt} (h : F.Ok) {a : Str} {ws : List Str} (hw : ws.length ≤ 60) (hs : ∀ x ∈ ws, sOk x) : (F.setL a ws).Ok where
  kA := by
    show ((F.setL a ws).asks).Nodup
    rw [asks_setL]
    exact h.kA
  kR := h.kR
  sA := by
    show (F.A.map _).length ≤ 60
    rw [List.length_map]
    exact h.sA
  sR := h.sR
  tA := fun p hp => by
    obtain ⟨q, hq, rfl⟩ := List.mem_map.mp hp
    show (if q.1 = a then { q.2 with l := ws } else q.2).l.length ≤ 60 ∧ ∀ x ∈ (if q.1 = a then { q.2 with l := ws } else q.2).l, sOk x
    split
    · exact ⟨hw, hs⟩
    · exact h.tA q hq
  tR := h.tR
  oA := fun p hp => by
    obtain ⟨q, hq, rfl⟩ := List.mem_map.mp hp
    refine ⟨(h.oA q hq).1, ?_⟩
    show ∀ r, (if q.1 = a then { q.2 with l := ws } else q.2).h = some r → sOk r
    split <;> exact (h.oA q hq).2
  oR := h.oR
theorem sm_strs {ws : List Str} (h : ∀ x ∈ ws, sOk x) : Sm 1 (.tuple (ws.map PyData.str)) := .tup fun d hd => by
  obtain ⟨n, hn, rfl⟩ := List.mem_map.mp hd
  exact .str (h n hn)
theorem map_str_inj {xs ys : List Str} (h : xs.map PyData.str = ys.map PyData.str) : xs = ys := by
  have : ∀ {xs ys : List Str}, xs.map PyData.str = ys.map PyData.str → xs = ys := by
    intro xs
    induction xs with
    | nil => intro ys h; cases ys with
      | nil => rfl
      | cons => cases h
    | cons x r ih => intro ys h; cases ys with
      | nil => cases h
      | cons y r' =>
        rw [List.map_cons, List.map_cons] at h
        injection h with h1 h2
        injection h1 with h1
        rw [h1, ih h2]
  exact this h
theorem FairAt.lputL {B : Bs} {Cf f d1 d2 d3 d4 d5 : Addr} {H H' : Hp} {F : FSt} {a : Str} {ws : List Str} {t : Addr} {x : ARow} {kl : List (L2.Key × V)} (h : FairU B Cf H f d1 d2 d3 d4 d5 F) (hx : F.A.lookup a = some x) (hw : ws.length ≤ 60) (hs : ∀ x ∈ ws, sOk x) (hkl : H d1 = some (.dK kl)) (k : Kp B.G [d1] H H') (ht : SqT B.K H t (ws.map V.str)) (h' : H' d1 = some (.dK (putK kl (Sum.inr a) (.ref t)))) : FairU B Cf H' f d1 d2 d3 d4 d5 (F.setL a ws) := by
  obtain ⟨n12, n13, n14, n15, n23, n24, n25, n34, n35, n45⟩ := nd5 h.fa.ds
  obtain ⟨⟨⟨dx, n, o1⟩, ⟨kl', l1, l2⟩, ⟨ko, m1, m2⟩, hs', hh, hn, ds, ok⟩, u1, u2⟩ := h
  have e := rd_inj l1 (.inl hkl)
  subst e
  have hd2 := unl_rd u2 m1
  have l2' := (l2.kp k hkl (by simp) (by simp)).put (k := a) (v := { x with l := ws }) (t := t) (kp_t1 k hkl ht (by simp) (by simp))
  rw [putA_setL ok hx] at l2'
  refine ⟨⟨⟨dx, n, k.at1 hkl o1 (by simp)⟩, ⟨_, .inl h', l2'⟩, ⟨ko, kp_rd k m1 (by simpa using Ne.symm n12), m2.kp k hkl (by simp) (by simp)⟩, k.at hs' (by simpa using Ne.symm n13), ?_, ?_, ds, ok.setL hw hs⟩, ⟨_, h'⟩, ⟨_, k.at hd2 (by simpa using Ne.symm n12)⟩⟩
  · rw [k.at hh (by simpa using Ne.symm n14)]
    show _ = some (HO.dK ((F.A.map _).map _))
    rw [List.map_map]
    congr 2
    refine List.map_congr_left fun p _ => ?_
    show _ = (Sum.inr p.1, osV (if p.1 = a then { p.2 with l := ws } else p.2).h)
    split <;> rfl
  · rw [k.at hn (by simpa using Ne.symm n15)]
    show _ = some (HO.dK ((F.A.map _).map _))
    rw [List.map_map]
    congr 2
    refine List.map_congr_left fun p _ => ?_
    show _ = (Sum.inr p.1, nI (if p.1 = a then { p.2 with l := ws } else p.2).n)
    split <;> rfl
def pWish (B : Bs) (Cf Cd : Addr) : PreX := fun vs H S P PX => ∃ (f d1 d2 d3 d4 d5 : Addr) (F : FSt) (a : Str) (q : Addr) (ws : List Str), vs = [.ref f, .str a, .ref q] ∧ FairU B Cf H f d1 d2 d3 d4 d5 F ∧ F.A.length ≤ 20 ∧ SqL B.K H q (ws.map V.str) ∧ ws.Nodup ∧ ws.length ≤ 60 ∧ (∀ x ∈ ws, sOk x) ∧ S = [f, d1, d2, d3, d4, d5] ∧
  (P = fun v H' => ∃ x, F.A.lookup a = some x ∧ ((x.h ≠ none ∧ ws.take x.n = x.l.take x.n ∧ FairU B Cf H' f d1 d2 d3 d4 d5 (F.setL a ws) ∧ ToldAt B H' v F.heldL (F.setL a ws)) ∨ ∃ (X1 Y1 X2 Y2 as : List Str) (F' : FSt), a ∈ X1 ∧ Closed F X1 Y1 ∧ a ∈ X2 ∧ Closed (F.setL a ws) X2 Y2 ∧ (∀ b, b ∈ as ↔ b ∈ F.asks ∧ (b ∈ X1 ∨ b ∈ X2)) ∧ FRuns ((F.setL a ws).fresh as) F' ∧ FEnd F' ∧ FairU B Cf H' f d1 d2 d3 d4 d5 F' ∧ ToldAt B H' v F.heldL F')) ∧
  PX = fun c H' => c = .ref Cd ∧ a ∉ F.asks ∧ FairU B Cf H' f d1 d2 d3 d4 d5 F
theorem pWish_ex {B : Bs} {Cf Cd : Addr} : PreExX B.G (pWish B Cf Cd) := fun vs H H' S P PX k ⟨f, d1, d2, d3, d4, d5, F, a, q, ws, h1, h2, h3, h4, h5⟩ => ⟨f, d1, d2, d3, d4, d5, F, a, q, ws, h1, h2.ex k, h3, ex_l k h4, h5⟩
section
variable {B : Bs} {Cf : Addr} (TF : FairC B Cf)
include TF
theorem ok_fWish {ff Cd : Addr} {fd : FuncData} {cdv : Value} (EP : ExcC B "NoSuch" Cd) (Fn : FunC B.K "wish" "Fair.wish" (dFair 12) ff fd cdv) (GW : GF B 1 "check_words" (pCheckWords B)) (GP : GM B 2 Cf "part_of" (pFPart B Cf)) (GA : GM B 4 Cf "ask_anew" (pFAnew B Cf)) (GT : GM B 1 Cf "told" (pFTold B Cf)) : FnOk B.P B.w B.K B.mg B.base (L2.CX B.P B.w) 5 ff fd ["self", "asker", "rooms"] (spX B.G (pWish B Cf Cd)) := by
  refine def_okX Fn scFair12 (fun vs H SS P PX ⟨f, d1, d2, d3, d4, d5, F, a, q, ws, e, _⟩ => by rw [e]; rfl) fun vs H SS P PX D E ht hp hD _ hE => ?_
  obtain ⟨f, d1, d2, d3, d4, d5, F, a, q, ws, rfl, hF, hlen, hq, hnd, hwl, hws, rfl, rfl, rfl⟩ := hp
  obtain ⟨dx, n, o1⟩ := hF.fa.ob
  obtain ⟨n12, n13, n14, n15, n23, n24, n25, n34, n35, n45⟩ := nd5 hF.fa.ds
  obtain ⟨f1, f2, f3, f4, f5⟩ := hF.fa.fne
  obtain ⟨o, oa1, oa2⟩ := hF.fa.inA a
  obtain ⟨kl, l1, l2⟩ := hF.fa.l
  have hd1 := unl_rd hF.u1 l1
  have lkl : kl.length < 1000000 := by
    rw [← paired_len l2]
    omega
  refine s_if (b := !decide (a ∈ F.asks)) (t_k (CM.is (c_dnotin (ev 1) (e_fld (ev 0) o1 TF.cl TF.nL rfl) oa1) (by rw [oa2]))) (fun hb => s_raise EP fun H1 k => hE _ _ k.ex ⟨rfl, by simpa using hb, hF.ex k⟩) (fun hb => s_next ?_)
  have hb : a ∈ F.asks := by simpa using hb
  obtain ⟨x, hx⟩ := lookup_of_mem hb
  obtain ⟨told, g1, g2⟩ := hF.fa.lg hx
  refine s_par3 (PA := fun vs H' => ∃ t bq, vs = [.ref t, .ref bq, .ref told] ∧ H bq = none ∧ SqT B.K H' t (ws.map V.str) ∧ H' bq = some (.dK (F.A.map fun p => (Sum.inr p.1, osV p.2.h)))) 5 6 7 (a_consB (e_call GW (by show 1 ≤ 4; decide) ht (a_1 (ev 2)) ⟨q, ws, rfl, hq, hnd, hwl, rfl, rfl⟩) fun y H1 k1 ⟨t, e, h⟩ => a_consB (PA := fun vs H' => ∃ t bq, y :: vs = [.ref t, .ref bq, .ref told] ∧ H bq = none ∧ SqT B.K H' t (ws.map V.str) ∧ H' bq = some (.dK (F.A.map fun p => (Sum.inr p.1, osV p.2.h)))) (e_dictD TF.dict (e_fld (ev 0) (k1.xat o1) TF.cl TF.nH rfl) (.inl (k1.xat hF.fa.h))) fun z H2 k2 ⟨bq, e3, gq, hbq⟩ => fun H3 k3 Q q' => a_1 (e_dget (e_fld (ev 0) ((k1.t k2).xat o1) TF.cl TF.nL rfl) (ev 1) (ex_dget (k1.t k2) g1)) (fun _ _ => rfl) H3 k3 Q fun vs H4 k4 e4 => q' vs H4 k4 ⟨t, bq, by rw [e, e3, e4], k1.free gq, ex_t (k2.t (k3.t k4)) h, (k3.t k4).xat hbq⟩) fun vs H1 k1 ⟨t, bq, e, gq, htt, hbq⟩ => ⟨_, _, _, e, ?_⟩
  have gn := (hF.fa.ex k1).ng a
  have gh := (hF.fa.ex k1).hg a
  rw [hx] at gn gh
  have o1' := k1.xat o1
  have g2' := ex_t k1 g2
  refine s_setV (i := 3) (e_dget (e_fld (ev 0) o1' TF.cl TF.nN rfl) (ev 1) gn) ?_
  have hxok := hF.fa.ok.tA _ (lookup_mem hx)
  have sm1 : ∀ y ∈ ws.take x.n, sOk y := fun y hy => hws y (List.mem_of_mem_take hy)
  have sm2 : ∀ y ∈ x.l.take x.n, sOk y := fun y hy => hxok.2 y (List.mem_of_mem_take hy)
  have dpa : ∀ {H' : Hp} {xs : List Str}, DpAll B.K H' (xs.map V.str) (xs.map PyData.str) := fun {H' xs} => dpAll_map fun n _ => Dp.str n
  refine s_if (b := !decide (x.h = none) && decide (ws.take x.n = x.l.take x.n)) (t_and (t_k (CM.is (c_notN (e_dget (e_fld (ev 0) o1' TF.cl TF.nH rfl) (ev 1) gh)) (by rw [osV_non]))) fun _ => t_k (c_eqD (d1 := .tuple ((ws.take x.n).map PyData.str)) (d2 := .tuple ((x.l.take x.n).map PyData.str)) (Pb := fun _ _ v H' => ∃ p, v = .ref p ∧ SqT B.K H' p (cutV (x.l.map V.str) none (some x.n))) (e_slT (ev 5) htt o_none (o_some (i := (x.n : Int)) (ev 3))) (fun y H2 k2 _ => e_slT (ev 7) (ex_t k2 g2') o_none (o_some (i := (x.n : Int)) (ev 3))) (fun y H2 z H3 k2 ⟨p, e1, h1⟩ k3 ⟨p', e2, h2⟩ => by
      subst e1 e2
      rw [cutV_take] at h1 h2
      exact ⟨.tup (ex_t k3 h1) dpa, .tup h2 dpa⟩) (sm_strs sm1) (sm_strs sm2) (hs := by
      rw [decide_eq_true_eq]
      exact ⟨fun h => by rw [h], fun h => by injection h with h; exact map_str_inj h⟩))) (fun hc => ?_) (fun hc => s_next ?_)
  · have hc1 : x.h ≠ none := by
      intro z
      rw [z] at hc
      cases hc
    have hc2 : ws.take x.n = x.l.take x.n := by
      simp only [Bool.and_eq_true] at hc
      simpa using hc.2
    refine s_dputV (key := Sum.inr a) (ev 5) (e_fld (ev 0) o1' TF.cl TF.nL rfl) (ev 1) (k1.xat hd1) lkl fun H2 k2 h2 => ?_
    have hF2 := FairAt.lputL (hF.ex k1) hx hwl hws (k1.xat hd1) k2 htt h2
    refine s_ret (e_tup a_nil) fun v H3 k3 ⟨p, e, _, hp⟩ => hD _ _ ((Kp.pre k1 (k2.mono (by simp))).then k3) ⟨x, hx, .inl ⟨hc1, hc2, hF2.ex k3, ?_⟩⟩
    have e0 : diffW F.heldL (F.setL a ws) = [] := by
      unfold diffW
      rw [List.filter_eq_nil_iff]
      intro w _
      rw [getO_heldL, held_setL]
      simp
    unfold ToldAt
    rw [e0]
    exact ⟨p, [], e, .inl (.inl hp), .nil⟩
  have hlenX : ∀ {G : FSt} (X : List Str), G.asks = F.asks → ((sortS G.asks).filter fun a => decide (a ∈ X)).length ≤ 20 := fun {G} X hG => by
    refine Nat.le_trans (List.length_filter_le ..) ?_
    rw [(sortS_perm _).length_eq, hG, FSt.len_asks]
    exact hlen
  refine s_set (i := 4) (e_partA (a := a) GP (by show 2 ≤ 4; decide) (k1.tok ht) (hF.ex k1) (ev 0) (ev 1)) fun v H2 k2 ⟨l, X1, Y1, e, gl, hl, hX1, _, hc1⟩ => ?_
  subst e
  have gl := k1.free gl
  have k12 := k1.t k2
  have hl0 : ∀ s, H s ≠ none → l ≠ s := fun s hs z => hs (z ▸ gl)
  have hq0 : ∀ s, H s ≠ none → bq ≠ s := fun s hs z => hs (z ▸ gq)
  have s1 : H d1 ≠ none := by rw [hd1]; simp
  have s4 : H d4 ≠ none := by rw [hF.fa.h]; simp
  have s5 : H d5 ≠ none := by rw [hF.fa.n]; simp
  have sf : H f ≠ none := by rw [o1]; simp
  refine s_dputV (key := Sum.inr a) (ev 5) (e_fld (ev 0) (k12.xat o1) TF.cl TF.nL rfl) (ev 1) (k12.xat hd1) lkl fun H3 k3 h3 => ?_
  have hF3 := FairAt.lputL (hF.ex k12) hx hwl hws (k12.xat hd1) k3 (ex_t k2 htt) h3
  have kd3 : Kp B.G [d1] H H3 := Kp.pre k12 k3
  have hl3 := k3.at hl (by simpa using hl0 _ s1)
  have hbq3 := k3.at (k2.xat hbq) (by simpa using hq0 _ s1)
  have hfl : ∀ xs : List Str, (xs.map V.str).all flatV = true := fun xs => flat_str
  refine s_ext 4 rfl hl3 (by rw [List.length_map]; have := hlenX (G := F) X1 rfl; omega) (e_lc [("one", 8)] (P := fun v H' => ∃ b X2 Y2, v = .ref b ∧ H' b = some (.lst ((((sortS (F.setL a ws).asks).filter fun a => decide (a ∈ X2)).filter fun a => !decide (a ∈ (sortS F.asks).filter fun a => decide (a ∈ X1))).map V.str)) ∧ a ∈ X2 ∧ Closed (F.setL a ws) X2 Y2) (lc_X (e_partA (a := a) GP (by show 2 ≤ 4; decide) (kd3.tok ht) hF3 (ev 0) (ev 1)) fun v H4 k4 ⟨b, X2, Y2, e, gb, hb2, hX2, _, hc2⟩ => ⟨b, (sortS (F.setL a ws).asks).filter fun a => decide (a ∈ X2), V.str, fun a => !decide (a ∈ (sortS F.asks).filter fun a => decide (a ∈ X1)), V.str, e, .inl (.inl hb2), by have := hlenX (G := F.setL a ws) X2 asks_setL; omega, fun a H5 _ k5 => ⟨_, eg_name 8, rfl, ts_one (t_k (CM.is (c_notInSeq (ev 8) (ev 4) (.inl (.inl (.inl ((k4.t k5).xat hl3)))) rfl (hfl _)) (by rw [inV_str]))), fun _ => ev 8⟩, fun v H5 k5 ⟨D', e1, e2, e3⟩ => ⟨D', X2, Y2, e1, e3, hX2 a (by simp), hc2⟩⟩)) fun v H4 k4 ⟨b, X2, Y2, e, hb2, hX2, hc2⟩ => ⟨b, _, e, hb2, ?_, fun H5 k5 h5 => ?_⟩
  · rw [List.length_map]
    refine Nat.le_trans (List.length_filter_le ..) ?_
    have := hlenX (G := F.setL a ws) X2 asks_setL
    omega
  have hl4 := k4.xat hl3
  have hF5 := (hF3.ex k4).off1 k5 hl4
  have kd5 : Kp B.G [d1] H H5 := Kp.step (kd3.then k4) k5 fun x hx => .inr (by rw [List.mem_singleton.mp hx]; exact gl)
  obtain ⟨dx5, n5, o5⟩ := hF5.fa.ob
  rw [← List.map_append] at h5
  have hplen : (((sortS F.asks).filter fun a => decide (a ∈ X1)) ++ (((sortS (F.setL a ws).asks).filter fun a => decide (a ∈ X2)).filter fun a => !decide (a ∈ (sortS F.asks).filter fun a => decide (a ∈ X1)))).length < 64 := by
    rw [List.length_append]
    have h1 := hlenX (G := F) X1 rfl
    have h2 := hlenX (G := F.setL a ws) X2 asks_setL
    have h3 : (((sortS (F.setL a ws).asks).filter fun a => decide (a ∈ X2)).filter fun a => !decide (a ∈ (sortS F.asks).filter fun a => decide (a ∈ X1))).length ≤ ((sortS (F.setL a ws).asks).filter fun a => decide (a ∈ X2)).length := List.length_filter_le ..
    omega
  have hmem : ∀ b, b ∈ (((sortS F.asks).filter fun a => decide (a ∈ X1)) ++ (((sortS (F.setL a ws).asks).filter fun a => decide (a ∈ X2)).filter fun a => !decide (a ∈ (sortS F.asks).filter fun a => decide (a ∈ X1)))) ↔ b ∈ F.asks ∧ (b ∈ X1 ∨ b ∈ X2) := fun b => by
    rw [List.mem_append, List.mem_filter, List.mem_filter, List.mem_filter, mem_sortS, asks_setL, mem_sortS]
    simp only [decide_eq_true_eq, Bool.not_eq_true', decide_eq_false_iff_not, List.mem_filter, mem_sortS]
    constructor
    · rintro (⟨h1, h2⟩ | ⟨⟨h1, h2⟩, _⟩)
      · exact ⟨h1, .inl h2⟩
      · exact ⟨h1, .inr h2⟩
    · rintro ⟨h1, h2⟩
      by_cases h : b ∈ X1
      · exact .inl ⟨h1, h⟩
      · exact .inr ⟨⟨h1, h2.resolve_left h⟩, fun z => h z.2⟩
  refine s_expr (e_methB (PA := fun vs H' => ∃ l', vs = [.ref l'] ∧ H' l' = some (.lst ((sortS (((sortS F.asks).filter fun a => decide (a ∈ X1)) ++ (((sortS (F.setL a ws).asks).filter fun a => decide (a ∈ X2)).filter fun a => !decide (a ∈ (sortS F.asks).filter fun a => decide (a ∈ X1))))).map V.str))) GA (Nat.le_refl _) (kd5.tok ht) (ev 0) o5 rfl (fun H6 k6 Q q' => a_1B (e_sortS TF.sorted (ev 4) (.inl (.inl h5)) hplen) (fun _ _ => rfl) H6 k6 Q fun vs H7 k7 ⟨x, e, l', e2, _, h⟩ => q' vs H7 k7 ⟨l', by rw [e, e2], h⟩)
    fun vs H6 k6 ⟨l', e, h⟩ => ⟨f, d1, d2, d3, d4, d5, F.setL a ws, l', _, by rw [e], hF5.fa.ex k6, .inl (.inl h), fun b hb' => by rw [asks_setL]; exact ((hmem b).mp (mem_sortS.mp hb')).1, rfl, rfl⟩) fun v H6 k6 ⟨F', r1, r2, r3⟩ => ?_
  obtain ⟨dx6, n6, o6⟩ := r3.ob
  have kd6 : Kp B.G [f, d1, d2, d3, d4, d5] H H6 := (kd5.mono (by simp)).trans (k6.mono (by simp))
  have hbq6 : Rd H6 bq (.dK (F.heldL.map fun p => (Sum.inr p.1, osV p.2))) := by
    rw [F.heldL_rd]
    exact .inl (k6.at (k5.at1 hl4 (k4.xat hbq3) (by simp)) (by simp [hq0 _ sf, hq0 _ s4, hq0 _ s5]))
  have hl' : F'.A.length ≤ F.A.length := by
    have := congrArg List.length (asks_runs r1)
    rw [asks_fresh, asks_setL, FSt.len_asks, FSt.len_asks] at this
    rw [this]
    exact Nat.le_refl _
  refine s_ret (e_meth GT (by show 1 ≤ 4; decide) (kd6.tok ht) (ev 0) o6 rfl (a_1 (ev 6)) ⟨f, F', bq, F.heldL, rfl, ⟨d1, d2, d3, d4, d5, r3⟩, hbq6, by rw [FSt.len_heldL]; omega, rfl, rfl⟩) fun v H7 k7 p7 => hD _ _ (kd6.then k7) ⟨x, hx, .inr ⟨X1, Y1, X2, Y2, _, F', hX1 a (by simp), hc1, hX2, hc2, fun b => by rw [mem_sortS]; exact hmem b, r1, r2, ⟨r3.ex k7, ?_, ?_⟩, p7⟩⟩
  · exact (hF5.u1.at k6 (by simp [Ne.symm f1, n14, n15])).ex k7
  · exact (hF5.u2.at k6 (by simp [Ne.symm f2, n24, n25])).ex k7
end
end Pm
end
/-! ## Kq -/
section
set_option Elab.async false
set_option linter.all false
set_option maxRecDepth 100000
set_option maxHeartbeats 2000000
namespace Pm
open PySem L2 PySem.Spec PyProof.Rows
/-! ### tuples that are known to have no dict of their own: t.index -/
def FTup (H : Hp) (p : Addr) (xs : List V) : Prop := ∃ o, H p = some (.frz o (.tup xs)) ∧ o.dict = none
theorem FTup.ex {G : Gt} {H H' : Hp} {p : Addr} {xs : List V} (h : FTup H p xs) (k : Ex G H H') : FTup H' p xs := by
  obtain ⟨o, h1, h2⟩ := h
  exact ⟨o, k.xat h1, h2⟩
theorem FTup.sq {K : PySem.W.Frag} {H : Hp} {p : Addr} {xs : List V} (h : FTup H p xs) : SqT K H p xs := by
  obtain ⟨o, h1, _⟩ := h
  exact .inl (.inr ⟨o, h1⟩)
theorem call_tuple_frz {X : Cx} : CallR X (.type "tuple") (fun xs H Q => ∃ p ys, xs = [.ref p] ∧ SqL X.K H p ys ∧ ∀ l o, H l = none → o.dict = none → Q (.ref l) (L2.upd H l (.frz o (.tup ys)))) := by
  intro pins s σ H xs us Q I r h
  obtain ⟨p, ys, rfl, hq, q⟩ := h
  obtain ⟨u, rfl, rx⟩ := vals1 r
  cases rx
  obtain ⟨its, r', pl, hz⟩ := I.list hq
  have hlen := r'.length
  refine call_tuple_list pl.isList (fun h' kp => ?_) (by simp only [List.size_toArray] <;> omega)
  have I1 : Inv X pins σ H { s with heap := h' } := I.kept (t' := s.toks) kp
  have I2 : Inv X pins σ (L2.upd H h'.objs.size (.frz { cls := .type "tuple", data := .seq its.toArray } (.tup ys))) { s with heap := h'.push { cls := .type "tuple", data := .seq its.toArray } } :=
    I1.laid (t' := s.toks) (fun b o e => Heap.get?_push_of_some _ e) (Nat.le_refl _) (show ObjOk X.prog X.w _ _ _ (.frz _ (.tup ys)) from ⟨Heap.get?_push_size _ rfl, hz, its, r', IsTup.new _ _⟩)
  exact ⟨.ref h'.objs.size, _, I2, rfl, q _ _ (I1.hok.fresh (Nat.le_refl _)) rfl⟩
def tBMT (r : V → List V → Hp → VK → Prop) (to : TE) (t : TA) : TE := fun σ H Q => to σ H fun x H1 => (∃ p xs, x = .ref p ∧ FTup H1 p xs) ∧ t σ H1 fun xs H2 => r x xs H2 Q
theorem pe_bmT {X : Cx} {o e : Expr} {es : List Expr} {to : TE} {t : TA} {name : Str} {apos cpos : Pos} {id : String} {r : V → List V → Hp → VK → Prop} (slot : Slot "tuple" name id) (hty : typeOf (.builtin id) = pure (.type "method_descriptor")) (hm : MtR X id r) (ho : PE X o to) (ha : PA X (e :: es) t)
    (hbase : attributeBase o name X.env (eval o X.env) = eval o X.env)
    (hfew : ((backTo cpos (starEach (e :: es) X.env)).all (fun x => !x.1) && (backToKw cpos (keywordEach [] X.env)).all (fun x => x.1.isSome)
      && decide ((e :: es).length + ([] : List Keyword).length + (if ([] : List Keyword).isEmpty then 0 else 1) < 30)) = true)
    (hline : (apos.endLine == cpos.line) = true) (hs : starEach (e :: es) X.env = (false, eval e X.env) :: starEach es X.env) (hplain : (backTo cpos (starEach es X.env)).any (·.1) = false) :
    PE X (.Call (.Attribute o name apos) (e :: es) [] cpos) (tBMT r to t) := by
  refine ⟨fun pins s σ H Q I h => ?_⟩
  refine wpAny_Call_method_late hbase hfew hline rfl (thn (ho.run pins s σ H _ I h) fun v s1 ⟨x, H1, I1, r1, ty, q1⟩ => ?_)
  obtain ⟨p, xs, rfl, ob, hp, hd⟩ := ty
  cases r1
  obtain ⟨e1, _, its, _, pl⟩ := I1.hok p _ hp
  obtain ⟨o2, e2, hc, _⟩ := pl
  refine ⟨"tuple", id, PySem.F.plainAttrs_tuple, slot, hty, ⟨o2, e2, hc⟩, fun a z => ?_, ?_⟩
  · cases z
    exact ⟨ob, e1, hd⟩
  have hA := ha.run cpos pins s1 σ H1 _ I1 q1
  rw [hs] at hA ⊢
  refine Calls.callWith_builtin (by show (false || (backTo cpos (starEach es X.env)).any (·.1)) = false; rw [hplain] <;> rfl) (Calls.evalArgs_plain ?_)
  exact thn hA fun us s2 ⟨vs, H2, I2, r2, q2⟩ => hm pins s2 σ H2 (.ref p) vs (.ref p) us Q I2 rfl r2 q2
section
variable {C : Ctx} {σ : L2.St} {H : Hp} {e o : Expr} {p1 p2 pos : Pos} {Pa : V → Hp → Prop}
/-- tuple(a list), its own object -/
theorem e_tupleF {xs : List V} (hm : C.mg "tuple" = none) (ha : E C σ H e fun v H' => ∃ q, v = .ref q ∧ H' q = some (.lst xs)) (hg : C.sc.names.lookup ("tuple" : Str) = some .globalImplicit := by rfl)
    (he : ∀ X, Good C X → starEach [e] X.env = (false, eval e X.env) :: starEach [] X.env := by exact fun _ _ => rfl) : E C σ H (.Call (.Name "tuple" p1) [e] [] pos) fun v H' => ∃ l, v = .ref l ∧ H l = none ∧ FTup H' l xs :=
  e_tyB (rr := fun xs H Q => ∃ p ys, xs = [.ref p] ∧ SqL C.K H p ys ∧ ∀ l o, H l = none → o.dict = none → Q (.ref l) (L2.upd H l (.frz o (.tup ys)))) (fun X g => by rw [← g.K]; exact call_tuple_frz) hm (by decide +kernel) (a_1B ha he) (fun vs H1 k1 ⟨x, hv, q, ex, hq⟩ => by
    subst hv ex
    exact fun H2 k2 Q q' => ⟨q, xs, rfl, .inl (.inl (k2.xat hq)), fun l o hl hd => q' _ _ (Ex.new hl) ⟨l, rfl, (k1.t k2).free hl, o, upd_same, hd⟩⟩) (hg := hg) (he := he)
theorem e_tupIx {p : Addr} {ys : List Str} {z : Str} (ho : EV C σ H o (.ref p)) (hq : FTup H p (ys.map V.str)) (ha : EV C σ H e (.str z)) (hz : z ∈ ys)
    (hbase : ∀ X, Good C X → attributeBase o "index" X.env (eval o X.env) = eval o X.env := by exact fun _ _ => rfl)
    (hfew : ∀ X, Good C X → ((backTo p2 (starEach [e] X.env)).all (fun x => !x.1) && (backToKw p2 (keywordEach [] X.env)).all (fun x => x.1.isSome)
      && decide ([e].length + ([] : List Keyword).length + (if ([] : List Keyword).isEmpty then 0 else 1) < 30)) = true := by exact fun _ _ => rfl)
    (hline : (p1.endLine == p2.line) = true := by rfl) (hs : ∀ X, Good C X → starEach [e] X.env = (false, eval e X.env) :: starEach [] X.env := by exact fun _ _ => rfl) (hplain : ∀ X, Good C X → (backTo p2 (starEach [] X.env)).any (·.1) = false := by exact fun _ _ => rfl) :
    EV C σ H (.Call (.Attribute o "index" p1) [e] [] p2) (nI (ys.idxOf z)) :=
  ek_of (t := tBMT (fun x xs H Q => ∃ p, ∃ ys : List Str, ∃ z j, x = .ref p ∧ xs = [.str z] ∧ SqT C.K H p (ys.map V.str) ∧ ys[j]? = some z ∧ (∀ m, m < j → ys[m]? ≠ some z) ∧ Q (.int (j : Nat)) H) (wE C o) (wA C [e])) (fun X g => pe_bmT PySem.F.slot_tuple_index PySem.F.type_tuple_index (by rw [← g.K]; exact mt_tup_index) (pe_w g) (pa_w g) (hbase X g) (hfew X g) hline (hs X g) (hplain X g)) fun H1 k1 Q q => ho H1 k1 _ fun u H2 k2 p2 => by
    subst p2
    refine ⟨⟨p, _, rfl, hq.ex (k1.t k2)⟩, a_1 ha hs H2 (k1.t k2) _ fun vs H3 k3 p3 => ⟨p, ys, z, ys.idxOf z, rfl, p3, (hq.ex ((k1.t k2).t k3)).sq, ?_, ?_, q _ _ (k2.t k3) rfl⟩⟩
    · rw [List.getElem?_eq_getElem (List.idxOf_lt_length_iff.mpr hz)]
      exact congrArg some (List.getElem_idxOf _)
    · intro m hm he
      have h1 : m < ys.length := Nat.lt_trans hm (List.idxOf_lt_length_iff.mpr hz)
      rw [List.getElem?_eq_getElem h1] at he
      have := List.not_of_lt_findIdx (p := (· == z)) (xs := ys) (i := m) hm
      simp at this
      exact this (Option.some.inj he)
end
end Pm
end
/-! ## W31 -/
section
set_option Elab.async false
set_option linter.all false
set_option maxRecDepth 100000
set_option maxHeartbeats 2000000
namespace Pm
open PySem L2
/-! ### Fair: names, as_market, by_numbers -/
def FSt.la (F : FSt) (a : Str) : List Str := match F.A.lookup a with
  | some x => x.l
  | none => []
def FSt.lo (F : FSt) (r : Str) : List Str := match F.R.lookup r with
  | some x => x.o
  | none => []
def numL (rooms : List Str) (l : List Str) : List Nat := (l.filter fun r => decide (r ∈ rooms)).map fun r => rooms.idxOf r
def mktOf (F : FSt) : Mkt := ⟨(sortS F.asks).map fun a => numL (sortS F.rooms) (F.la a), (sortS F.rooms).map fun r => numL (sortS F.asks) (F.lo r), (sortS F.rooms).map fun r => F.seats r⟩
def numsOf (F : FSt) : List (Option Nat) := (sortS F.asks).map fun a => (F.held a).map fun r => (sortS F.rooms).idxOf r
structure FSt.Nd (F : FSt) : Prop where
  a : ∀ p ∈ F.A, p.2.l.Nodup
  r : ∀ p ∈ F.R, p.2.o.Nodup
theorem idx_inj {rooms : List Str} {x y : Str} (h1 : x ∈ rooms) (h2 : y ∈ rooms) (e : rooms.idxOf x = rooms.idxOf y) : x = y := by
  have e1 : rooms[rooms.idxOf x]? = some x := by rw [List.getElem?_eq_getElem (List.idxOf_lt_length_iff.mpr h1)]; exact congrArg some (List.getElem_idxOf _)
  have e2 : rooms[rooms.idxOf y]? = some y := by rw [List.getElem?_eq_getElem (List.idxOf_lt_length_iff.mpr h2)]; exact congrArg some (List.getElem_idxOf _)
  rw [e, e2] at e1
  exact (Option.some.inj e1).symm
theorem nd_numL {rooms l : List Str} (h : l.Nodup) : (numL rooms l).Nodup := by
  unfold numL
  refine List.pairwise_map.mpr (List.Pairwise.imp_of_mem (fun {x y} hx hy ne e => ne ?_) (h.filter _))
  have h1 : x ∈ rooms := by simpa using (List.mem_filter.mp hx).2
  have h2 : y ∈ rooms := by simpa using (List.mem_filter.mp hy).2
  exact idx_inj h1 h2 e
theorem lt_numL {rooms l : List Str} : ∀ n ∈ numL rooms l, n < rooms.length := fun n hn => by
  unfold numL at hn
  obtain ⟨x, hx, rfl⟩ := List.mem_map.mp hn
  exact List.idxOf_lt_length_iff.mpr (by simpa using (List.mem_filter.mp hx).2)
theorem len_numL {rooms l : List Str} : (numL rooms l).length ≤ l.length := by
  unfold numL
  rw [List.length_map]
  exact List.length_filter_le ..
theorem la_ok {F : FSt} (ok : F.Ok) (a : Str) : (F.la a).length ≤ 60 := by
  unfold FSt.la
  cases h : F.A.lookup a with
  | none => simp
  | some x => exact (ok.tA _ (lookup_mem h)).1
theorem lo_ok {F : FSt} (ok : F.Ok) (a : Str) : (F.lo a).length ≤ 60 := by
  unfold FSt.lo
  cases h : F.R.lookup a with
  | none => simp
  | some x => exact (ok.tR _ (lookup_mem h)).1
theorem la_nd {F : FSt} (ok : F.Nd) (a : Str) : (F.la a).Nodup := by
  unfold FSt.la
  cases h : F.A.lookup a with
  | none => simp
  | some x => exact ok.a _ (lookup_mem h)
theorem lo_nd {F : FSt} (ok : F.Nd) (a : Str) : (F.lo a).Nodup := by
  unfold FSt.lo
  cases h : F.R.lookup a with
  | none => simp
  | some x => exact ok.r _ (lookup_mem h)
theorem FSt.len_rooms {F : FSt} : F.rooms.length = F.R.length := by
  unfold FSt.rooms
  rw [List.length_map]
theorem mktOf_ok {F : FSt} (ok : F.Ok) (nd : F.Nd) : (mktOf F).Ok where
  an := fun l hl => by
    obtain ⟨a, ha, rfl⟩ := List.mem_map.mp hl
    refine ⟨nd_numL (la_nd nd a), fun n hn => ?_, Nat.le_trans len_numL (Nat.le_trans (la_ok ok a) (by decide))⟩
    have := lt_numL n hn
    show n < ((sortS F.rooms).map _).length
    rwa [List.length_map]
  rn := fun l hl => by
    obtain ⟨a, ha, rfl⟩ := List.mem_map.mp hl
    refine ⟨nd_numL (lo_nd nd a), fun n hn => ?_, Nat.le_trans len_numL (Nat.le_trans (lo_ok ok a) (by decide))⟩
    have := lt_numL n hn
    show n < ((sortS F.asks).map _).length
    rwa [List.length_map]
  ql := by
    show ((sortS F.rooms).map _).length = ((sortS F.rooms).map _).length
    rw [List.length_map, List.length_map]
  sa := by
    show ((sortS F.asks).map _).length ≤ 100
    rw [List.length_map, (sortS_perm _).length_eq, FSt.len_asks]
    have := ok.sA
    omega
  sr := by
    show ((sortS F.rooms).map _).length ≤ 100
    rw [List.length_map, (sortS_perm _).length_eq, FSt.len_rooms]
    have := ok.sR
    omega
def pFNames2 (B : Bs) (Cf : Addr) : Pre := fun vs H S P => ∃ f F, vs = [.ref f] ∧ FEx B Cf H f F ∧ S = [] ∧ P = fun v H' => ∃ t t1 t2, v = .ref t ∧ SqT B.K H' t [.ref t1, .ref t2] ∧ FTup H' t1 ((sortS F.asks).map V.str) ∧ FTup H' t2 ((sortS F.rooms).map V.str)
theorem pFNames2_ex {B : Bs} {Cf : Addr} : PreEx B.G (pFNames2 B Cf) := fun vs H H' S P k ⟨f, F, h1, h2, h3⟩ => ⟨f, F, h1, h2.ex k, h3⟩
def pAsMkt (B : Bs) (Cf Cw Cm : Addr) : Pre := fun vs H S P => ∃ f F, vs = [.ref f] ∧ FEx B Cf H f F ∧ F.Nd ∧ S = [] ∧ P = fun v H' => ∃ m, v = .ref m ∧ MktAt B Cw Cm H' m (mktOf F)
theorem pAsMkt_ex {B : Bs} {Cf Cw Cm : Addr} : PreEx B.G (pAsMkt B Cf Cw Cm) := fun vs H H' S P k ⟨f, F, h1, h2, h3⟩ => ⟨f, F, h1, h2.ex k, h3⟩
def pByNum (B : Bs) (Cf : Addr) : Pre := fun vs H S P => ∃ f F, vs = [.ref f] ∧ FEx B Cf H f F ∧ (∀ a r, F.held a = some r → r ∈ F.rooms) ∧ S = [] ∧ P = fun v H' => ∃ t, v = .ref t ∧ SqT B.K H' t ((numsOf F).map oV)
theorem pByNum_ex {B : Bs} {Cf : Addr} : PreEx B.G (pByNum B Cf) := fun vs H H' S P k ⟨f, F, h1, h2, h3⟩ => ⟨f, F, h1, h2.ex k, h3⟩
section
variable {B : Bs} {Cf : Addr} (TF : FairC B Cf)
include TF
theorem ok_fNames2 {ff : Addr} {fd : FuncData} {cdv : Value} (Fn : FunC B.K "names" "Fair.names" (dFair 17) ff fd cdv) : FnOk B.P B.w B.K B.mg B.base CX0 1 ff fd ["self"] (spM B.G (pFNames2 B Cf)) := by
  refine def_ok Fn scFair17 (fun vs H SS P ⟨f, F, e, _⟩ => by rw [e]; rfl) fun vs H SS P D ht hp hD _ => ?_
  obtain ⟨f, F, rfl, ⟨d1, d2, d3, d4, d5, hF⟩, rfl, rfl⟩ := hp
  obtain ⟨dx, n, o1⟩ := hF.ob
  obtain ⟨kl, l1, l2⟩ := hF.keysL
  obtain ⟨ko, m1, m2⟩ := hF.keysO
  have hA : F.asks.length < 64 := by
    have := hF.ok.sA
    rw [FSt.len_asks]
    omega
  have hR : F.rooms.length < 64 := by
    have := hF.ok.sR
    rw [FSt.len_rooms]
    omega
  refine s_ret (e_tupB (PA := fun vs H' => ∃ t1 t2, vs = [.ref t1, .ref t2] ∧ FTup H' t1 ((sortS F.asks).map V.str) ∧ FTup H' t2 ((sortS F.rooms).map V.str)) ?_ (fun vs H1 ⟨t1, t2, e, _⟩ => by rw [e]; exact Nat.le_of_ble_eq_true rfl)) fun v H2 k ⟨p, vs, Hx, e, _, _, hp, ⟨t1, t2, e2, h1, h2⟩, _, kx⟩ => hD _ _ k ⟨p, t1, t2, e, .inl (.inl (by rw [hp, e2])), h1.ex kx, h2.ex kx⟩
  refine a_consB (e_tupleF (xs := (sortS F.asks).map V.str) TF.tup (EK.imp (e_sortD TF.sorted (e_fld (ev 0) o1 TF.cl TF.nL rfl) l1 l2 hA) fun v H1 k ⟨q, e, _, h⟩ => ⟨q, e, h⟩)) fun x H1 k1 ⟨t1, e, _, h1⟩ => ?_
  subst e
  exact fun H2 k2 Q q' => a_1B (e_tupleF (xs := (sortS F.rooms).map V.str) TF.tup (EK.imp (e_sortD TF.sorted (e_fld (ev 0) (k1.xat o1) TF.cl TF.nO rfl) (ex_rd k1 m1) m2 hR) fun v H1 k ⟨q, e, _, h⟩ => ⟨q, e, h⟩)) (fun _ _ => rfl) H2 k2 Q fun vs H3 k3 ⟨x, e, t2, e2, _, h2⟩ => q' vs H3 k3 ⟨t1, t2, by rw [e, e2], h1.ex (k2.t k3), h2⟩
theorem ok_byNum {ff : Addr} {fd : FuncData} {cdv : Value} (Fn : FunC B.K "by_numbers" "Fair.by_numbers" (dFair 19) ff fd cdv) (GN : GM B 1 Cf "names" (pFNames2 B Cf)) : FnOk B.P B.w B.K B.mg B.base CX0 2 ff fd ["self"] (spM B.G (pByNum B Cf)) := by
  refine def_ok Fn scFair19 (fun vs H SS P ⟨f, F, e, _⟩ => by rw [e]; rfl) fun vs H SS P D ht hp hD _ => ?_
  obtain ⟨f, F, rfl, ⟨d1, d2, d3, d4, d5, hF⟩, hheld, rfl, rfl⟩ := hp
  obtain ⟨dx, n, o1⟩ := hF.ob
  refine s_asg (e_meth0 GN (Nat.le_refl _) ht (ev 0) o1 rfl ⟨f, F, rfl, ⟨d1, d2, d3, d4, d5, hF⟩, rfl, rfl⟩) fun v H1 k1 ⟨t, t1, t2, e, h0, h1, h2⟩ => ?_
  subst e
  refine ⟨_, eg_tup2 1 2 h0, ?_⟩
  have o1' := k1.xat o1
  have hA : (sortS F.asks).length ≤ 1000000 := by
    rw [(sortS_perm _).length_eq, FSt.len_asks]
    have := hF.ok.sA
    omega
  refine s_ret (e_tupleNew (xs := (numsOf F).map oV) TF.tup (EK.imp (e_lc [("asker", 3)] (lc_V (as := sortS F.asks) (ei_tup (ev := V.str) (ev 1) h1.sq) (fun H2 k => (h1.ex k).sq) (fun _ => true) (fun a => oV ((F.held a).map fun r => (sortS F.rooms).idxOf r)) hA fun a H2 ha k => ?_)) fun v H2 k ⟨D', e, _, h⟩ => ⟨D', e, ?_⟩)) fun v H2 k ⟨p, e, _, h⟩ => hD _ _ (k1.t k) ⟨p, e, .inl (.inl h)⟩
  · obtain ⟨x, hx⟩ := lookup_of_mem (mem_sortS.mp ha)
    have gh := (hF.ex (k1.t k)).hg a
    rw [hx] at gh
    have gh : DGet H2 d4 (.str a) (some (osV x.h)) := gh
    have eh : F.held a = x.h := by unfold FSt.held; rw [hx]; rfl
    refine ⟨_, eg_name 3, rfl, ts_nil, fun _ => ?_⟩
    rw [eh]
    cases hxh : x.h with
    | none =>
      rw [hxh] at gh
      exact e_ifT (T.is (t_k (c_isN (e_dget (e_fld (ev 0) (k.xat o1') TF.cl TF.nH rfl) (ev 3) gh))) rfl) e_non
    | some r =>
      rw [hxh] at gh
      exact e_ifF (T.is (t_k (c_isN (e_dget (e_fld (ev 0) (k.xat o1') TF.cl TF.nH rfl) (ev 3) gh))) rfl) (e_tupIx (ev 2) (h2.ex k) (e_dget (e_fld (ev 0) (k.xat o1') TF.cl TF.nH rfl) (ev 3) gh) (mem_sortS.mpr (hheld a r (by rw [eh, hxh]))))
  · rw [h, List.filter_eq_self.mpr (fun _ _ => rfl)]
    unfold numsOf
    rw [List.map_map]
    rfl
theorem ok_asMkt {Cw Cm : Addr} {ff : Addr} {fd : FuncData} {cdv : Value} (Fn : FunC B.K "as_market" "Fair.as_market" (dFair 18) ff fd cdv) (GN : GM B 1 Cf "names" (pFNames2 B Cf)) (GK' : GK B 5 "Market" Cm (pMktI B Cw Cm)) : FnOk B.P B.w B.K B.mg B.base CX0 7 ff fd ["self"] (spM B.G (pAsMkt B Cf Cw Cm)) := by
  refine def_ok Fn scFair18 (fun vs H SS P ⟨f, F, e, _⟩ => by rw [e]; rfl) fun vs H SS P D ht hp hD _ => ?_
  obtain ⟨f, F, rfl, ⟨d1, d2, d3, d4, d5, hF⟩, hnd, rfl, rfl⟩ := hp
  obtain ⟨dx, n, o1⟩ := hF.ob
  refine s_asg (e_meth0 GN (by show 1 ≤ 6; decide) ht (ev 0) o1 rfl ⟨f, F, rfl, ⟨d1, d2, d3, d4, d5, hF⟩, rfl, rfl⟩) fun v H1 k1 ⟨t, t1, t2, e, h0, h1, h2⟩ => ?_
  subst e
  refine ⟨_, eg_tup2 3 4 h0, ?_⟩
  have o1' := k1.xat o1
  have hA : (sortS F.asks).length ≤ 1000000 := by
    rw [(sortS_perm _).length_eq, FSt.len_asks]
    have := hF.ok.sA
    omega
  have hR : (sortS F.rooms).length ≤ 1000000 := by
    rw [(sortS_perm _).length_eq, FSt.len_rooms]
    have := hF.ok.sR
    omega
  refine s_setLc (i := 1) [("asker", 5)] (lc_R (as := sortS F.asks) (ei_tup (ev := V.str) (ev 3) h1.sq) (fun H2 k => (h1.ex k).sq) (fun _ => true) (fun D' a v H' => ∃ q, v = .ref q ∧ q ≠ D' ∧ H' q = some (.lst ((numL (sortS F.rooms) (F.la a)).map nI))) (fun D' a v H2 H3 zs hz k ⟨q, e, ne, h⟩ => ⟨q, e, ne, k.at h (by simpa using ne)⟩) hA fun D' a x H2 zs ha k hD1 hD2 e => ?_) fun v H2 k2 ⟨la, vas, e, _, hla, hP⟩ => ?_
  · subst e
    obtain ⟨x, hx⟩ := lookup_of_mem (mem_sortS.mp ha)
    obtain ⟨tl, g1, g2⟩ := (hF.ex (k1.t k)).lg hx
    have ela : F.la a = x.l := by unfold FSt.la; rw [hx]
    refine ⟨_, eg_name 5, rfl, ts_nil, fun _ => EK.imp (e_lc [("room", 6)] (lc_V (as := x.l) (ei_tup (ev := V.str) (e_dget (e_fld (ev 0) (k.xat o1') TF.cl TF.nL rfl) (ev 5) g1) g2) (fun H3 k3 => ex_t k3 g2) (fun r => decide (r ∈ sortS F.rooms)) (fun r => nI ((sortS F.rooms).idxOf r)) (Nat.le_trans (hF.ok.tA _ (lookup_mem hx)).1 (by decide)) fun r H3 hr k3 => ⟨_, eg_name 6, rfl, ts_one (t_k (CM.is (c_inSeq (ev 6) (ev 4) (.inr (h2.ex (k.t k3)).sq) rfl flat_str) inV_str)), fun hp => e_tupIx (ev 4) (h2.ex (k.t k3)) (ev 6) (of_decide_eq_true hp)⟩)) fun v H3 k3 ⟨q, e, hq, h⟩ => ⟨q, e, fun z => ?_, ?_⟩⟩
    · rw [z, hD2] at hq
      cases hq
    · rw [h, ela]
      unfold numL
      rw [List.map_map]
      rfl
  subst e
  have k12 := k1.t k2
  rw [List.filter_eq_self.mpr (fun _ _ => rfl)] at hP
  refine s_setLc (i := 2) [("room", 6)] (lc_R (as := sortS F.rooms) (ei_tup (ev := V.str) (ev 4) (h2.ex k2).sq) (fun H3 k => ((h2.ex k2).ex k).sq) (fun _ => true) (fun D' r v H' => ∃ q, v = .ref q ∧ q ≠ D' ∧ H' q = some (.lst ((numL (sortS F.asks) (F.lo r)).map nI))) (fun D' a v H2 H3 zs hz k ⟨q, e, ne, h⟩ => ⟨q, e, ne, k.at h (by simpa using ne)⟩) hR fun D' r x H3 zs hr k hD1 hD2 e => ?_) fun v H3 k3 ⟨lr, vrs, e, _, hlr, hPr⟩ => ?_
  · subst e
    obtain ⟨y, hy⟩ := lookup_of_mem (mem_sortS.mp hr)
    obtain ⟨tl, g1, g2⟩ := (hF.ex (k12.t k)).og hy
    have elo : F.lo r = y.o := by unfold FSt.lo; rw [hy]
    refine ⟨_, eg_name 6, rfl, ts_nil, fun _ => EK.imp (e_lc [("asker", 5)] (lc_V (as := y.o) (ei_tup (ev := V.str) (e_dget (e_fld (ev 0) ((k2.t k).xat o1') TF.cl TF.nO rfl) (ev 6) g1) g2) (fun H3 k3 => ex_t k3 g2) (fun a => decide (a ∈ sortS F.asks)) (fun a => nI ((sortS F.asks).idxOf a)) (Nat.le_trans (hF.ok.tR _ (lookup_mem hy)).1 (by decide)) fun a H4 ha k3 => ⟨_, eg_name 5, rfl, ts_one (t_k (CM.is (c_inSeq (ev 5) (ev 3) (.inr (h1.ex (k2.t (k.t k3))).sq) rfl flat_str) inV_str)), fun hp => e_tupIx (ev 3) (h1.ex (k2.t (k.t k3))) (ev 5) (of_decide_eq_true hp)⟩)) fun v H4 k3 ⟨q, e, hq, h⟩ => ⟨q, e, fun z => ?_, ?_⟩⟩
    · rw [z, hD2] at hq
      cases hq
    · rw [h, elo]
      unfold numL
      rw [List.map_map]
      rfl
  subst e
  rw [List.filter_eq_self.mpr (fun _ _ => rfl)] at hPr
  have k13 := k12.t k3
  refine s_ret (e_makeB (PA := fun vs H' => ∃ ls, vs = [.ref la, .ref lr, .ref ls] ∧ H' ls = some (.lst (((sortS F.rooms).map fun r => F.seats r).map nI))) (PP := fun m H' => MktAt B Cw Cm H' m (mktOf F)) GK' (Nat.le_refl _) (k13.tok ht) (a_consV (ev 1) (PA' := fun vs H' => ∃ ls, vs = [.ref lr, .ref ls] ∧ H' ls = some (.lst (((sortS F.rooms).map fun r => F.seats r).map nI))) (a_consV (ev 2) (PA' := fun vs H' => ∃ ls, vs = [.ref ls] ∧ H' ls = some (.lst (((sortS F.rooms).map fun r => F.seats r).map nI))) (fun H4 k4 Q q' => a_1B (e_lc [("room", 6)] (lc_V (as := sortS F.rooms) (ei_tup (ev := V.str) (ev 4) (h2.ex (k2.t k3)).sq) (fun H5 k => ((h2.ex (k2.t k3)).ex k).sq) (fun _ => true) (fun r => nI (F.seats r)) hR fun r H5 hr k => ?_)) (fun _ _ => rfl) H4 k4 Q fun vs H5 k5 ⟨x, e, ls, e2, _, h⟩ => q' vs H5 k5 ⟨ls, by rw [e, e2], ?_⟩) fun vs H4 ⟨ls, e, h⟩ => ⟨ls, by rw [e], h⟩) fun vs H4 ⟨ls, e, h⟩ => ⟨ls, by rw [e], h⟩)
    fun vs H4 p dx H5 k4 ⟨ls, e, hls⟩ hp0 k5 hp5 => ⟨p, dx, la, lr, ls, mktOf F, vas, vrs, by rw [e], hp5, .inl (.inl (((k3.t k4).t k5).xat hla)), ?_, .inl (.inl ((k4.t k5).xat hlr)), ?_, .inl (.inl (k5.xat hls)), mktOf_ok hF.ok hnd, rfl, rfl⟩) fun v H5 k5 ⟨m, e, _, h⟩ => hD _ _ (k13.t k5) ⟨m, e, h⟩
  · obtain ⟨y, hy⟩ := lookup_of_mem (mem_sortS.mp hr)
    have gs := (hF.ex (k13.t k)).sg r
    rw [hy] at gs
    have es : F.seats r = y.c := by unfold FSt.seats; rw [hy]
    refine ⟨_, eg_name 6, rfl, ts_nil, fun _ => ?_⟩
    rw [es]
    exact e_dget (e_fld (ev 0) (((k2.t k3).t k).xat o1') TF.cl TF.nS rfl) (ev 6) gs
  · rw [h, List.filter_eq_self.mpr (fun _ _ => rfl), List.map_map]
    rfl
  · exact paired_map (paired_imp hP fun a v ⟨q, e, _, h⟩ => ⟨q, e, .inl (.inl (((k3.t k4).t k5).xat h))⟩)
  · exact paired_map (paired_imp hPr fun a v ⟨q, e, _, h⟩ => ⟨q, e, .inl (.inl ((k4.t k5).xat h))⟩)
end
end Pm
end
/-! ## Lt -/
section
set_option Elab.async false
set_option linter.all false
set_option maxRecDepth 100000
set_option maxHeartbeats 2000000
namespace Pm
open PySem L2 PySem.Spec PyProof.Rows LamX LX
/-! ### what(), told -/
def wTold (K : PySem.W.Frag) (Q : VK) : List (Addr × Str) → Value → Hp → Prop
  | [], _, _ => False
  | (c, w) :: r, cls, H => ∃ b, PySem.W.exmOne K cls (.ref c) = some b ∧ (b = true → Q (.str w) H) ∧ (b = false → wTold K Q r cls H)
def TTm (K : PySem.W.Frag) (l : List (Addr × Str)) : (XK → Hp → VK → Prop) → Hp → VK → Prop := fun tl H Q => tl (fun cls _ H' => wTold K Q l cls H') H Q
theorem told_gives4 {X : Cx} {Ng : List Str} {x a q e1 e2 e3 e4 w1 w2 w3 w4 : Str} {sg : Scope} {g C1 C2 C3 C4 : Addr} {cdg : Value} {j1 j2 j3 j4 : Nat} {p1 p2 p3 p8 a1 a2 a3 a4 b1 b2 b3 b4 c1 c2 c3 c4 d1 d2 d3 d4 : Pos}
    (g1 : sg.names.lookup e1 = some .globalImplicit) (g2 : sg.names.lookup e2 = some .globalImplicit) (g3 : sg.names.lookup e3 = some .globalImplicit) (g4 : sg.names.lookup e4 = some .globalImplicit)
    (m1 : X.mg e1 = some (.ref C1)) (m2 : X.mg e2 = some (.ref C2)) (m3 : X.mg e3 = some (.ref C3)) (m4 : X.mg e4 = some (.ref C4))
    (n1 : (e1 == ("__debug__" : Str)) = false) (n2 : (e2 == ("__debug__" : Str)) = false) (n3 : (e3 == ("__debug__" : Str)) = false) (n4 : (e4 == ("__debug__" : Str)) = false) (h0 : ∀ f : Addr, (L2.start Ng [V.ref f])[0]? = some (some (V.ref f))) :
    GivesTo X Ng x sg g cdg [.Try [.Return (some (.Call (.Name a p1) [] [] p2)) p3] [.ExceptHandler (some (.Name e1 a1)) none [.Return (some (.Constant (.str w1) j1 b1)) c1] d1, .ExceptHandler (some (.Name e2 a2)) none [.Return (some (.Constant (.str w2) j2 b2)) c2] d2, .ExceptHandler (some (.Name e3 a3)) none [.Return (some (.Constant (.str w3) j3 b3)) c3] d3, .ExceptHandler (some (.Name e4 a4)) none [.Return (some (.Constant (.str w4) j4 b4)) c4] d4] [] [] p8] a q (TTm X.K [(C1, w1), (C2, w2), (C3, w3), (C4, w4)]) := by
  intro f c' s H Q tl act hc h
  have gl1 : Gl (cxOf C8.CX0 X.prog X.w X.K X.mg X.base Ng x sg g cdg X.A X.stack s H C8.E0).nox e1 := g1
  have gl2 : Gl (cxOf C8.CX0 X.prog X.w X.K X.mg X.base Ng x sg g cdg X.A X.stack s H C8.E0).nox e2 := g2
  have gl3 : Gl (cxOf C8.CX0 X.prog X.w X.K X.mg X.base Ng x sg g cdg X.A X.stack s H C8.E0).nox e3 := g3
  have gl4 : Gl (cxOf C8.CX0 X.prog X.w X.K X.mg X.base Ng x sg g cdg X.A X.stack s H C8.E0).nox e4 := g4
  refine ⟨_, pss_one (ps_try_many (X := (cxOf C8.CX0 X.prog X.w X.K X.mg X.base Ng x sg g cdg X.A X.stack s H C8.E0).nox)
      (tb := fun W D σ H => ∃ Ech : XK, (∀ cls d σ' H', Ech cls d H' → W cls d σ' H') ∧ σ[0]? = some (some (.ref f)) ∧ H c' = some (CodeO c' q) ∧ tl Ech H D.rt)
      rfl rfl LamX.takes0 (fun W pn xe tk _ => ?_)
      (.cons ⟨gl1, n1, .inl m1⟩ (fun a oe cls d pn _ _ => pss_one (ps_ret pe_str)) (.cons ⟨gl2, n2, .inl m2⟩ (fun a oe cls d pn _ _ => pss_one (ps_ret pe_str)) (.cons ⟨gl3, n3, .inl m3⟩ (fun a oe cls d pn _ _ => pss_one (ps_ret pe_str)) (.cons ⟨gl4, n4, .inl m4⟩ (fun a oe cls d pn _ _ => pss_one (ps_ret pe_str)) .nil))))), ?_⟩
  · refine ⟨fun pins s' σ H' D I h' => ?_⟩
    obtain ⟨Ech, hW, h1, h2, h3⟩ := h'
    have hp := act W pn xe Ech p1 p2 tk hW
    have hq := pss_one (ps_ret (pos := p3) hp)
    exact hq.run pins s' σ H' D I ⟨h1, h2, h3⟩
  · refine ⟨fun cls _ H' => wTold X.K Q [(C1, w1), (C2, w2), (C3, w3), (C4, w4)] cls H', fun cls d σ' H' hw => ?_, h0 f, hc, h⟩
    obtain ⟨k1, x1, y1, z1⟩ := hw
    refine ⟨k1, x1, fun hb a _ => y1 hb, fun hb => ?_⟩
    obtain ⟨k2, x2, y2, z2⟩ := z1 hb
    refine ⟨k2, x2, fun hb a _ => y2 hb, fun hb => ?_⟩
    obtain ⟨k3, x3, y3, z3⟩ := z2 hb
    refine ⟨k3, x3, fun hb a _ => y3 hb, fun hb => ?_⟩
    obtain ⟨k4, x4, y4, z4⟩ := z3 hb
    exact ⟨k4, x4, fun hb a _ => y4 hb, fun hb => z4 hb⟩
abbrev Ctx.lam (C : Ctx) (scope : Scope) (k : Nat) (E : XK) : Ctx := { C with sc := scope, W := fun cls d _ H => E cls d H, cg := false, k := k }
theorem good_lam {C : Ctx} {X : Cx} {scope : Scope} {k : Nat} {E : XK} {A : Around} {outer : List Env} {s : Shared} {H : Hp} {f c' : Addr} (g : Good C X) (L : LamS C.sc scope) (hr : Room k (A.deeper (lamEnv X scope s.heap.objs.size f c'))) : Good (C.lam scope k E) (lamCx X A outer s H E scope f c') where
  P := g.P
  w := g.w
  K := g.K
  mg := g.mg
  base := g.base
  N := g.N
  nd := g.nd
  calm := rfl
  room := hr
  sc := fun x => .inl rfl
  fn := fun y h => by
    rcases h with h | h
    · exact absurd rfl (L.own _ (PySem.mem_of_lookup h)).1
    · exact absurd rfl (L.own _ (PySem.mem_of_lookup h)).2
  cg := fun z => nomatch z
  tk := by
    have := takes_of (X := lamCx X A outer s H E scope f c') (E := E) rfl rfl rfl rfl
    exact this
  kind := L.kind
  po := passes_of rfl
theorem LamS_good {C : Ctx} {X : Cx} {scope : Scope} (g : Good C X) (L : LamS C.sc scope) : LamS X.env.scope scope := by
  refine ⟨L.kind, L.co, L.gen, L.own, fun y hy e => ?_⟩
  rcases g.sc y.1 with z | ⟨_, z⟩
  · rcases L.free y hy e with w | w
    · exact .inl (z.trans w)
    · exact .inr (z.trans w)
  · exact .inl z
/-- the def _law_told and its classes, as the top left them -/
structure TlC (B : Bs) (Cd Cp Cn Cf : Addr) : Prop where
  ex : ∃ g fd cdv, FunC B.K "_law_told" "_law_told" (top 38) g fd cdv ∧ B.mg "_law_told" = some (.ref g) ∧ L2.Binds B.K fd ["what"] []
  m1 : B.mg "BadDeed" = some (.ref Cd)
  m2 : B.mg "BadPaper" = some (.ref Cp)
  m3 : B.mg "NoSuch" = some (.ref Cn)
  m4 : B.mg "MarketFault" = some (.ref Cf)
def TlC.l (Cd Cp Cn Cf : Addr) : List (Addr × Str) := [(Cd, "deed"), (Cp, "paper"), (Cn, "no such"), (Cf, "fault")]
/-- the first clause that takes cls -/
def Tells (K : PySem.W.Frag) : List (Addr × Str) → Value → Str → Prop
  | [], _, _ => False
  | (c, w) :: r, cls, u => (PySem.W.exmOne K cls (.ref c) = some true ∧ u = w) ∨ (PySem.W.exmOne K cls (.ref c) = some false ∧ Tells K r cls u)
theorem wTold_of {K : PySem.W.Frag} {Q : VK} {H : Hp} {cls : Value} {u : Str} : ∀ {l : List (Addr × Str)}, Tells K l cls u → Q (.str u) H → wTold K Q l cls H
  | [], h, _ => h.elim
  | (c, w) :: r, h, q => by
    rcases h with ⟨h, rfl⟩ | ⟨h, h2⟩
    · exact ⟨true, h, fun _ => q, fun z => nomatch z⟩
    · exact ⟨false, h, fun z => (nomatch z), fun _ => wTold_of h2 q⟩
section
variable {C : Ctx} {σ : L2.St} {H : Hp} {body : Expr} {scope : Scope} {params : Arguments} {p1 p2 pos : Pos} {SS : List Addr} {P : V → Hp → Prop} {PX : Value → Hp → Prop} {Cd Cp Cn Cf Pt c : Addr}
theorem e_told (TT : TlC C.toBs Cd Cp Cn Cf) (GG : GT C Pt c "<lambda>") (k : Nat) (hk : k + 2 ≤ C.k) (ht : TOk C.G H)
    (hb : ∀ H1 (E' : XK), Ex C.G H H1 → (∀ c H', Kp C.G SS H1 H' → PX c H' → E' c none H') → EK (C.lam scope k E') SS σ H1 body P)
    (hX : ∀ c H', Kp C.G SS H H' → PX c H' → ∃ u, Tells C.K (TlC.l Cd Cp Cn Cf) c u ∧ P (.str u) H')
    (L : LamS C.sc scope := by exact LamX.lamS_by (by (try dsimp only [ctx, ctxX, Ctx.blk, Ctx.gen]); decide +kernel)) (hg : C.sc.names.lookup ("_law_told" : Str) = some .globalImplicit := by rfl) (hdef : ∀ X, Good C X → defaultsOf params X.env = ([], []) := by exact fun _ _ => rfl)
    (hbind : ∀ (q : Str) (cl : List (Str × Addr)) (pm cv ctv : Value), bindArgs (PySem.W.kla_fn "<lambda>" q params body scope cl pm cv ctv) ⟨[], []⟩ = pure [] := by intros; rfl) :
    EK C SS σ H (.Call (.Name "_law_told" p1) [.Lambda params body scope p2] [] pos) P := by
  obtain ⟨g, fd, cdv, F, hm, hbd⟩ := TT.ex
  obtain ⟨oc, od, kV, doc, pm, an, ct, osl, rfl, lk, hcd⟩ := F.ex
  refine ek_of (t := tLam3 C.G (TTm C.K (TlC.l Cd Cp Cn Cf)) fun E => wE (C.lam scope k E) body) (fun X gd => ?_) fun H1 k1 Q q => ?_
  · refine pe_lamcall3 (k := k) (Ng := ["what"]) (gd.gl hg) (by rw [gd.mg]; exact hm) (by rw [gd.K]; exact F.kp) (by rw [gd.K]; exact lk) (by rw [gd.K]; exact hcd) (by rw [gd.K]; exact hbd) sc38 rfl (.inl rfl) ?_ (by rw [gd.base, gd.mg]; exact GG.TB) ((gd.cg GG.cg).1.trans GG.code) (by rw [(gd.cg GG.cg).2]; exact GG.hm) (by rw [(gd.cg GG.cg).2]; exact GG.hu) (gd.room.mono hk) (LamS_good gd L) (hdef X gd) hbind fun A outer s H E f c' hr => pe_w (good_lam gd L hr)
    rw [← gd.K]
    exact told_gives4 rfl rfl rfl rfl (by rw [gd.mg]; exact TT.m1) (by rw [gd.mg]; exact TT.m2) (by rw [gd.mg]; exact TT.m3) (by rw [gd.mg]; exact TT.m4) (by decide) (by decide) (by decide) (by decide) (fun f => rfl)
  · refine ⟨k1.tok ht, fun H2 eT T2 => ?_⟩
    have k2 : Ex C.G H1 H2 := Ex.ofT eT fun _ => T2
    refine hb H2 _ (k1.t k2) (fun c H' k3 hp => ?_) H2 Kp.refl Q fun v H3 k3 p3 => q v H3 (Kp.pre k2 k3) p3
    obtain ⟨u, hu, pu⟩ := hX c H' (Kp.pre (k1.t k2) k3) hp
    exact wTold_of hu (q _ _ (Kp.pre k2 k3) pu)
end
end Pm
end
/-! ## Kr -/
section
set_option Elab.async false
set_option linter.all false
set_option maxRecDepth 100000
set_option maxHeartbeats 2000000
namespace Pm
open PySem L2
/-! ### arguments and operands that change things -/
def AK (C : Ctx) (SS : List Addr) (σ : L2.St) (H : Hp) (es : List Expr) (PA : List V → Hp → Prop) : Prop := ∀ H1, Ex C.G H H1 → ∀ Q : List V → Hp → Prop, (∀ vs H2, Kp C.G SS H1 H2 → PA vs H2 → Q vs H2) → wA C es σ H1 Q
section
variable {C : Ctx} {σ σ' : L2.St} {H H' : Hp} {SS SS' : List Addr} {e a b c o tg iter elt : Expr} {es ifs : List Expr} {P P' Pa : V → Hp → Prop} {x y z v w : V} {r : R2} {pos p1 p2 p3 p4 p5 : Pos} {k : Nat} {n m : Str} {D : Ends} {rest body : List Stmt} {PA : List V → Hp → Prop} {p Cl dx : Addr} {fs : List (Str × V)} {pre : Pre}
theorem EK.sub (h : EK C SS σ H e P) (i : ∀ s ∈ SS, s ∈ SS') : EK C SS' σ H e P := fun H1 k Q q => h H1 k Q fun v H2 k2 p => q v H2 (k2.mono i) p
theorem ak_of (h : A C σ H es PA) : AK C SS σ H es PA := fun H1 k Q q => h H1 k Q fun vs H2 k2 p => q vs H2 k2.ex p
theorem AK.mono (h : AK C SS σ H es PA) (k : Ex C.G H H') : AK C SS σ H' es PA := fun H1 q => h H1 (k.t q)
theorem AK.imp {PA' : List V → Hp → Prop} (h : AK C SS σ H es PA) (i : ∀ vs H2, Kp C.G SS H H2 → PA vs H2 → PA' vs H2) : AK C SS σ H es PA' := fun H1 k Q q => h H1 k Q fun vs H2 k2 p => q vs H2 k2 (i vs H2 (Kp.pre k k2) p)
theorem A.imp {PA' : List V → Hp → Prop} (h : A C σ H es PA) (i : ∀ vs H2, Ex C.G H H2 → PA vs H2 → PA' vs H2) : A C σ H es PA' := fun H1 k Q q => h H1 k Q fun vs H2 k2 p => q vs H2 k2 (i vs H2 (k.t k2) p)
theorem ak_nil : AK C SS σ H [] (fun vs _ => vs = []) := ak_of a_nil
theorem ak_cons (ha : EK C SS σ H a Pa) (hr : ∀ x H1, Kp C.G SS H H1 → Pa x H1 → AK C SS σ H1 es fun vs H2 => PA (x :: vs) H2) (hs : ∀ X, Good C X → starEach (a :: es) X.env = (false, eval a X.env) :: starEach es X.env := by exact fun _ _ => rfl) : AK C SS σ H (a :: es) PA := fun H1 k Q q =>
  ⟨tCons (wE C a) (wA C es), fun X g => pa_cons (pe_w g) (pa_w g) (hs X g), ha H1 k _ fun x H2 k2 p2 => hr x H2 (Kp.pre k k2) p2 H2 Kp.refl _ fun vs H3 k3 p3 => q _ H3 (k2.trans k3) p3⟩
theorem ak_1 (ha : EK C SS σ H a Pa) (hs : ∀ X, Good C X → starEach [a] X.env = (false, eval a X.env) :: starEach [] X.env := by exact fun _ _ => rfl) : AK C SS σ H [a] (fun vs H' => ∃ x, vs = [x] ∧ Pa x H') := fun H1 k Q q =>
  ⟨tCons (wE C a) tNil, fun X g => pa_cons (pe_w g) pa_nil (hs X g), ha H1 k _ fun x H2 k2 p2 => q _ H2 k2 ⟨x, rfl, p2⟩⟩
theorem e_tupK {x1} (h : AK C SS σ H es PA) (hl : ∀ vs H1, PA vs H1 → vs.length ≤ 1000000) : EK C SS σ H (.Tuple es x1 pos) fun u H' => ∃ p vs H1, u = .ref p ∧ H p = none ∧ H1 p = none ∧ H' p = some (.tup vs) ∧ PA vs H1 ∧ Kp C.G SS H H1 ∧ Ex C.G H1 H' :=
  ek_of (fun X g => pe_tup (pa_w g)) fun H1 k Q q => h H1 k _ fun us H2 k2 p2 =>
    ⟨sz_of (hl us H2 p2), fun p hp => q _ _ (k2.then (Ex.new hp)) ⟨p, us, H2, rfl, (Kp.pre k k2).free hp, hp, upd_same, p2, Kp.pre k k2, Ex.new hp⟩⟩
theorem e_lstK (h : AK C SS σ H es PA) (hl : ∀ vs H1, PA vs H1 → vs.length ≤ 1000000) : EK C SS σ H (.List es pos) fun u H' => ∃ p vs H1, u = .ref p ∧ H p = none ∧ H1 p = none ∧ H' p = some (.lst vs) ∧ PA vs H1 ∧ Kp C.G SS H H1 ∧ Ex C.G H1 H' :=
  ek_of (fun X g => pe_lst (pa_w g)) fun H1 k Q q => h H1 k _ fun us H2 k2 p2 =>
    ⟨sz_of (hl us H2 p2), fun p hp => q _ _ (k2.then (Ex.new hp)) ⟨p, us, H2, rfl, (Kp.pre k k2).free hp, hp, upd_same, p2, Kp.pre k k2, Ex.new hp⟩⟩
theorem e_opK {op : Operator} {Pb : V → Hp → V → Hp → Prop} (ho : ∀ X, Good C X → OpR X (binaryOp op) r) (ha : EK C SS σ H a Pa) (hb : ∀ x H1, Kp C.G SS H H1 → Pa x H1 → EK C SS σ H1 b (Pb x H1))
    (hr : ∀ x y H1 H2, Kp C.G SS H H1 → Pa x H1 → Kp C.G SS H1 H2 → Pb x H1 y H2 → RV C.G [] r x y H2 P) : EK C SS σ H (.BinOp a op b pos) P :=
  ek_of (fun X g => pe_op (ho X g) (pe_w g) (pe_w g)) fun H1 k Q q => ha H1 k _ fun x H2 k2 p2 => hb x H2 (Kp.pre k k2) p2 H2 Kp.refl _ fun y H3 k3 p3 => hr x y H2 H3 (Kp.pre k k2) p2 k3 p3 H3 Kp.refl Q fun v H4 k4 p4 => q v H4 ((k2.trans k3).then k4) p4
theorem e_ixK {Pb : V → Hp → V → Hp → Prop} (ha : EK C SS σ H a Pa) (hb : ∀ x H1, Kp C.G SS H H1 → Pa x H1 → EK C SS σ H1 b (Pb x H1))
    (hr : ∀ x y H1 H2, Kp C.G SS H H1 → Pa x H1 → Kp C.G SS H1 H2 → Pb x H1 y H2 → ∃ q xs i v, x = .ref q ∧ y = .int i ∧ SqL C.K H2 q xs ∧ atI xs i = some v ∧ P v H2) (hp : PlainIx b := by exact fun _ _ => rfl) : EK C SS σ H (.Subscript a b pos) P :=
  ek_of (t := tOp (rIxL C.K) (wE C a) (wE C b)) (fun X g => by rw [← g.K]; exact pe_ix ix_list (pe_w g) (pe_w g) hp) fun H1 k Q q => ha H1 k _ fun x H2 k2 p2 => hb x H2 (Kp.pre k k2) p2 H2 Kp.refl _ fun y H3 k3 p3 => by
    obtain ⟨l, xs, i, v, e1, e2, h1, h2, h3⟩ := hr x y H2 H3 (Kp.pre k k2) p2 k3 p3
    exact ⟨l, xs, i, v, e1, e2, h1, h2, q v H3 (k2.trans k3) h3⟩
theorem e_callK (F : GF C.toBs k n pre) (hk : k ≤ C.k) (ht : TOk C.G H) (ha : AK C SS σ H (e :: es) PA) (hp : ∀ vs H1, Kp C.G SS H H1 → PA vs H1 → ∃ S' P', pre vs H1 S' P' ∧ (∀ s ∈ S', s ∈ SS) ∧ ∀ v H', Kp C.G S' H1 H' → P' v H' → P v H') (hg : C.sc.names.lookup n = some .globalImplicit := by rfl) (hdb : (n == ("__debug__" : Str)) = false := by decide)
    (he : ∀ X, Good C X → starEach (e :: es) X.env = (false, eval e X.env) :: starEach es X.env := by exact fun _ _ => rfl) (hpl : ∀ X, Good C X → (backTo pos (starEach es X.env)).any (·.1) = false := by exact fun _ _ => rfl) : EK C SS σ H (.Call (.Name n p1) (e :: es) [] pos) P := by
  obtain ⟨f, fd, ps, hm, kp, hb, F'⟩ := F.ex
  refine ek_of (t := tCall (spM C.G pre) [] E0 (wA C (e :: es))) (fun X g => pe_call (CX := CX0) (g.fn' F') (g.room.mono hk) (g.gl hg) (by rw [g.mg]; exact hm) (by rw [g.K]; exact kp) (by rw [g.K]; exact hb) .nil pass0 (pa_w g) hdb (he X g) (hpl X g)) fun H1 k1 Q q => ?_
  refine ha H1 k1 _ fun vs H2 k2 p2 => ?_
  rw [List.append_nil]
  obtain ⟨S', P', h1, h2, h3⟩ := hp vs H2 (Kp.pre k1 k2) p2
  exact ⟨(Kp.pre k1 k2).tok ht, S', P', h1, fun v H3 k3 p3 => q v H3 (k2.trans (k3.mono h2)) (h3 v H3 k3 p3)⟩
/-- a call without promise on what is new: what may change is known late -/
theorem e_callW (F : GF C.toBs k n pre) (hk : k ≤ C.k) (ht : TOk C.G H) (ha : A C σ H (e :: es) PA) (hp : ∀ vs H1, Ex C.G H H1 → PA vs H1 → ∃ S' P', pre vs H1 S' P' ∧ (∀ s ∈ S', s ∈ SS) ∧ ∀ v H', Kp C.G S' H1 H' → P' v H' → P v H') (hg : C.sc.names.lookup n = some .globalImplicit := by rfl) (hdb : (n == ("__debug__" : Str)) = false := by decide)
    (he : ∀ X, Good C X → starEach (e :: es) X.env = (false, eval e X.env) :: starEach es X.env := by exact fun _ _ => rfl) (hpl : ∀ X, Good C X → (backTo pos (starEach es X.env)).any (·.1) = false := by exact fun _ _ => rfl) : EK C SS σ H (.Call (.Name n p1) (e :: es) [] pos) P := by
  obtain ⟨f, fd, ps, hm, kp, hb, F'⟩ := F.ex
  refine ek_of (t := tCall (spM C.G pre) [] E0 (wA C (e :: es))) (fun X g => pe_call (CX := CX0) (g.fn' F') (g.room.mono hk) (g.gl hg) (by rw [g.mg]; exact hm) (by rw [g.K]; exact kp) (by rw [g.K]; exact hb) .nil pass0 (pa_w g) hdb (he X g) (hpl X g)) fun H1 k1 Q q => ?_
  refine ha H1 k1 _ fun vs H2 k2 p2 => ?_
  rw [List.append_nil]
  obtain ⟨S', P', h1, h2, h3⟩ := hp vs H2 (k1.t k2) p2
  exact ⟨(k1.t k2).tok ht, S', P', h1, fun v H3 k3 p3 => q v H3 (Kp.pre k2 (k3.mono h2)) (h3 v H3 k3 p3)⟩
theorem e_lmethK {id : String} {nm : Str} {rr : V → List V → Hp → VK → Prop} {l : Addr} {xs : List V} (slot : Slot "list" nm id) (hty : typeOf (.builtin id) = pure (.type "method_descriptor")) (hmt : ∀ X, Good C X → MtR X id rr) (ho : EV C σ H o (.ref l)) (hl : H l = some (.lst xs)) (ha : AK C SS σ H (e :: es) PA)
    (hr : ∀ vs H1, Kp C.G SS H H1 → PA vs H1 → RC C.G SS (rr (.ref l)) vs H1 P)
    (hbase : ∀ X, Good C X → attributeBase o nm X.env (eval o X.env) = eval o X.env := by exact fun _ _ => rfl)
    (hfew : ∀ X, Good C X → ((backTo p2 (starEach (e :: es) X.env)).all (fun x => !x.1) && (backToKw p2 (keywordEach [] X.env)).all (fun x => x.1.isSome)
      && decide ((e :: es).length + ([] : List Keyword).length + (if ([] : List Keyword).isEmpty then 0 else 1) < 30)) = true := by exact fun _ _ => rfl)
    (hline : (p1.endLine == p2.line) = true := by rfl) (hs : ∀ X, Good C X → starEach (e :: es) X.env = (false, eval e X.env) :: starEach es X.env := by exact fun _ _ => rfl) (hplain : ∀ X, Good C X → (backTo p2 (starEach es X.env)).any (·.1) = false := by exact fun _ _ => rfl) :
    EK C SS σ H (.Call (.Attribute o nm p1) (e :: es) [] p2) P :=
  ek_of (t := tBM C.K "list" rr (wE C o) (wA C (e :: es))) (fun X g => by rw [← g.K]; exact pe_bm PySem.F.plainAttrs_list slot hty (hmt X g) (pe_w g) (pa_w g) (hbase X g) (hfew X g) hline (hs X g) (hplain X g)) fun H1 k1 Q q => ho H1 k1 _ fun u H2 k2 p2 => by
    subst p2
    refine ⟨.inl ⟨rfl, _, .inl (.inl ((k1.t k2).xat hl))⟩, ha H2 (k1.t k2) _ fun vs H3 k3 p3 => ?_⟩
    exact hr vs H3 (Kp.pre (k1.t k2) k3) p3 H3 Kp.refl Q fun v H4 k4 p4 => q v H4 ((Kp.pre k2 k3).trans k4) p4
theorem e_lmeth0 {id : String} {nm : Str} {rr : V → List V → Hp → VK → Prop} {l : Addr} {xs : List V} (slot : Slot "list" nm id) (hty : typeOf (.builtin id) = pure (.type "method_descriptor")) (hmt : ∀ X, Good C X → MtR X id rr) (ho : EV C σ H o (.ref l)) (hl : H l = some (.lst xs))
    (hr : RC C.G SS (rr (.ref l)) [] H P) (hbase : ∀ X, Good C X → attributeBase o nm X.env (eval o X.env) = eval o X.env := by exact fun _ _ => rfl) (hline : (p1.endLine == p2.line) = true := by rfl) :
    EK C SS σ H (.Call (.Attribute o nm p1) [] [] p2) P :=
  ek_of (t := tBM0 C.K "list" rr (wE C o)) (fun X g => by rw [← g.K]; exact pe_bm0 PySem.F.plainAttrs_list slot hty (hmt X g) (pe_w g) (hbase X g) hline) fun H1 k1 Q q => ho H1 k1 _ fun u H2 k2 p2 => by
    subst p2
    exact ⟨.inl ⟨rfl, _, .inl (.inl ((k1.t k2).xat hl))⟩, hr H2 (k1.t k2) Q fun v H4 k4 p4 => q v H4 (Kp.pre k2 k4) p4⟩
/-- l.pop() -/
theorem e_pop {l : Addr} {xs : List V} {y : V} (ho : EV C σ H o (.ref l)) (hl : H l = some (.lst (xs ++ [y]))) (hbase : ∀ X, Good C X → attributeBase o "pop" X.env (eval o X.env) = eval o X.env := by exact fun _ _ => rfl) (hline : (p1.endLine == p2.line) = true := by rfl) :
    EK C [l] σ H (.Call (.Attribute o "pop" p1) [] [] p2) fun v H' => v = y ∧ H' l = some (.lst xs) :=
  e_lmeth0 PySem.F.slot_list_pop PySem.F.type_list_pop (fun X g => mt_pop) ho hl (fun H1 k1 Q q => ⟨l, xs ++ [y], y, rfl, rfl, k1.xat hl, by simp, q _ _ (Kp.put1 (k1.xat hl)) ⟨rfl, by rw [upd_same]; simp⟩⟩) hbase hline
theorem s_par3K {x' y' z' : Str} {kt k2 : Nat} {pt pt2 : Pos} (i j l : Nat) (ha : AK C SS σ H [a, b, c] PA) (hr : ∀ vs H2, Kp C.G SS H H2 → PA vs H2 → ∃ u v w, vs = [u, v, w] ∧ S C D (((σ.set i (some u)).set j (some v)).set l (some w)) H2 rest)
    (hi : C.N[i]? = some x' := by rfl) (hj : C.N[j]? = some y' := by rfl) (hk : C.N[l]? = some z' := by rfl) (hij : i ≠ j := by decide) (hil : i ≠ l := by decide) (hjl : j ≠ l := by decide) (hx : C.sc.names.lookup x' = some .local := by rfl) (hy : C.sc.names.lookup y' = some .local := by rfl) (hz : C.sc.names.lookup z' = some .local := by rfl) (hl : (p1.line == p2.line) = true := by rfl) (hl2 : (p1.line == p3.line) = true := by rfl)
    (hne : ([x', y', z'] : List Str).eraseDups.length = 3 := by decide +kernel) (hst : ([a, b, c].any fun | .Starred .. => true | _ => false) = false := by rfl) (hf : ([a, b, c].all (foldedForSure 8)) = false := by rfl) (hc : ([a, b, c].all (constantsAlone 8)) = false := by rfl)
    (hs : ∀ X, Good C X → swapsWithSole [.Tuple [.Name x' p1, .Name y' p2, .Name z' p3] kt pt] (.Tuple [a, b, c] k2 pt2) pos.line X.env = pure false := by exact fun _ _ => rfl) :
    S C D σ H (.Assign [.Tuple [.Name x' p1, .Name y' p2, .Name z' p3] kt pt] (.Tuple [a, b, c] k2 pt2) pos :: rest) :=
  s_of (u := tPar3 i j l (wA C [a, b, c])) (fun X g => ps_par3 g.calm (by rw [g.N]; exact g.nd) (by rw [g.N]; exact hi) (by rw [g.N]; exact hj) (by rw [g.N]; exact hk) hij hil hjl (g.lcl hx) (g.lcl hy) (g.lcl hz) (pa_w g) (swap3 g hx hy hz hl hl2 hne hst hf hc) (hs X g)) fun H1 k => ha H1 k _ fun vs H2 k2 p2 => by
    obtain ⟨u, v, w, e, h⟩ := hr vs H2 (Kp.pre k k2) p2
    exact ⟨u, v, w, e, h H2 Kp.refl⟩
theorem s_parK {x' y' : Str} {kt k2 : Nat} {pt pt2 : Pos} (i j : Nat) (ha : AK C SS σ H [a, b] PA) (hr : ∀ vs H2, Kp C.G SS H H2 → PA vs H2 → ∃ v w, vs = [v, w] ∧ S C D ((σ.set i (some v)).set j (some w)) H2 rest)
    (hi : C.N[i]? = some x' := by rfl) (hj : C.N[j]? = some y' := by rfl) (hij : i ≠ j := by decide) (hx : C.sc.names.lookup x' = some .local := by rfl) (hy : C.sc.names.lookup y' = some .local := by rfl) (hl : (p1.line == p2.line) = true := by rfl)
    (hne : ([x', y'] : List Str).eraseDups.length = 2 := by decide +kernel) (hst : ([a, b].any fun | .Starred .. => true | _ => false) = false := by rfl) (hf : ([a, b].all (foldedForSure 8)) = false := by rfl) (hc : ([a, b].all (constantsAlone 8)) = false := by rfl)
    (hs : ∀ X, Good C X → swapsWithSole [.Tuple [.Name x' p1, .Name y' p2] kt pt] (.Tuple [a, b] k2 pt2) pos.line X.env = pure false := by exact fun _ _ => rfl) :
    S C D σ H (.Assign [.Tuple [.Name x' p1, .Name y' p2] kt pt] (.Tuple [a, b] k2 pt2) pos :: rest) :=
  s_of (u := tPar i j (wA C [a, b])) (fun X g => ps_par g.calm (by rw [g.N]; exact g.nd) (by rw [g.N]; exact hi) (by rw [g.N]; exact hj) hij (g.lcl hx) (g.lcl hy) (pa_w g) (swap2 g hx hy hl hne hst hf hc) (hs X g)) fun H1 k => ha H1 k _ fun vs H2 k2 p2 => by
    obtain ⟨v, w, e, h⟩ := hr vs H2 (Kp.pre k k2) p2
    exact ⟨v, w, e, h H2 Kp.refl⟩
/-- for x in range(e), where e changes things -/
theorem s_forRK (hm : C.mg "range" = none) (ha : EK C SS σ H e Pa) (h : ∀ v H1, Kp C.G SS H H1 → Pa v H1 → ∃ (n : Nat) (Pv : Nat → L2.St → Hp → Prop), v = nI n ∧ n < 1000000 ∧ Pv 0 σ H1 ∧
      (∀ i σ1 H2, i < n → Pv i σ1 H2 → ∃ σ2, EG C tg (nI i) σ1 H2 σ2 ∧ S C (lpS C rest D (Pv (i + 1))) σ2 H2 body) ∧ ∀ σ1 H2, Pv n σ1 H2 → S C D σ1 H2 rest)
    (hg : C.sc.names.lookup ("range" : Str) = some .globalImplicit := by rfl) (hs : ∀ X, Good C X → starEach [e] X.env = [(false, eval e X.env)] := by exact fun _ _ => rfl)
    (hf : ∀ X, Good C X → ∀ x, foldedSetIterable (.Call (.Name "range" p1) [e] [] pos) X.env x = pure x := by exact fun _ _ _ => rfl) : S C D σ H (.For tg (.Call (.Name "range" p1) [e] [] pos) body [] p2 :: rest) :=
  s_of (u := tFor (iRng1 (tCons (wE C e) tNil)) (wG C tg) (wS C body)) (fun X g => ps_for g.po g.calm (pi_range1 (g.gl hg) (by rw [g.mg]; exact hm) (pa_cons (pe_w g) pa_nil (hs X g)) (hs X g)) ⟨fun pins s σ H v u Q I r ⟨_, h, q⟩ => (h X g).run pins s σ H v u Q I r q⟩ (pss_w g) (hf X g)) fun H1 k => ha H1 k _ fun v H2 k2 pv => by
    obtain ⟨n, Pv, rfl, hn, h0, hb, hd⟩ := h v H2 (Kp.pre k k2) pv
    refine ⟨n, rfl, by omega, by omega, for_it (walk_range (n := n) (lo := 0)) (fun i => Cl C.G (Pv i)) ⟨H2, Kp.refl, h0⟩ (fun i σ1 Ha _ _ => trivial) (fun i x σ1 Ha Ha' hlt ⟨H0, k0, h⟩ y => ?_) fun σ1 Ha ⟨H0, k0, h⟩ => hd σ1 H0 h Ha k0⟩
    obtain ⟨e1, e2⟩ := y
    subst e1
    obtain ⟨σ2, hg, hs⟩ := hb i σ1 H0 hlt h
    have e3 : x = nI i := by rw [e2]; simp
    subst e3
    exact hg Ha' k0 _ (hs Ha' k0)
end
end Pm
end
/-! ## V1 -/
section
set_option Elab.async false
set_option linter.all false
set_option maxRecDepth 100000
set_option maxHeartbeats 2000000
namespace Pm
open PySem L2
section
variable {C : Ctx} {σ : L2.St} {H : Hp} {a b e : Expr} {pos p1 p2 p3 : Pos} {D : Ends} {rest : List Stmt} {v : V}
theorem s_raise1 {x : Str} {Ce : Addr} (EC : ExcC C.toBs x Ce) (he : EV C σ H e v) (h : ∀ H1, Ex C.G H H1 → C.W (.ref Ce) none σ H1) (hg : C.sc.names.lookup x = some .globalImplicit := by rfl) (hdb : (x == ("__debug__" : Str)) = false := by decide) (hs : ∀ X, Good C X → starEach [e] X.env = (false, eval e X.env) :: starEach [] X.env := by exact fun _ _ => rfl) :
    S C D σ H (.Raise (some (.Call (.Name x p1) [e] [] p3)) none pos :: rest) :=
  s_of (fun X g => ps_raise g.calm g.tk (SkE.pmk_own1 (C := Ce) PySem.F.excBase_ValueError (by rw [g.K]; exact EC.xC) (by rw [g.mg]; exact EC.gC) (by rw [g.K]; exact EC.kC) (raises_own (by rw [g.K]; exact EC.bC) (by rw [g.K]; exact EC.tC)) (g.gl hg) (pe_w g) (hs X g) hdb)) fun H1 k => he H1 k _ fun v H2 k2 _ => h H2 (k.t k2)
theorem e_mulI {i j : Int} (hc : CMul i j) (ha : EV C σ H a (.int i)) (hb : EV C σ H b (.int j)) : EV C σ H (.BinOp a .Mult b pos) (.int (i * j)) := e_op (fun X _ => op_mul) ha hb (rv_I hc)
theorem e_modI {i j : Int} (hc : 0 < j) (ha : EV C σ H a (.int i)) (hb : EV C σ H b (.int j)) : EV C σ H (.BinOp a .Mod b pos) (.int (i % j)) := e_op (fun X _ => op_mod) ha hb (rv_I (D := fun _ j => 0 < j) hc)
theorem e_fdivI {i j : Int} (hc : CDiv i j) (ha : EV C σ H a (.int i)) (hb : EV C σ H b (.int j)) : EV C σ H (.BinOp a .FloorDiv b pos) (.int (i / j)) := e_op (fun X _ => op_fdiv) ha hb (rv_I hc)
theorem e_powI {i j : Int} (hc : CPow i j) (ha : EV C σ H a (.int i)) (hb : EV C σ H b (.int j)) : EV C σ H (.BinOp a .Pow b pos) (.int (i ^ j.toNat)) := e_op (fun X _ => op_pow) ha hb (rv_I hc)
def repS (a : Str) (n : Nat) : Str := ⟨(List.replicate n a.cps).foldl (· ++ ·) #[]⟩
def SMulC (a : Str) (n : Int) : Prop := ((decide (n < -(2 ^ 63 : Int)) || decide (n ≥ 2 ^ 63)) = false) ∧ (¬ n < 1 → (n == 1 || a.length == 0) = false → ¬ ((a.length : Int) > (2 ^ 63 - 1) / n)) ∧ (¬ n < 1 → (n == 1 || a.length == 0) = false → PySem.Builtin.Str.tooLong (a.length * n.toNat) = false) ∧ ¬ n < 1 ∧ (n == 1 || a.length == 0) = false ∧ (repS a n.toNat).length ≤ sizeLine
def rSMul : R2 := fun x y H Q => ∃ a n, x = .str a ∧ y = .int n ∧ SMulC a n ∧ Q (.str (repS a n.toNat)) H
theorem op_smul {X : Cx} : OpR X (binaryOp .Mult) rSMul := by
  intro pins s σ H x y v u Q I rx ry h
  obtain ⟨a, n, rfl, rfl, ⟨h1, h2, h3, h4, h5, h6⟩, q⟩ := h
  obtain ⟨t, rfl⟩ := rx
  obtain ⟨t2, rfl⟩ := ry
  refine PySem.P.mul_str h1 h2 h3 ?_
  rw [if_neg h4, if_neg (by rw [h5]; decide)]
  exact ⟨h6, .str (repS a n.toNat), H, I.tok _, ⟨_, rfl⟩, q⟩
theorem e_smul {x : Str} {n : Int} (hc : SMulC x n) (ha : EV C σ H a (.str x)) (hb : EV C σ H b (.int n)) : EV C σ H (.BinOp a .Mult b pos) (.str (repS x n.toNat)) := e_op (fun X _ => op_smul) ha hb fun H1 _ _ q => ⟨x, n, rfl, rfl, hc, q _ H1 Kp.refl rfl⟩
theorem e_abs {i : Int} (hm : C.mg "abs" = none) (ha : EV C σ H e (.int i)) (hg : C.sc.names.lookup ("abs" : Str) = some .globalImplicit := by rfl)
    (he : ∀ X, Good C X → starEach [e] X.env = (false, eval e X.env) :: starEach [] X.env := by exact fun _ _ => rfl) : EV C σ H (.Call (.Name "abs" p1) [e] [] pos) (.int (if i < 0 then -i else i)) :=
  e_blt (fun X g => call_abs) hm (by decide +kernel) (a_1 ha he) (fun H1 k1 Q q => ⟨i, rfl, q _ _ Kp.refl rfl⟩) (hg := hg) (he := he)
theorem e_intI {i : Int} (hm : C.mg "int" = none) (ha : EV C σ H e (.int i)) (hg : C.sc.names.lookup ("int" : Str) = some .globalImplicit := by rfl)
    (he : ∀ X, Good C X → starEach [e] X.env = (false, eval e X.env) :: starEach [] X.env := by exact fun _ _ => rfl) : EV C σ H (.Call (.Name "int" p1) [e] [] pos) (.int i) :=
  e_ty (fun X g => call_int1) hm (by decide +kernel) (a_1 ha he) (fun H1 k1 Q q => .inl ⟨i, rfl, q _ _ Kp.refl rfl⟩) (hg := hg) (he := he)
theorem e_intB {t : Bool} (hm : C.mg "int" = none) (ha : EV C σ H e (.bl t)) (hg : C.sc.names.lookup ("int" : Str) = some .globalImplicit := by rfl)
    (he : ∀ X, Good C X → starEach [e] X.env = (false, eval e X.env) :: starEach [] X.env := by exact fun _ _ => rfl) : EV C σ H (.Call (.Name "int" p1) [e] [] pos) (.int (if t then 1 else 0)) :=
  e_ty (fun X g => call_int1) hm (by decide +kernel) (a_1 ha he) (fun H1 k1 Q q => .inr ⟨t, rfl, q _ _ Kp.refl rfl⟩) (hg := hg) (he := he)
end
/-! ### refuse, _law_dice, _law_roll, _law_rounds, _law_askers, _law_rooms -/
def pRefuse (Cf : Addr) : PreX := fun vs H S P PX => ∃ w, vs = [.str w] ∧ S = [] ∧ (P = fun _ _ => False) ∧ PX = fun c _ => c = .ref Cf
theorem pRefuse_ex {G : Gt} {Cf : Addr} : PreExX G (pRefuse Cf) := fun vs H H' S P PX k h => h
def DiceAt (H : Hp) (D : Addr) : Prop := ∃ a b c : Int, H D = some (.lst [.int a, .int b, .int c])
theorem DiceAt.ex {G : Gt} {H H' : Hp} {D : Addr} (h : DiceAt H D) (k : Ex G H H') : DiceAt H' D := by
  obtain ⟨a, b, c, h⟩ := h
  exact ⟨a, b, c, k.xat h⟩
theorem DiceAt.at {G : Gt} {S : List Addr} {H H' : Hp} {D : Addr} (h : DiceAt H D) (k : Kp G S H H') (hs : D ∉ S) : DiceAt H' D := by
  obtain ⟨a, b, c, h⟩ := h
  exact ⟨a, b, c, k.at h hs⟩
structure LawC (B : Bs) : Prop where
  abs : B.mg "abs" = none
  int : B.mg "int" = none
  range : B.mg "range" = none
  len : B.mg "len" = none
  list : B.mg "list" = none
  dict : B.mg "dict" = none
  sorted : B.mg "sorted" = none
  tup : B.mg "tuple" = none
def pDice : Pre := fun vs H S P => ∃ c : Int, vs = [.int c] ∧ S = [] ∧ ∀ v H' D, v = .ref D → H D = none → DiceAt H' D → P v H'
theorem pDice_ex {G : Gt} : PreEx G pDice := fun vs H H' S P k ⟨c, h1, h2, h3⟩ => ⟨c, h1, h2, fun v H'' D e n => h3 v H'' D e (k.free n)⟩
def pRoll : Pre := fun vs H S P => ∃ (D : Addr) (m : Nat), vs = [.ref D, nI m] ∧ 0 < m ∧ m ≤ 1000 ∧ DiceAt H D ∧ S = [D] ∧ P = fun v H' => ∃ n : Nat, n < m ∧ v = nI n ∧ DiceAt H' D
theorem pRoll_ex {G : Gt} : PreEx G pRoll := fun vs H H' S P k ⟨D, m, h1, h2, h3, h4, h5⟩ => ⟨D, m, h1, h2, h3, h4.ex k, h5⟩
def pRounds (B : Bs) : Pre := fun vs H S P => ∃ (q : Addr) (cs : List Int), vs = [.ref q, .int 1] ∧ SqL B.K H q (cs.map V.int) ∧ S = [] ∧ P = fun v H' => ∃ l D, v = .ref l ∧ H' l = some (.lst [.ref D]) ∧ DiceAt H' D
theorem pRounds_ex {B : Bs} : PreEx B.G (pRounds B) := fun vs H H' S P k ⟨q, cs, h1, h2, h3⟩ => ⟨q, cs, h1, ex_l k h2, h3⟩
def lawAskers : List Str := ["a", "ann", "ann_1", "b", "bo9", "c_", "dd", "e0", repS "f" 30, "g_g", "h2h", "zed"]
def lawRooms : List Str := ["hall", "ann", "k1", repS "m" 12, "north_3", "q", "r_", "w0w"]
theorem askers_nd : lawAskers.Nodup := by decide +kernel
theorem rooms_nd : lawRooms.Nodup := by decide +kernel
theorem askers_ok : ∀ x ∈ lawAskers, sOk x := by decide +kernel
theorem rooms_ok : ∀ x ∈ lawRooms, sOk x := by decide +kernel
def pAskers : Pre := fun vs H S P => vs = [] ∧ S = [] ∧ P = fun v H' => ∃ l, v = .ref l ∧ H' l = some (.lst (lawAskers.map V.str))
def pRooms : Pre := fun vs H S P => vs = [] ∧ S = [] ∧ P = fun v H' => ∃ l, v = .ref l ∧ H' l = some (.lst (lawRooms.map V.str))
theorem pAskers_ex {G : Gt} : PreEx G pAskers := fun vs H H' S P k h => h
theorem pRooms_ex {G : Gt} : PreEx G pRooms := fun vs H H' S P k h => h
section
variable {B : Bs} {f : Addr} {fd : FuncData} {cdv : Value}
theorem ok_refuse {Cf : Addr} (EP : ExcC B "MarketFault" Cf) (Fn : FunC B.K "refuse" "refuse" (top 33) f fd cdv) : FnOk B.P B.w B.K B.mg B.base (L2.CX B.P B.w) 1 f fd ["word"] (spX B.G (pRefuse Cf)) := by
  refine def_okX Fn sc33 (fun vs H SS P PX ⟨w, e, _⟩ => by rw [e]; rfl) fun vs H SS P PX D E ht hp hD _ hE => ?_
  obtain ⟨w, rfl, rfl, rfl, rfl⟩ := hp
  exact s_raise1 EP (ev 0) fun H1 k => hE _ _ k rfl
variable (TL : LawC B)
include TL
theorem ok_dice (Fn : FunC B.K "_law_dice" "_law_dice" (top 35) f fd cdv) : FnOk B.P B.w B.K B.mg B.base CX0 1 f fd ["cell"] (spM B.G pDice) := by
  refine def_ok Fn sc35 (fun vs H SS P ⟨c, e, _⟩ => by rw [e]; rfl) fun vs H SS P D ht hp hD _ => ?_
  obtain ⟨c, rfl, rfl, hP⟩ := hp
  refine s_if (t_chain (fun X _ => op_lt) (fun X _ => op_lt) (e_sub e_int e_int) (ev 0) e_int) (fun _ => ?_) (fun _ => s_next ?_)
  · exact s_ret (e_lst (a_cons (e_abs (i := c) TL.abs (ev 0)) (a_cons e_int (a_1 e_int)))) fun v H2 k ⟨p, e, n, h⟩ => hD _ _ k (hP v H2 p e n ⟨_, _, _, h⟩)
  · exact s_ret (e_lst (a_cons (x := .int c) (ev 0) (a_cons (e_add e_int (e_modI (by decide) (e_intI (i := c) TL.int (ev 0)) e_int)) (a_1 (e_intB TL.int (e_k (c_ge (i := c) (ev 0) (e_powI (by unfold CPow; decide) e_int e_int)))))))) fun v H2 k ⟨p, e, n, h⟩ => hD _ _ k (hP v H2 p e n ⟨_, _, _, h⟩)
theorem ok_roll (Fn : FunC B.K "_law_roll" "_law_roll" (top 36) f fd cdv) : FnOk B.P B.w B.K B.mg B.base CX0 1 f fd ["dice", "many"] (spM B.G pRoll) := by
  refine def_ok Fn sc36 (fun vs H SS P ⟨Dd, m, e, _⟩ => by rw [e]; rfl) fun vs H SS P D ht hp hD _ => ?_
  obtain ⟨Dd, m, rfl, hm, hm2, ⟨a, b, c, hd⟩, rfl, rfl⟩ := hp
  have hm' : (0 : Int) < (m : Int) := by omega
  have nn : ∀ i : Int, ∃ n : Nat, n < m ∧ V.int (i % (m : Int)) = nI n := fun i => by
    have h1 := Int.emod_nonneg i (show (m : Int) ≠ 0 by omega)
    have h2 := Int.emod_lt_of_pos i hm'
    exact ⟨(i % (m : Int)).toNat, by omega, by show V.int _ = V.int _; congr 1; omega⟩
  have ix : ∀ {H1 : Hp} {a b c : Int} {σ : L2.St}, True := trivial
  refine s_if (b := decide (V.int c = V.int 2) || (decide (V.int c = V.int 1) && decide ((0 : Int) < a))) (t_or (t_k (c_eq rfl (e_ixL (ev 0) e_int (.inl (.inl hd)) rfl) e_int)) fun _ => t_and (t_k (c_eq rfl (e_ixL (ev 0) e_int (.inl (.inl hd)) rfl) e_int)) fun _ => t_k (c_gt (e_ixL (ev 0) e_int (.inl (.inl hd)) rfl) e_int)) (fun _ => ?_) (fun _ => s_next ?_)
  · refine s_setV (i := 2) (e_modI hm' (e_intI TL.int (e_ixL (ev 0) e_int (.inl (.inl hd)) rfl)) (ev 1)) ?_
    refine s_lput (e_fdivI ⟨hm', by show (m : Int) < 1073741824; omega⟩ (e_ixL (ev 0) e_int (.inl (.inl hd)) rfl) (ev 1)) (ev 0) e_int hd rfl fun H2 k2 h2 => ?_
    obtain ⟨n, hn, e⟩ := nn a
    exact s_ret (ev 2) fun v H3 k3 e3 => hD _ _ (k2.then k3) ⟨n, hn, by rw [e3, ← e], _, _, _, k3.xat h2⟩
  · refine s_lput e_int (ev 0) e_int hd rfl fun H2 k2 h2 => ?_
    refine s_lput (e_modI (by decide) (e_intI TL.int (e_add (e_add (e_mulI (.inr (by decide)) (e_ixL (ev 0) e_int (.inl (.inl h2)) rfl) e_int) (e_mulI (.inr (by decide)) (e_ixL (ev 0) e_int (.inl (.inl h2)) rfl) e_int)) e_int)) e_int) (ev 0) e_int h2 rfl fun H3 k3 h3 => ?_
    refine s_lput (e_add (e_ixL (ev 0) e_int (.inl (.inl h3)) rfl) e_int) (ev 0) e_int h3 rfl fun H4 k4 h4 => ?_
    refine s_ret (e_modI hm' (e_intI TL.int (e_add (e_fdivI ⟨by decide, by decide⟩ (e_ixL (ev 0) e_int (.inl (.inl h4)) rfl) e_int) (e_ixL (ev 0) e_int (.inl (.inl h4)) rfl))) (ev 1)) fun v H5 k5 e5 => ?_
    obtain ⟨n, hn, e⟩ := nn _
    exact hD _ _ (((k2.trans k3).trans k4).then k5) ⟨n, hn, by rw [e5, ← e], _, _, _, k5.xat h4⟩
theorem ok_rounds (Fn : FunC B.K "_law_rounds" "_law_rounds" (top 37) f fd cdv) (GD : GF B 1 "_law_dice" pDice) : FnOk B.P B.w B.K B.mg B.base CX0 2 f fd ["script", "most"] (spM B.G (pRounds B)) := by
  refine def_ok Fn sc37 (fun vs H SS P ⟨q, cs, e, _⟩ => by rw [e]; rfl) fun vs H SS P D ht hp hD _ => ?_
  obtain ⟨q, cs, rfl, hq, rfl, rfl⟩ := hp
  refine s_set (i := 2) (e_slL (l := none) (u := some ((1 : Nat) : Int)) (ev 0) hq o_none (o_some (ev 1))) fun v H1 k1 ⟨l, e, _, hl⟩ => ?_
  subst e
  rw [cutV_take] at hl
  have fin : ∀ {H2 : Hp} {l2 : Addr} {c : Int}, Ex B.G H H2 → H2 l2 = some (.lst [.int c]) → S (ctx B ["script", "most", "cells", "cell"] (top 37) 1 cdv "_law_rounds") D [some (.ref q), some (.int 1), some (.ref l2), none] H2 ((defBody (top 37)).drop 2) := by
    intro H2 l2 c k2 h2
    refine s_ret (e_lc [("cell", 3)] (lc_R (as := [c]) (ei_list (ev := V.int) (ev 2) (.inl (.inl h2))) (fun H3 k => .inl (.inl (k.xat h2))) (fun _ => true) (fun D' a v H' => ∃ D, v = .ref D ∧ D ≠ D' ∧ DiceAt H' D) (fun D' a v H3 H4 zs hz k ⟨q, e, ne, h⟩ => ⟨q, e, ne, h.at k (by simpa using ne)⟩) (by simp) fun D' a x H3 zs ha k hD1 hD2 e => ?_)) fun v H3 k3 ⟨D', ys, e, _, hys, hP⟩ => ?_
    · subst e
      refine ⟨_, eg_name 3, rfl, ts_nil, fun _ => e_call GD (Nat.le_refl _) ((k2.t k).tok ht) (a_1 (ev 3)) ⟨a, rfl, rfl, fun v H4 Dd e n h => ⟨Dd, e, fun z => ?_, h⟩⟩⟩
      rw [z, hD2] at n
      cases n
    · cases hP with
      | cons h t =>
        cases t
        obtain ⟨Dd, e2, _, h⟩ := h
        subst e2
        exact hD _ _ (k2.t k3) ⟨D', Dd, e, hys, h⟩
  refine s_if (b := decide (((cs.take 1).map V.int) = [])) (t_k (c_eqNil (ev 2) hl (fun H2 k => dpAll_map fun n _ => Dp.int n) (n := 0) (fun d hd => by
    obtain ⟨n, _, rfl⟩ := List.mem_map.mp hd
    exact .int n))) (fun hb => ?_) (fun hb => s_next ?_)
  · refine s_set (i := 2) (e_lst (a_1 e_int)) fun v H2 k2 ⟨l2, e, _, h2⟩ => s_next ?_
    subst e
    exact fin (k1.t k2) h2
  · cases cs with
    | nil => simp at hb
    | cons c r => exact fin (c := c) k1 (by rw [hl]; rfl)
theorem ok_askers (Fn : FunC B.K "_law_askers" "_law_askers" (top 39) f fd cdv) : FnOk B.P B.w B.K B.mg B.base CX0 1 f fd [] (spM B.G pAskers) := by
  refine def_ok Fn sc39 (fun vs H SS P ⟨e, _⟩ => by rw [e]; rfl) fun vs H SS P D ht hp hD _ => ?_
  obtain ⟨rfl, rfl, rfl⟩ := hp
  exact s_ret (e_lst (a_cons e_str (a_cons e_str (a_cons e_str (a_cons e_str (a_cons e_str (a_cons e_str (a_cons e_str (a_cons e_str (a_cons (e_smul (by unfold SMulC; decide) e_str e_int) (a_cons e_str (a_cons e_str (a_1 e_str)))))))))))) ) fun v H2 k ⟨p, e, n, h⟩ => hD _ _ k ⟨p, e, h⟩
theorem ok_rooms (Fn : FunC B.K "_law_rooms" "_law_rooms" (top 40) f fd cdv) : FnOk B.P B.w B.K B.mg B.base CX0 1 f fd [] (spM B.G pRooms) := by
  refine def_ok Fn sc40 (fun vs H SS P ⟨e, _⟩ => by rw [e]; rfl) fun vs H SS P D ht hp hD _ => ?_
  obtain ⟨rfl, rfl, rfl⟩ := hp
  exact s_ret (e_lst (a_cons e_str (a_cons e_str (a_cons e_str (a_cons (e_smul (by unfold SMulC; decide) e_str e_int) (a_cons e_str (a_cons e_str (a_cons e_str (a_1 e_str))))))))) fun v H2 k ⟨p, e, n, h⟩ => hD _ _ k ⟨p, e, h⟩
end
end Pm
end
/-! ## V2 -/
section
set_option Elab.async false
set_option linter.all false
set_option maxRecDepth 100000
set_option maxHeartbeats 2000000
namespace Pm
open PySem L2
/-! ### _law_list -/
theorem perm_erase {α : Type} : ∀ {l : List α} {k : Nat} {x : α}, l[k]? = some x → (x :: l.eraseIdx k).Perm l
  | [], _, _, h => by simp at h
  | a :: l, 0, x, h => by
    have : a = x := by simpa using h
    subst this
    exact List.Perm.refl _
  | a :: l, k + 1, x, h => by
    have ih := perm_erase (l := l) (k := k) (x := x) (by simpa using h)
    rw [List.eraseIdx_cons_succ]
    exact (List.Perm.swap a x _).trans (List.Perm.cons a ih)
theorem len_eraseIdx {α : Type} {l : List α} {k : Nat} {x : α} (h : l[k]? = some x) : (l.eraseIdx k).length + 1 = l.length := by
  have := (perm_erase h).length_eq
  simpa using this
theorem eraseIdx_map {α β : Type} (f : α → β) : ∀ (l : List α) (k : Nat), (l.map f).eraseIdx k = (l.eraseIdx k).map f
  | [], _ => rfl
  | _ :: _, 0 => rfl
  | a :: l, k + 1 => by rw [List.map_cons, List.eraseIdx_cons_succ, List.eraseIdx_cons_succ, List.map_cons, eraseIdx_map f l k]
def pList : Pre := fun vs H S P => ∃ (D q : Addr) (ws : List Str), vs = [.ref D, .ref q] ∧ DiceAt H D ∧ H q = some (.lst (ws.map V.str)) ∧ 4 ≤ ws.length ∧ ws.length ≤ 100 ∧ ws.Nodup ∧ S = [D] ∧ ∀ (v : V) (H' : Hp) (l : Addr) (xs : List Str), v = .ref l → H l = none → H' l = some (.lst (xs.map V.str)) → xs.Nodup → (∀ x ∈ xs, x ∈ ws) → DiceAt H' D → P v H'
theorem pList_ex {G : Gt} : PreEx G pList := fun vs H H' S P k ⟨D, q, ws, h1, h2, h3, h4, h5, h6, h7, h8⟩ => ⟨D, q, ws, h1, h2.ex k, k.xat h3, h4, h5, h6, h7, fun v H'' l xs e n => h8 v H'' l xs e (k.free n)⟩
section
variable {C : Ctx} {σ : L2.St} {H : Hp} {a b e : Expr} {pos p1 p2 p3 : Pos} {Dd : Addr}
/-- a throw of the dice -/
theorem e_roll {x y : Expr} {m : Nat} (GR : GF C.toBs 1 "_law_roll" pRoll) (hk : 1 ≤ C.k) (ht : TOk C.G H) (hd : DiceAt H Dd) (hm : 0 < m) (hm2 : m ≤ 1000) (ha : EV C σ H x (.ref Dd)) (hb : EV C σ H y (nI m)) (hg : C.sc.names.lookup ("_law_roll" : Str) = some .globalImplicit := by rfl)
    (he : ∀ X, Good C X → starEach [x, y] X.env = (false, eval x X.env) :: starEach [y] X.env := by exact fun _ _ => rfl) (he2 : ∀ X, Good C X → starEach [y] X.env = (false, eval y X.env) :: starEach [] X.env := by exact fun _ _ => rfl) (hpl : ∀ X, Good C X → (backTo pos (starEach [y] X.env)).any (·.1) = false := by exact fun _ _ => rfl) :
    EK C [Dd] σ H (.Call (.Name "_law_roll" p1) [x, y] [] pos) fun v H' => ∃ n : Nat, n < m ∧ v = nI n ∧ DiceAt H' Dd :=
  e_call GR hk ht (a_cons ha (a_1 hb he2) he) ⟨Dd, m, rfl, hm, hm2, hd, rfl, rfl⟩ hg (by decide) he hpl
end
section
variable {B : Bs} {f : Addr} {fd : FuncData} {cdv : Value} (TL : LawC B)
include TL
theorem ok_list (Fn : FunC B.K "_law_list" "_law_list" (top 41) f fd cdv) (GR : GF B 1 "_law_roll" pRoll) : FnOk B.P B.w B.K B.mg B.base CX0 2 f fd ["dice", "words"] (spM B.G pList) := by
  refine def_ok Fn sc41 (fun vs H SS P ⟨Dd, q, ws, e, _⟩ => by rw [e]; rfl) fun vs H SS P D ht hp hD _ => ?_
  obtain ⟨Dd, q, ws, rfl, hd, hq, h4, hwl, hnd, rfl, hP⟩ := hp
  refine s_par (PA := fun vs H' => ∃ lf fn, vs = [.ref lf, .ref fn] ∧ H lf = none ∧ H fn = none ∧ lf ≠ fn ∧ H' lf = some (.lst (ws.map V.str)) ∧ H' fn = some (.lst (([] : List Str).map V.str))) 3 4 (a_consB (e_listOf TL.list (ev 1) (.inl (.inl (.inl hq)))) fun x H1 k1 ⟨lf, e, n1, h1⟩ => fun H2 k2 Q q' => a_1B (e_lst a_nil) (fun _ _ => rfl) H2 k2 Q fun vs H3 k3 ⟨x2, e2, fn, e3, n2, h2⟩ => q' vs H3 k3 ⟨lf, fn, by rw [e, e2, e3], n1, k1.free n2, fun z => (by rw [← z, h1] at n2; cases n2), (k2.t k3).xat h1, h2⟩) fun vs H1 k1 ⟨lf, fn, e, n1, n2, ne, h1, h2⟩ => ⟨_, _, e, ?_⟩
  have hd1 := hd.ex k1
  have hDl : ∀ {p : Addr}, H p = none → Dd ≠ p := fun n z => by
    obtain ⟨a, b, c, h⟩ := hd
    rw [z, n] at h
    cases h
  have hqd : Dd ≠ q := fun z => by
    obtain ⟨a, b, c, h⟩ := hd
    rw [z, hq] at h
    cases ws with
    | nil => simp at h4
    | cons w r => simp at h
  refine s_forRK (SS := [Dd]) (Pa := fun v H' => ∃ n : Nat, n ≤ ws.length ∧ v = nI n ∧ DiceAt H' Dd) TL.range ?_ fun v H2 k2 ⟨n, hn, e, hd2⟩ => ⟨n, fun i σ1 H3 => ∃ (o2 : Option V) (L Fd : List Str), σ1 = [some (.ref Dd), some (.ref q), o2, some (.ref lf), some (.ref fn)] ∧ Kp B.G [Dd] H H3 ∧ DiceAt H3 Dd ∧ H3 lf = some (.lst (L.map V.str)) ∧ H3 fn = some (.lst (Fd.map V.str)) ∧ L.length + i = ws.length ∧ (L ++ Fd).Perm ws, e, by omega, ?_, fun i σ1 H3 hi ⟨o2, L, Fd, e, k3, hd3, hl3, hf3, hlen, hperm⟩ => ?_, fun σ1 H3 ⟨o2, L, Fd, e, k3, hd3, hl3, hf3, hlen, hperm⟩ => ?_⟩
  · refine e_ixK (Pa := fun v H' => ∃ p m, v = .ref p ∧ Dd ≠ p ∧ H' p = some (.lst [nI m, nI ws.length]) ∧ m < 5 ∧ DiceAt H' Dd) (Pb := fun _ _ y H' => ∃ i : Nat, i < 2 ∧ y = nI i ∧ DiceAt H' Dd) ?_ ?_ ?_
    · refine EK.imp (e_lstK (PA := fun vs H' => ∃ m : Nat, vs = [nI m, nI ws.length] ∧ m < 5 ∧ DiceAt H' Dd) (ak_cons (e_roll (m := 5) GR (Nat.le_refl _) (k1.tok ht) hd1 (by decide) (by decide) (ev 0) e_int) fun x H2 k2 ⟨m, hm, e, hd2⟩ => ak_of (A.imp (a_1 (e_lenSeq TL.len (ev 1) (.inl (.inl (.inl (k2.at (k1.xat hq) (by simpa using Ne.symm hqd))))))) fun vs H3 k3 e2 => ⟨m, by rw [e, e2, List.length_map], hm, hd2.ex k3⟩)) (fun vs H2 ⟨m, e, _⟩ => by rw [e]; exact Nat.le_of_ble_eq_true rfl)) fun v H2 k2 ⟨p, vs, Hx, e, n, n', hp, ⟨m, e2, hm, hd2⟩, kx, kx2⟩ => ⟨p, m, e, fun z => ?_, by rw [hp, e2], hm, hd2.ex kx2⟩
      · obtain ⟨a, b, c, h⟩ := hd1
        rw [z, n] at h
        cases h
    · intro x H2 k2 ⟨p, m, e, hne, hp, hm, hd2⟩
      refine e_opK (r := rI CDiv fun i j => .int (i / j)) (Pb := fun _ _ y H' => y = .int 2 ∧ DiceAt H' Dd) (fun X _ => op_fdiv) (e_roll (m := 3) GR (Nat.le_refl _) (k2.tok (k1.tok ht)) hd2 (by decide) (by decide) (ev 0) e_int) (fun x H3 k3 ⟨m, hm, e, hd3⟩ => EK.big (EK.imp e_int fun v H4 k4 e => ⟨e, hd3.ex k4⟩)) fun x y H3 H4 k3 ⟨m, hm, e, hd3⟩ k4 ⟨e2, hd4⟩ => ?_
      subst e e2
      refine fun H5 k5 Q q' => ⟨m, 2, rfl, rfl, ⟨by decide, by decide⟩, q' _ _ Kp.refl ⟨m / 2, by omega, ?_, hd4.ex k5⟩⟩
      show V.int _ = V.int _
      congr 1
    · intro x y H2 H3 k2 ⟨p, m, e, hne, hp, hm, hd2⟩ k3 ⟨i, hi, e2, hd3⟩
      have hp3 := k3.at hp (by simpa using Ne.symm hne)
      have : i = 0 ∨ i = 1 := by omega
      rcases this with rfl | rfl
      · exact ⟨p, _, 0, nI m, e, e2, .inl (.inl hp3), rfl, m, by omega, rfl, hd3⟩
      · exact ⟨p, _, 1, nI ws.length, e, e2, .inl (.inl hp3), rfl, ws.length, Nat.le_refl _, rfl, hd3⟩
  · exact ⟨none, ws, [], rfl, Kp.pre k1 k2, hd2, k2.at h1 (by simpa using Ne.symm (hDl n1)), k2.at h2 (by simpa using Ne.symm (hDl n2)), by omega, by simp⟩
  · subst e
    refine ⟨_, eg_name 2, ?_⟩
    have hpos : 0 < L.length := by omega
    refine s_expr (SS := [Dd, lf, fn]) (P := fun v H' => ∃ (L' Fd' : List Str), DiceAt H' Dd ∧ H' lf = some (.lst (L'.map V.str)) ∧ H' fn = some (.lst (Fd'.map V.str)) ∧ L'.length + (i + 1) = ws.length ∧ (L' ++ Fd').Perm ws) (e_lmethK (PA := fun vs H' => ∃ k x, vs = [.str x] ∧ L[k]? = some x ∧ DiceAt H' Dd ∧ H' lf = some (.lst ((L.eraseIdx k).map V.str)) ∧ H' fn = some (.lst (Fd.map V.str))) PySem.F.slot_list_append PySem.F.type_list_append (fun X g => mt_append) (ev 4) hf3 ?_ ?_) fun v H4 k4 ⟨L', Fd', hd4, hl4, hf4, hlen', hperm'⟩ => s_lp ⟨_, L', Fd', rfl, ?_, hd4, hl4, hf4, hlen', hperm'⟩
    · refine AK.imp (ak_1 (e_lmethK (SS := [Dd, lf, fn]) (P := fun v H' => ∃ k x, v = .str x ∧ L[k]? = some x ∧ DiceAt H' Dd ∧ H' lf = some (.lst ((L.eraseIdx k).map V.str)) ∧ H' fn = some (.lst (Fd.map V.str))) (PA := fun vs H' => ∃ k : Nat, vs = [nI k] ∧ k < L.length ∧ DiceAt H' Dd ∧ H' lf = some (.lst (L.map V.str)) ∧ H' fn = some (.lst (Fd.map V.str))) PySem.F.slot_list_pop PySem.F.type_list_pop (fun X g => mt_popAt) (ev 3) hl3 ?_ ?_)) fun vs H4 k4 ⟨v, e, k, x, e2, h⟩ => ⟨k, x, by rw [e, e2], h⟩
      · exact AK.imp (ak_1 (EK.sub (EK.imp (P' := fun v H' => ∃ k : Nat, v = nI k ∧ k < L.length ∧ DiceAt H' Dd ∧ H' lf = some (.lst (L.map V.str)) ∧ H' fn = some (.lst (Fd.map V.str))) (e_roll (m := L.length) GR (Nat.le_refl _) (k3.tok ht) hd3 hpos (by omega) (ev 0) (EK.is (e_lenSeq TL.len (ev 3) (.inl (.inl (.inl hl3)))) (by rw [List.length_map]))) fun v H4 k4 ⟨k, hk, e, hd4⟩ => ⟨k, e, hk, hd4, k4.at hl3 (by simpa using Ne.symm (hDl n1)), k4.at hf3 (by simpa using Ne.symm (hDl n2))⟩) (by simp))) fun vs H4 k4 ⟨v, e, k, e2, h⟩ => ⟨k, by rw [e, e2], h⟩
      · intro vs H4 k4 ⟨k, e, hk, hd4, hl4, hf4⟩
        subst e
        refine fun H5 k5 Q q' => ⟨lf, _, (k : Int), k, .str L[k], rfl, rfl, k5.xat hl4, by omega, by omega, ?_, ?_, q' _ _ (Kp.put (k5.xat hl4) rfl (by simp)) ⟨k, L[k], rfl, List.getElem?_eq_getElem hk, ?_, ?_, ?_⟩⟩
        · rw [List.length_map]
          exact PySem.seqIndex_of (by omega) (by omega)
        · rw [List.getElem?_map, List.getElem?_eq_getElem hk]
          rfl
        · exact (hd4.ex k5).at (Kp.put1 (G := B.G) (k5.xat hl4)) (by simpa using hDl n1)
        · rw [upd_same]
          exact congrArg (fun z => some (HO.lst z)) (eraseIdx_map _ _ _)
        · rw [upd_ne (Ne.symm ne)]
          exact k5.xat hf4
    · intro vs H4 k4 ⟨k, x, e, hx, hd4, hl4, hf4⟩
      subst e
      have hfl : Fd.length ≤ 100 := by
        have := hperm.length_eq
        rw [List.length_append] at this
        omega
      refine fun H5 k5 Q q' => ⟨fn, _, .str x, rfl, rfl, k5.xat hf4, by rw [List.length_map]; exact sz_lt (by omega), q' _ _ (Kp.put (k5.xat hf4) rfl (by simp)) ⟨L.eraseIdx k, Fd ++ [x], (hd4.ex k5).at (Kp.put1 (G := B.G) (k5.xat hf4)) (by simpa using hDl n2), ?_, ?_, ?_, ?_⟩⟩
      · rw [upd_ne ne]
        exact k5.xat hl4
      · rw [upd_same, List.map_append]
        rfl
      · have := len_eraseIdx hx
        omega
      · refine (List.Perm.append_left _ (List.perm_append_comm (l₁ := Fd) (l₂ := [x]))).trans ?_
        rw [← List.append_assoc]
        refine ((List.Perm.append_right Fd (List.perm_append_comm (l₁ := L.eraseIdx k) (l₂ := [x]))).trans ?_)
        exact (List.Perm.append_right Fd (perm_erase hx)).trans hperm
    · exact Kp.step k3 k4 fun s hs => by
        simp only [List.mem_cons, List.not_mem_nil, or_false] at hs
        rcases hs with rfl | rfl | rfl
        · exact .inl (by simp)
        · exact .inr n1
        · exact .inr n2
  · subst e
    refine s_ret (ev 4) fun v H4 k4 e => hD _ _ (k3.then k4) (hP v H4 fn Fd e n2 (k4.xat hf3) ?_ ?_ (hd3.ex k4))
    · have := hperm.nodup_iff.mpr hnd
      exact (List.nodup_append.mp this).2.1
    · exact fun x hx => hperm.mem_iff.mp (List.mem_append_right _ hx)
end
end Pm
end
/-! ## M1 -/
section
set_option Elab.async false
set_option linter.all false
set_option maxRecDepth 100000
set_option maxHeartbeats 2000000
namespace Pm
/-! ### asking, in plain mathematics -/
structure DM (α ρ : Type) where
  L : α → List ρ
  acc : α → ρ → Bool
  rk : ρ → α → Nat
  q : ρ → Nat
section
variable {α ρ : Type} [DecidableEq α] [DecidableEq ρ]
inductive Rej (T : α → List ρ) (acc : α → ρ → Bool) (rk : ρ → α → Nat) (q : ρ → Nat) : α → ρ → Prop
  | no {a : α} {r : ρ} : acc a r = false → Rej T acc rk q a r
  | full {a : α} {r : ρ} (S : List α) (j : α → Nat) : S.Nodup → S.length = q r → (∀ s ∈ S, acc s r = true ∧ rk r s < rk r a ∧ (T s)[j s]? = some r) → (∀ s ∈ S, ∀ i r', i < j s → (T s)[i]? = some r' → Rej T acc rk q s r') → Rej T acc rk q a r
theorem Rej.mono {T T' : α → List ρ} {acc : α → ρ → Bool} {rk : ρ → α → Nat} {q : ρ → Nat} (hT : ∀ (s : α) (i : Nat) (x : ρ), (T s)[i]? = some x → (T' s)[i]? = some x) {a : α} {r : ρ} (h : Rej T acc rk q a r) : Rej T' acc rk q a r := by
  induction h with
  | no h => exact .no h
  | full S j h1 h2 h3 h4 ih =>
    refine .full S j h1 h2 (fun s hs => ⟨(h3 s hs).1, (h3 s hs).2.1, hT _ _ _ (h3 s hs).2.2⟩) fun s hs i r' hi hr' => ?_
    have hj := (List.getElem?_eq_some_iff.mp (h3 s hs).2.2).1
    have hi' : i < (T s).length := Nat.lt_trans hi hj
    have e1 := hT s i _ (List.getElem?_eq_getElem hi')
    rw [e1] at hr'
    cases Option.some.inj hr'
    exact ih s hs i _ hi (List.getElem?_eq_getElem hi')
/-- what asking keeps true -/
structure Val (M : DM α ρ) (h : α → Option ρ) (n : α → Nat) : Prop where
  le : ∀ a, n a ≤ (M.L a).length
  held : ∀ a r, h a = some r → ∃ i, n a = i + 1 ∧ (M.L a)[i]? = some r ∧ M.acc a r = true
  cap : ∀ (r : ρ) (S : List α), S.Nodup → (∀ s ∈ S, h s = some r) → S.length ≤ M.q r
  rej : ∀ a i r, i < n a → (M.L a)[i]? = some r → h a ≠ some r → Rej (fun b => (M.L b).take (n b)) M.acc M.rk M.q a r
  gone : ∀ a i r, i < n a → (M.L a)[i]? = some r → h a ≠ some r → M.acc a r = false ∨ ((∃ S : List α, S.Nodup ∧ S.length = M.q r ∧ ∀ s ∈ S, h s = some r) ∧ ∀ s, h s = some r → M.rk r s < M.rk r a)
def bump (n : α → Nat) (a : α) : α → Nat := fun b => if b = a then n a + 1 else n b
def put (h : α → Option ρ) (a : α) (o : Option ρ) : α → Option ρ := fun b => if b = a then o else h b
theorem put_self {h : α → Option ρ} {a : α} {o : Option ρ} : put h a o a = o := if_pos rfl
theorem put_ne {h : α → Option ρ} {a b : α} {o : Option ρ} (e : b ≠ a) : put h a o b = h b := if_neg e
theorem bump_self {n : α → Nat} {a : α} : bump n a a = n a + 1 := if_pos rfl
theorem bump_ne {n : α → Nat} {a b : α} (e : b ≠ a) : bump n a b = n b := if_neg e
theorem le_bump {n : α → Nat} {a b : α} : n b ≤ bump n a b := by
  unfold bump
  split
  · rename_i e
    subst e
    omega
  · exact Nat.le_refl _
theorem nodup_inj {xs : List ρ} (nd : xs.Nodup) {i j : Nat} {x : ρ} (h1 : xs[i]? = some x) (h2 : xs[j]? = some x) : i = j := by
  obtain ⟨hi, e1⟩ := List.getElem?_eq_some_iff.mp h1
  obtain ⟨hj, e2⟩ := List.getElem?_eq_some_iff.mp h2
  exact (List.getElem_inj nd).mp (e1.trans e2.symm)
section
variable {M : DM α ρ} {h : α → Option ρ} {n : α → Nat} {a w : α} {r : ρ}
theorem Val.mono (v : Val M h n) {b : α} {x : ρ} (hr : Rej (fun b => (M.L b).take (n b)) M.acc M.rk M.q b x) (a : α) : Rej (fun b => (M.L b).take (bump n a b)) M.acc M.rk M.q b x := by
  refine hr.mono fun s i x hx => ?_
  rw [List.getElem?_take] at hx ⊢
  split at hx
  · rename_i hi
    rw [if_pos (Nat.lt_of_lt_of_le hi le_bump)]
    exact hx
  · cases hx
/-- the S of a full room makes a refusal -/
theorem Val.mkRej (v : Val M h n) (nd : ∀ b, (M.L b).Nodup) (ha : h a = none) (hr : (M.L a)[n a]? = some r) (hacc : M.acc a r = true) {S : List α} {u : α} (nS : S.Nodup) (lS : S.length = M.q r) (hS : ∀ s ∈ S, (s = a ∨ h s = some r) ∧ M.rk r s < M.rk r u) : Rej (fun b => (M.L b).take (bump n a b)) M.acc M.rk M.q u r := by
  refine .full S (fun s => bump n a s - 1) nS lS (fun s hs => ?_) fun s hs i r' hi hr' => ?_
  · obtain ⟨h1, h2⟩ := hS s hs
    by_cases e : s = a
    · subst e
      refine ⟨hacc, h2, ?_⟩
      rw [List.getElem?_take, bump_self, if_pos (by omega)]
      exact hr
    · obtain ⟨k, e1, e2, e3⟩ := v.held s r (h1.resolve_left e)
      refine ⟨e3, h2, ?_⟩
      rw [List.getElem?_take, bump_ne e, e1, if_pos (by omega)]
      exact e2
  · obtain ⟨h1, h2⟩ := hS s hs
    refine v.mono ?_ a
    have hr'' : (M.L s)[i]? = some r' := by
      have hr' : ((M.L s).take (bump n a s))[i]? = some r' := hr'
      rw [List.getElem?_take] at hr'
      split at hr'
      · exact hr'
      · cases hr'
    have hi : i < bump n a s - 1 := hi
    by_cases e : s = a
    · subst e
      rw [bump_self] at hi
      exact v.rej _ i r' (by omega) hr'' (by rw [ha]; simp)
    · rw [bump_ne e] at hi
      obtain ⟨k, e1, e2, e3⟩ := v.held s r (h1.resolve_left e)
      refine v.rej s i r' (by omega) hr'' fun z => ?_
      rw [h1.resolve_left e] at z
      cases z
      have := nodup_inj (nd s) hr'' e2
      omega
variable (v : Val M h n) (nd : ∀ b, (M.L b).Nodup) (ha : h a = none) (hr : (M.L a)[n a]? = some r)
include v nd ha hr
theorem Val.leB (b : α) : bump n a b ≤ (M.L b).length := by
  by_cases e : b = a
  · subst e
    rw [bump_self]
    exact (List.getElem?_eq_some_iff.mp hr).1
  · rw [bump_ne e]
    exact v.le b
/-- an index passed, of the old state or the new one -/
theorem Val.old {b : α} {i : Nat} {x : ρ} (hi : i < bump n a b) (hx : (M.L b)[i]? = some x) : i < n b ∨ (b = a ∧ i = n a ∧ x = r) := by
  by_cases e : b = a
  · subst e
    rw [bump_self] at hi
    by_cases h2 : i < n b
    · exact .inl h2
    · have : i = n b := by omega
      subst this
      rw [hr] at hx
      exact .inr ⟨rfl, rfl, (Option.some.inj hx).symm⟩
  · rw [bump_ne e] at hi
    exact .inl hi
theorem Val.no (hacc : M.acc a r = false) : Val M h (bump n a) where
  le := v.leB nd ha hr
  held := fun b x hb => by
    have e : b ≠ a := fun z => by rw [z, ha] at hb; cases hb
    rw [bump_ne e]
    exact v.held b x hb
  cap := v.cap
  rej := fun b i x hi hx hb => by
    rcases v.old nd ha hr hi hx with z | ⟨rfl, _, rfl⟩
    · exact v.mono (v.rej b i x z hx hb) a
    · exact .no hacc
  gone := fun b i x hi hx hb => by
    rcases v.old nd ha hr hi hx with z | ⟨rfl, _, rfl⟩
    · exact v.gone b i x z hx hb
    · exact .inl hacc
theorem Val.self (hacc : M.acc a r = true) {S : List α} (nS : S.Nodup) (lS : S.length = M.q r) (hS : ∀ s ∈ S, h s = some r) (hb : ∀ s, h s = some r → M.rk r s < M.rk r a) : Val M h (bump n a) where
  le := v.leB nd ha hr
  held := fun b x hb => by
    have e : b ≠ a := fun z => by rw [z, ha] at hb; cases hb
    rw [bump_ne e]
    exact v.held b x hb
  cap := v.cap
  rej := fun b i x hi hx hbx => by
    rcases v.old nd ha hr hi hx with z | ⟨rfl, _, rfl⟩
    · exact v.mono (v.rej b i x z hx hbx) a
    · exact v.mkRej nd ha hr hacc nS lS fun s hs => ⟨.inr (hS s hs), hb s (hS s hs)⟩
  gone := fun b i x hi hx hbx => by
    rcases v.old nd ha hr hi hx with z | ⟨rfl, _, rfl⟩
    · exact v.gone b i x z hx hbx
    · exact .inr ⟨⟨S, nS, lS, hS⟩, hb⟩
theorem Val.room (hacc : M.acc a r = true) (hroom : ∀ S : List α, S.Nodup → (∀ s ∈ S, h s = some r) → S.length < M.q r) : Val M (put h a (some r)) (bump n a) where
  le := v.leB nd ha hr
  held := fun b x hb => by
    by_cases e : b = a
    · subst e
      rw [put_self] at hb
      cases hb
      exact ⟨n b, bump_self, hr, hacc⟩
    · rw [put_ne e] at hb
      rw [bump_ne e]
      exact v.held b x hb
  cap := fun x S nS hS => by
    by_cases hm : a ∈ S
    · have e : x = r := by
        have := hS a hm
        rw [put_self] at this
        exact (Option.some.inj this).symm
      subst e
      have h1 := hroom (S.erase a) (nS.erase a) fun s hs => by
        have hs1 := (List.Nodup.mem_erase_iff nS).mp hs
        have := hS s hs1.2
        rwa [put_ne hs1.1] at this
      have := List.length_erase_of_mem hm
      have : 0 < S.length := List.length_pos_of_mem hm
      omega
    · exact v.cap x S nS fun s hs => by
        have := hS s hs
        have e : s ≠ a := fun z => hm (by rw [← z]; exact hs)
        rwa [put_ne e] at this
  rej := fun b i x hi hx hbx => by
    rcases v.old nd ha hr hi hx with z | ⟨rfl, _, rfl⟩
    · refine v.mono (v.rej b i x z hx fun hb => hbx ?_) a
      have e : b ≠ a := fun z => by rw [z, ha] at hb; cases hb
      rwa [put_ne e]
    · exact absurd put_self hbx
  gone := fun b i x hi hx hbx => by
    rcases v.old nd ha hr hi hx with z | ⟨rfl, _, rfl⟩
    · have hb' : h b ≠ some x := fun hb => hbx (by
        have e : b ≠ a := fun z => by rw [z, ha] at hb; cases hb
        rwa [put_ne e])
      rcases v.gone b i x z hx hb' with g | ⟨⟨S, nS, lS, hS⟩, g⟩
      · exact .inl g
      · have hxr : x ≠ r := fun e => by
          subst e
          have := hroom S nS hS
          omega
        have hsame : ∀ s, put h a (some r) s = some x ↔ h s = some x := fun s => by
          by_cases e : s = a
          · subst e
            rw [put_self, ha]
            constructor
            · intro e
              exact absurd (Option.some.inj e).symm hxr
            · intro e
              cases e
          · rw [put_ne e]
        exact .inr ⟨⟨S, nS, lS, fun s hs => (hsame s).mpr (hS s hs)⟩, fun s hs => g s ((hsame s).mp hs)⟩
    · exact absurd put_self hbx
theorem Val.swap (hacc : M.acc a r = true) (hw : h w = some r) {S : List α} (nS : S.Nodup) (lS : S.length = M.q r) (hS : ∀ s ∈ S, h s = some r) (haw : M.rk r a < M.rk r w) (hsw : ∀ s, h s = some r → s ≠ w → M.rk r s < M.rk r w) : Val M (put (put h w none) a (some r)) (bump n a) := by
  have hwa : w ≠ a := fun z => by rw [z, ha] at hw; cases hw
  have hwS : w ∈ S := by
    by_cases hm : w ∈ S
    · exact hm
    · have := v.cap r (w :: S) (List.nodup_cons.mpr ⟨hm, nS⟩) fun s hs => by
        rcases List.mem_cons.mp hs with rfl | z
        · exact hw
        · exact hS s z
      rw [List.length_cons] at this
      omega
  have haS : a ∉ S := fun z => by
    have := hS a z
    rw [ha] at this
    cases this
  have hv : ∀ s, put (put h w none) a (some r) s = if s = a then some r else if s = w then none else h s := fun s => rfl
  have nS' : (a :: S.erase w).Nodup := List.nodup_cons.mpr ⟨fun z => haS (List.mem_of_mem_erase z), nS.erase w⟩
  have lS' : (a :: S.erase w).length = M.q r := by
    rw [List.length_cons, List.length_erase_of_mem hwS, ← lS]
    have := List.length_pos_of_mem hwS
    omega
  have hS' : ∀ s ∈ a :: S.erase w, put (put h w none) a (some r) s = some r := fun s hs => by
    rw [hv]
    rcases List.mem_cons.mp hs with rfl | z
    · rw [if_pos rfl]
    · have z' := (List.Nodup.mem_erase_iff nS).mp z
      split
      · rfl
      · rw [if_neg z'.1]
        exact hS s z'.2
  have hnew : ∀ s, put (put h w none) a (some r) s = some r → s = a ∨ (h s = some r ∧ s ≠ w) := fun s hs => by
    rw [hv] at hs
    split at hs
    · exact .inl ‹_›
    · split at hs
      · cases hs
      · exact .inr ⟨hs, ‹_›⟩
  have hother : ∀ s x, x ≠ r → (put (put h w none) a (some r) s = some x ↔ h s = some x) := fun s x hx => by
    rw [hv]
    split
    · rename_i e
      subst e
      rw [ha]
      constructor
      · intro e
        exact absurd (Option.some.inj e).symm hx
      · intro e
        cases e
    · split
      · rename_i e
        subst e
        rw [hw]
        constructor
        · intro e
          cases e
        · intro e
          exact absurd (Option.some.inj e).symm hx
      · exact Iff.rfl
  refine ⟨v.leB nd ha hr, fun b x hb => ?_, fun x T nT hT => ?_, fun b i x hi hx hbx => ?_, fun b i x hi hx hbx => ?_⟩
  · by_cases e : b = a
    · subst e
      rw [hv, if_pos rfl] at hb
      cases hb
      exact ⟨n b, bump_self, hr, hacc⟩
    · rw [hv, if_neg e] at hb
      split at hb
      · cases hb
      · rw [bump_ne e]
        exact v.held b x hb
  · by_cases hxr : x = r
    · subst hxr
      by_cases hm : a ∈ T
      · have hwT : w ∉ T := fun z => by
          have := hT w z
          rw [hv, if_neg hwa, if_pos rfl] at this
          cases this
        have := v.cap x (w :: T.erase a) (List.nodup_cons.mpr ⟨fun z => hwT (List.mem_of_mem_erase z), nT.erase a⟩) fun s hs => by
          rcases List.mem_cons.mp hs with rfl | z
          · exact hw
          · have z' := (List.Nodup.mem_erase_iff nT).mp z
            exact ((hnew s (hT s z'.2)).resolve_left z'.1).1
        rw [List.length_cons, List.length_erase_of_mem hm] at this
        have := List.length_pos_of_mem hm
        omega
      · exact v.cap x T nT fun s hs => ((hnew s (hT s hs)).resolve_left fun z => hm (z ▸ hs)).1
    · exact v.cap x T nT fun s hs => (hother s x hxr).mp (hT s hs)
  · rcases v.old nd ha hr hi hx with z | ⟨rfl, _, rfl⟩
    · by_cases hb : h b = some x
      · have hba : b ≠ a := fun e => by rw [e, ha] at hb; cases hb
        have hbw : b = w := by
          rw [hv, if_neg hba] at hbx
          by_cases e : b = w
          · exact e
          · rw [if_neg e] at hbx
            exact absurd hb hbx
        subst hbw
        rw [hw] at hb
        cases hb
        refine v.mkRej nd ha hr hacc nS' lS' fun s hs => ?_
        rcases List.mem_cons.mp hs with rfl | z
        · exact ⟨.inl rfl, haw⟩
        · have z' := (List.Nodup.mem_erase_iff nS).mp z
          exact ⟨.inr (hS s z'.2), hsw s (hS s z'.2) z'.1⟩
      · exact v.mono (v.rej b i x z hx hb) a
    · exact absurd (by rw [hv, if_pos rfl]) hbx
  · rcases v.old nd ha hr hi hx with z | ⟨rfl, _, rfl⟩
    · by_cases hb : h b = some x
      · have hba : b ≠ a := fun e => by rw [e, ha] at hb; cases hb
        have hbw : b = w := by
          rw [hv, if_neg hba] at hbx
          by_cases e : b = w
          · exact e
          · rw [if_neg e] at hbx
            exact absurd hb hbx
        subst hbw
        rw [hw] at hb
        cases hb
        refine .inr ⟨⟨_, nS', lS', hS'⟩, fun s hs => ?_⟩
        rcases hnew s hs with rfl | ⟨h1, h2⟩
        · exact haw
        · exact hsw s h1 h2
      · rcases v.gone b i x z hx hb with g | ⟨⟨S0, n0, l0, h0⟩, g⟩
        · exact .inl g
        · by_cases hxr : x = r
          · subst hxr
            refine .inr ⟨⟨_, nS', lS', hS'⟩, fun s hs => ?_⟩
            rcases hnew s hs with rfl | ⟨h1, h2⟩
            · exact Nat.lt_trans haw (g w hw)
            · exact g s h1
          · exact .inr ⟨⟨S0, n0, l0, fun s hs => (hother s x hxr).mpr (h0 s hs)⟩, fun s hs => g s ((hother s x hxr).mp hs)⟩
    · exact absurd (by rw [hv, if_pos rfl]) hbx
end
/-- nobody asks any more -/
def Fin (M : DM α ρ) (h : α → Option ρ) (n : α → Nat) : Prop := ∀ a, h a = none → n a = (M.L a).length
theorem nodup_sub_len {S T : List α} (nS : S.Nodup) (hs : ∀ s ∈ S, s ∈ T) : S.length ≤ T.length := by
  induction S generalizing T with
  | nil => simp
  | cons x S ih =>
    obtain ⟨h1, h2⟩ := List.nodup_cons.mp nS
    have hx := hs x (by simp)
    have := ih (T := T.erase x) h2 fun s hs' => (List.mem_erase_of_ne (fun e => h1 (by rw [← e]; exact hs'))).mpr (hs s (List.mem_cons_of_mem _ hs'))
    rw [List.length_erase_of_mem hx] at this
    have := List.length_pos_of_mem hx
    rw [List.length_cons]
    omega
theorem Val.notHeld {M : DM α ρ} {h : α → Option ρ} {n : α → Nat} (v : Val M h n) (f : Fin M h n) (nd : ∀ b, (M.L b).Nodup) {a : α} {r : ρ} (hr : Rej M.L M.acc M.rk M.q a r) : h a ≠ some r := by
  induction hr with
  | no hacc =>
    intro e
    obtain ⟨_, _, _, h2⟩ := v.held _ _ e
    rw [hacc] at h2
    cases h2
  | @full a r S j nS lS hS _ ih =>
    intro e
    have haS : a ∉ S := fun z => Nat.lt_irrefl _ (hS a z).2.1
    obtain ⟨s, hs, hns⟩ : ∃ s ∈ S, h s ≠ some r := by
      refine Classical.byContradiction fun z => ?_
      have := v.cap r (a :: S) (List.nodup_cons.mpr ⟨haS, nS⟩) fun s hs => by
        rcases List.mem_cons.mp hs with rfl | w
        · exact e
        · exact Classical.byContradiction fun y => z ⟨s, w, y⟩
      rw [List.length_cons] at this
      omega
    obtain ⟨h1, h2, h3⟩ := hS s hs
    have hj : j s < n s := by
      cases hh : h s with
      | none =>
        rw [f s hh]
        exact (List.getElem?_eq_some_iff.mp h3).1
      | some x =>
        obtain ⟨k, e1, e2, _⟩ := v.held s x hh
        have hxr : x ≠ r := fun z => hns (by rw [hh, z])
        rw [e1]
        rcases Nat.lt_trichotomy k (j s) with z | z | z
        · exact absurd hh (ih s hs k x z e2)
        · rw [z, h3] at e2
          exact absurd (Option.some.inj e2).symm hxr
        · omega
    rcases v.gone s (j s) r hj h3 hns with g | ⟨_, g⟩
    · rw [h1] at g
      cases g
    · have := g a e
      omega
theorem Val.uniq {M : DM α ρ} {h1 h2 : α → Option ρ} {n1 n2 : α → Nat} (v1 : Val M h1 n1) (f1 : Fin M h1 n1) (v2 : Val M h2 n2) (f2 : Fin M h2 n2) (nd : ∀ b, (M.L b).Nodup) (a : α) : h1 a = h2 a := by
  have full : ∀ {h : α → Option ρ} {n : α → Nat}, Val M h n → ∀ {b : α} {i : Nat} {r : ρ}, i < n b → (M.L b)[i]? = some r → h b ≠ some r → Rej M.L M.acc M.rk M.q b r := fun {h n} v {b i r} hi hr hb => (v.rej b i r hi hr hb).mono fun s i x hx => by
    rw [List.getElem?_take] at hx
    split at hx
    · exact hx
    · cases hx
  have key : ∀ {h1 h2 : α → Option ρ} {n1 n2 : α → Nat}, Val M h1 n1 → Fin M h1 n1 → Val M h2 n2 → Fin M h2 n2 → ∀ r, h1 a = some r → h2 a = some r := by
    intro h1 h2 n1 n2 v1 f1 v2 f2 r e
    obtain ⟨i, e1, e2, e3⟩ := v1.held a r e
    refine Classical.byContradiction fun hne => ?_
    by_cases hi : i < n2 a
    · exact v1.notHeld f1 nd (full v2 hi e2 hne) e
    · cases hh : h2 a with
      | none =>
        have := f2 a hh
        have := (List.getElem?_eq_some_iff.mp e2).1
        omega
      | some x =>
        obtain ⟨k, k1, k2, k3⟩ := v2.held a x hh
        have hki : k < n1 a := by omega
        refine v2.notHeld f2 nd (full v1 hki k2 fun z => ?_) hh
        rw [e] at z
        cases z
        exact hne hh
  cases e1 : h1 a with
  | some r => exact (key v1 f1 v2 f2 r e1).symm
  | none =>
    cases e2 : h2 a with
    | none => rfl
    | some r =>
      have := key v2 f2 v1 f1 r e2
      rw [e1] at this
      cases this
end
end Pm
end
/-! ## M2 -/
section
set_option Elab.async false
set_option linter.all false
set_option maxRecDepth 100000
set_option maxHeartbeats 2000000
namespace Pm
open PySem L2
/-! ### the fair as asking -/
section
variable {α ρ : Type} [DecidableEq α] [DecidableEq ρ] {M M' : DM α ρ} {h h' : α → Option ρ} {n n' : α → Nat}
theorem Val.prefix (v : Val M h n) (e1 : ∀ b, (M'.L b).take (n b) = (M.L b).take (n b)) (e2 : ∀ b, n b ≤ (M'.L b).length) (e3 : M'.acc = M.acc) (e4 : M'.rk = M.rk) (e5 : M'.q = M.q) : Val M' h n := by
  have ix : ∀ b i, i < n b → (M'.L b)[i]? = (M.L b)[i]? := fun b i hi => by
    have := congrArg (fun l => l[i]?) (e1 b)
    simp only [List.getElem?_take, if_pos hi] at this
    exact this
  have eT : (fun b => (M'.L b).take (n b)) = fun b => (M.L b).take (n b) := funext e1
  refine ⟨e2, fun a r ha => ?_, fun r S nS hS => by rw [e5]; exact v.cap r S nS hS, fun a i r hi hr ha => ?_, fun a i r hi hr ha => ?_⟩
  · obtain ⟨i, h1, h2, h3⟩ := v.held a r ha
    exact ⟨i, h1, by rw [ix a i (by omega)]; exact h2, by rw [e3]; exact h3⟩
  · rw [eT, e3, e4, e5]
    exact v.rej a i r hi (by rw [← ix a i hi]; exact hr) ha
  · rw [e3, e4, e5]
    exact v.gone a i r hi (by rw [← ix a i hi]; exact hr) ha
theorem Val.restart (v : Val M h n) (Z : α → Prop) (hZ : ∀ b, Z b → h' b = none ∧ n' b = 0) (hN : ∀ b, ¬ Z b → h' b = h b ∧ n' b = n b ∧ M'.L b = M.L b) (hacc : ∀ b r, ¬ Z b → r ∈ M.L b → M'.acc b r = M.acc b r)
    (hrow : ∀ b r, ¬ Z b → r ∈ M.L b → M.acc b r = true → M'.q r = M.q r ∧ M'.rk r = M.rk r ∧ ∀ s, r ∈ M.L s → M.acc s r = true → ¬ Z s) : Val M' h' n' := by
  have hold : ∀ b r, h' b = some r → ¬ Z b ∧ h b = some r := fun b r hb => by
    by_cases z : Z b
    · rw [(hZ b z).1] at hb
      cases hb
    · rw [(hN b z).1] at hb
      exact ⟨z, hb⟩
  have hlk : ∀ b r, h b = some r → r ∈ M.L b ∧ M.acc b r = true := fun b r hb => by
    obtain ⟨i, _, h2, h3⟩ := v.held b r hb
    exact ⟨List.mem_of_getElem? h2, h3⟩
  have rj : ∀ {a r}, Rej (fun b => (M.L b).take (n b)) M.acc M.rk M.q a r → ¬ Z a → r ∈ M.L a → Rej (fun b => (M'.L b).take (n' b)) M'.acc M'.rk M'.q a r := fun {a r} hr => by
    induction hr with
    | no h1 =>
      intro z hm
      exact .no (by rw [hacc _ _ z hm]; exact h1)
    | @full a r S j nS lS hS hE ih =>
      intro z hm
      cases hac : M.acc a r with
      | false => exact .no (by rw [hacc _ _ z hm]; exact hac)
      | true =>
        obtain ⟨q1, q2, q3⟩ := hrow a r z hm hac
        have mS : ∀ s ∈ S, r ∈ M.L s := fun s hs => List.mem_of_mem_take (List.mem_of_getElem? (hS s hs).2.2)
        have zS : ∀ s ∈ S, ¬ Z s := fun s hs => q3 s (mS s hs) (hS s hs).1
        refine .full S j nS (by rw [q1]; exact lS) (fun s hs => ?_) fun s hs i r' hi hr' => ?_
        · obtain ⟨s1, s2, s3⟩ := hS s hs
          refine ⟨by rw [hacc s r (zS s hs) (mS s hs)]; exact s1, by rw [q2]; exact s2, ?_⟩
          rw [(hN s (zS s hs)).2.2, (hN s (zS s hs)).2.1]
          exact s3
        · rw [(hN s (zS s hs)).2.2, (hN s (zS s hs)).2.1] at hr'
          exact ih s hs i r' hi hr' (zS s hs) (List.mem_of_mem_take (List.mem_of_getElem? hr'))
  refine ⟨fun a => ?_, fun a r ha => ?_, fun r S nS hS => ?_, fun a i r hi hr ha => ?_, fun a i r hi hr ha => ?_⟩
  · by_cases z : Z a
    · rw [(hZ a z).2]
      exact Nat.zero_le _
    · rw [(hN a z).2.1, (hN a z).2.2]
      exact v.le a
  · obtain ⟨z, hb⟩ := hold a r ha
    obtain ⟨i, h1, h2, h3⟩ := v.held a r hb
    exact ⟨i, by rw [(hN a z).2.1]; exact h1, by rw [(hN a z).2.2]; exact h2, by rw [hacc a r z (hlk a r hb).1]; exact h3⟩
  · cases S with
    | nil => exact Nat.zero_le _
    | cons s S' =>
      obtain ⟨z, hb⟩ := hold s r (hS s (by simp))
      rw [(hrow s r z (hlk s r hb).1 (hlk s r hb).2).1]
      exact v.cap r _ nS fun t ht => (hold t r (hS t ht)).2
  · by_cases z : Z a
    · rw [(hZ a z).2] at hi
      omega
    · rw [(hN a z).2.1] at hi
      rw [(hN a z).2.2] at hr
      rw [(hN a z).1] at ha
      exact rj (v.rej a i r hi hr ha) z (List.mem_of_getElem? hr)
  · by_cases z : Z a
    · rw [(hZ a z).2] at hi
      omega
    · rw [(hN a z).2.1] at hi
      rw [(hN a z).2.2] at hr
      rw [(hN a z).1] at ha
      have hm := List.mem_of_getElem? hr
      rw [hacc a r z hm]
      cases hac : M.acc a r with
      | false => exact .inl rfl
      | true =>
        obtain ⟨q1, q2, q3⟩ := hrow a r z hm hac
        rcases v.gone a i r hi hr ha with g | ⟨⟨S, nS, lS, hS⟩, g⟩
        · rw [hac] at g
          cases g
        · refine .inr ⟨⟨S, nS, by rw [q1]; exact lS, fun s hs => ?_⟩, fun s hs => by rw [q2]; exact g s (hold s r hs).2⟩
          have hs' := hS s hs
          rw [(hN s (q3 s (hlk s r hs').1 (hlk s r hs').2)).1]
          exact hs'
end
def FSt.nx (F : FSt) (a : Str) : Nat := match F.A.lookup a with
  | some x => x.n
  | none => 0
def FSt.acc (F : FSt) (a r : Str) : Bool := match F.R.lookup r with
  | some y => decide (a ∈ y.o)
  | none => false
def FM (F : FSt) : DM Str Str := ⟨F.la, F.acc, fun r a => (F.lo r).idxOf a, F.seats⟩
abbrev FV (F : FSt) : Prop := Val (FM F) F.held F.nx
theorem likes_acc {F : FSt} {a r : Str} (hr : r ∈ F.la a) : F.likes a r = F.acc a r := by
  unfold FSt.la at hr
  unfold FSt.likes FSt.acc
  cases hx : F.A.lookup a with
  | none => rw [hx] at hr; cases hr
  | some x =>
    rw [hx] at hr
    have hr : r ∈ x.l := hr
    cases hy : F.R.lookup r with
    | none => rfl
    | some y => simp [hr]
theorem likes_iff {F : FSt} {a r : Str} : F.likes a r = true ↔ r ∈ F.la a ∧ F.acc a r = true := by
  constructor
  · intro h
    have h0 := h
    unfold FSt.likes at h
    cases hx : F.A.lookup a with
    | none => rw [hx] at h; cases h
    | some x =>
      cases hy : F.R.lookup r with
      | none => rw [hx, hy] at h; cases h
      | some y =>
        rw [hx, hy] at h
        have hm : r ∈ F.la a := by
          unfold FSt.la
          rw [hx]
          have : r ∈ x.l ∧ a ∈ y.o := by simpa using h
          exact this.1
        exact ⟨hm, by rw [← likes_acc hm]; exact h0⟩
  · rintro ⟨h1, h2⟩
    rw [likes_acc h1]
    exact h2
/-- what stays when held and next change -/
theorem FM_eq {F G : FSt} (h1 : ∀ a, (G.A.lookup a).map (fun x => x.l) = (F.A.lookup a).map fun x => x.l) (h2 : G.R = F.R) : FM G = FM F := by
  have e1 : G.la = F.la := funext fun a => by
    have := h1 a
    unfold FSt.la
    cases hx : G.A.lookup a <;> cases hy : F.A.lookup a <;> rw [hx, hy] at this <;> simp_all
  have e2 : G.acc = F.acc := by
    funext a r
    unfold FSt.acc
    rw [h2]
  have e3 : G.lo = F.lo := by
    funext r
    unfold FSt.lo
    rw [h2]
  have e4 : G.seats = F.seats := by
    funext r
    unfold FSt.seats
    rw [h2]
  unfold FM
  rw [e1, e2, e3, e4]
theorem FM_setN {F : FSt} {a : Str} {k : Nat} : FM (F.setN a k) = FM F := FM_eq (fun b => by
  rw [look_setN]
  cases F.A.lookup b with
  | none => rfl
  | some x => by_cases e : b = a <;> simp [e]) rfl
theorem FM_setH {F : FSt} {a : Str} {o : Option Str} : FM (F.setH a o) = FM F := FM_eq (fun b => by
  rw [look_setH]
  cases F.A.lookup b with
  | none => rfl
  | some x => by_cases e : b = a <;> simp [e]) rfl
theorem held_setN {F : FSt} {a : Str} {k : Nat} : (F.setN a k).held = F.held := funext fun b => by
  unfold FSt.held
  rw [look_setN]
  cases F.A.lookup b with
  | none => rfl
  | some x => by_cases e : b = a <;> simp [e]
theorem held_setHp {F : FSt} {a : Str} {o : Option Str} (ha : a ∈ F.asks) : (F.setH a o).held = put F.held a o := funext fun b => by
  show ((F.setH a o).A.lookup b).bind (fun x => x.h) = if b = a then o else (F.A.lookup b).bind fun x => x.h
  rw [look_setH]
  by_cases e : b = a
  · subst e
    obtain ⟨x, hx⟩ := lookup_of_mem ha
    rw [hx]
    simp
  · rw [if_neg e]
    cases F.A.lookup b with
    | none => rfl
    | some x => simp [e]
theorem nx_setH {F : FSt} {a : Str} {o : Option Str} : (F.setH a o).nx = F.nx := funext fun b => by
  unfold FSt.nx
  rw [look_setH]
  cases F.A.lookup b with
  | none => rfl
  | some x => by_cases e : b = a <;> simp [e]
theorem nx_setN {F : FSt} {a : Str} {x : ARow} (hx : F.A.lookup a = some x) : (F.setN a (x.n + 1)).nx = bump F.nx a := funext fun b => by
  unfold bump
  by_cases e : b = a
  · subst e
    rw [if_pos rfl]
    unfold FSt.nx
    rw [look_setN, hx]
    simp
  · rw [if_neg e]
    unfold FSt.nx
    rw [look_setN]
    cases F.A.lookup b with
    | none => rfl
    | some x => simp [e]
theorem idx_ne {x w : Str} {l : List Str} (h : w ≠ x) : (x :: l).idxOf w = l.idxOf w + 1 := by
  rw [List.idxOf_cons]
  have : (x == w) = false := by simpa using Ne.symm h
  rw [this]
  rfl
theorem last_rank {p : Str → Bool} {w s : Str} : ∀ {l ini : List Str}, l.Nodup → l.filter p = ini ++ [w] → s ∈ ini → l.idxOf s < l.idxOf w
  | [], ini, _, h, _ => by
    simp at h
  | x :: l, ini, nd, h, hs => by
    obtain ⟨h1, h2⟩ := List.nodup_cons.mp nd
    rw [List.filter_cons] at h
    have mem : ∀ {y}, y ∈ l.filter p → y ≠ x := fun hy e => h1 (e ▸ (List.mem_filter.mp hy).1)
    split at h
    · cases ini with
      | nil => cases hs
      | cons y ini' =>
        rw [List.cons_append] at h
        injection h with e1 e2
        have hw : w ≠ x := mem (by rw [e2]; simp)
        rcases List.mem_cons.mp hs with rfl | z
        · rw [← e1, List.idxOf_cons_self, idx_ne hw]
          omega
        · have hsx : s ≠ x := mem (by rw [e2]; simp [z])
          rw [idx_ne hsx, idx_ne hw]
          have := last_rank h2 e2 z
          omega
    · have hw : w ≠ x := mem (by rw [h]; simp)
      have hsx : s ≠ x := mem (by rw [h]; simp [hs])
      rw [idx_ne hsx, idx_ne hw]
      have := last_rank h2 h hs
      omega
theorem fv_ask {F : FSt} {a : Str} (v : FV F) (nd : F.Nd) (hw : F.waits a = true) : FV (askF F a).1 := by
  obtain ⟨x, hx, hh, hn⟩ := waits_iff.mp hw
  have hr : x.l[x.n]? = some x.l[x.n] := List.getElem?_eq_getElem hn
  have hA : a ∈ F.asks := mem_asks hx
  have ela : F.la a = x.l := by unfold FSt.la; rw [hx]
  have enx : F.nx a = x.n := by unfold FSt.nx; rw [hx]
  have eh : F.held a = none := by unfold FSt.held; rw [hx]; exact hh
  have hndL : ∀ b, ((FM F).L b).Nodup := fun b => la_nd nd b
  have hrM : ((FM F).L a)[F.nx a]? = some x.l[x.n] := by
    show (F.la a)[F.nx a]? = _
    rw [ela, enx]
    exact hr
  have hmem : x.l[x.n] ∈ F.la a := by rw [ela]; exact List.getElem_mem hn
  unfold askF
  simp only [hx, hr]
  generalize x.l[x.n] = r at hrM hmem
  rw [likes_acc hmem]
  have hA1 : a ∈ (F.setN a (x.n + 1)).asks := by rw [asks_setN]; exact hA
  have e1 : ((F.setN a (x.n + 1)).setH a (some r)).held = put F.held a (some r) := by rw [held_setHp hA1, held_setN]
  have e2 : ((F.setN a (x.n + 1)).setH a (some r)).nx = bump F.nx a := by rw [nx_setH, nx_setN hx]
  split
  · rename_i hacc
    obtain ⟨y, hy⟩ : ∃ y, F.R.lookup r = some y := by
      unfold FSt.acc at hacc
      cases hy : F.R.lookup r with
      | none => rw [hy] at hacc; cases hacc
      | some y => exact ⟨y, rfl⟩
    have hay : a ∈ y.o := by
      unfold FSt.acc at hacc
      rw [hy] at hacc
      simpa using hacc
    have elo : F.lo r = y.o := by unfold FSt.lo; rw [hy]
    have hyR : ((F.setN a (x.n + 1)).setH a (some r)).R.lookup r = some y := hy
    have ein : ((F.setN a (x.n + 1)).setH a (some r)).inside r = y.o.filter fun b => decide (put F.held a (some r) b = some r) := by
      unfold FSt.inside
      rw [hyR]
      show y.o.filter (fun b => decide (((F.setN a (x.n + 1)).setH a (some r)).held b = some r)) = _
      rw [e1]
    have ndo : y.o.Nodup := nd.r _ (lookup_mem hy)
    have hin : ∀ s, F.held s = some r → s ∈ y.o := fun s hs => by
      obtain ⟨_, _, _, h3⟩ := v.held s r hs
      have h3 : F.acc s r = true := h3
      unfold FSt.acc at h3
      rw [hy] at h3
      simpa using h3
    have hins : ∀ s, s ∈ ((F.setN a (x.n + 1)).setH a (some r)).inside r ↔ s = a ∨ F.held s = some r := fun s => by
      rw [ein, List.mem_filter, decide_eq_true_iff]
      constructor
      · rintro ⟨h1, h2⟩
        by_cases e : s = a
        · exact .inl e
        · rw [put_ne e] at h2
          exact .inr h2
      · rintro (e | e)
        · subst e
          exact ⟨hay, put_self⟩
        · refine ⟨hin s e, ?_⟩
          rw [put_ne fun z => by rw [z, eh] at e; cases e]
          exact e
    have ndin : (((F.setN a (x.n + 1)).setH a (some r)).inside r).Nodup := by
      rw [ein]
      exact ndo.filter _
    have eq : (FM F).q r = F.seats r := rfl
    split
    · rename_i hc
      show Val (FM ((F.setN a (x.n + 1)).setH a (some r))) _ _
      rw [FM_setH, FM_setN, e1, e2]
      refine v.room hndL eh hrM hacc fun S nS hS => ?_
      have := nodup_sub_len (S := a :: S) (T := ((F.setN a (x.n + 1)).setH a (some r)).inside r) (List.nodup_cons.mpr ⟨fun z => (by have := hS a z; rw [eh] at this; cases this), nS⟩) fun s hs => (hins s).mpr ((List.mem_cons.mp hs).imp id (hS s))
      rw [List.length_cons] at this
      rw [eq]
      omega
    · rename_i hc
      obtain ⟨ini, w, hiw⟩ := SrtO.snoc_of (l := ((F.setN a (x.n + 1)).setH a (some r)).inside r) (by omega)
      have hlast : (((F.setN a (x.n + 1)).setH a (some r)).inside r).getLastD a = w := by rw [hiw]; simp
      rw [hlast]
      have hwi : w ∈ ((F.setN a (x.n + 1)).setH a (some r)).inside r := by rw [hiw]; simp
      have hrank : ∀ s, (s = a ∨ F.held s = some r) → s ≠ w → (FM F).rk r s < (FM F).rk r w := fun s hs hsw => by
        show (F.lo r).idxOf s < (F.lo r).idxOf w
        rw [elo]
        have h1 := (hins s).mpr hs
        rw [hiw] at h1
        rcases List.mem_append.mp h1 with z | z
        · exact last_rank (p := fun b => decide (put F.held a (some r) b = some r)) ndo (by rw [← ein]; exact hiw) z
        · exact absurd (List.mem_singleton.mp z) hsw
      let S := (((F.setN a (x.n + 1)).setH a (some r)).inside r).erase a
      have nS : S.Nodup := ndin.erase a
      have hS : ∀ s ∈ S, F.held s = some r := fun s hs => by
        obtain ⟨h1, h2⟩ := (List.Nodup.mem_erase_iff ndin).mp hs
        exact ((hins s).mp h2).resolve_left h1
      have lS : S.length = (FM F).q r := by
        have h1 := v.cap r S nS hS
        have h2 : S.length = (((F.setN a (x.n + 1)).setH a (some r)).inside r).length - 1 := List.length_erase_of_mem ((hins a).mpr (.inl rfl))
        rw [eq] at h1 ⊢
        omega
      have hAw : w ∈ ((F.setN a (x.n + 1)).setH a (some r)).asks := by
        rw [asks_setH, asks_setN]
        rcases (hins w).mp hwi with e | e
        · rw [e]; exact hA
        · exact held_asks e
      show Val (FM (((F.setN a (x.n + 1)).setH a (some r)).setH w none)) _ _
      rw [FM_setH, FM_setH, FM_setN, held_setHp hAw, nx_setH, e1, e2]
      by_cases hwa : w = a
      · have e3 : put (put F.held a (some r)) w none = F.held := funext fun b => by
          unfold put
          by_cases e : b = w
          · rw [if_pos e, e, hwa, eh]
          · rw [if_neg e, if_neg (fun z => e (z.trans hwa.symm))]
        rw [e3]
        refine v.self hndL eh hrM hacc nS lS hS fun s hs => ?_
        have := hrank s (.inr hs) fun e => by rw [e, hwa, eh] at hs; cases hs
        rwa [hwa] at this
      · have hwr : F.held w = some r := ((hins w).mp hwi).resolve_left hwa
        have e3 : put (put F.held a (some r)) w none = put (put F.held w none) a (some r) := funext fun b => by
          unfold put
          by_cases e : b = w
          · rw [if_pos e, if_neg (fun z => hwa (e.symm.trans z)), if_pos e]
          · rw [if_neg e, if_neg e]
        rw [e3]
        exact v.swap hndL eh hrM hacc hwr nS lS hS (hrank a (.inl rfl) (Ne.symm hwa)) fun s hs hsw => hrank s (.inr hs) hsw
  · rename_i hacc
    show Val (FM (F.setN a (x.n + 1))) _ _
    rw [FM_setN, held_setN, nx_setN hx]
    exact v.no hndL eh hrM ((Bool.not_eq_true (F.acc a r)).mp hacc)
end Pm
end
/-! ## M3 -/
section
set_option Elab.async false
set_option linter.all false
set_option maxRecDepth 100000
set_option maxHeartbeats 2000000
namespace Pm
open PySem L2
/-! ### the deeds, in plain mathematics -/
def mkA (F : FSt) : List (Str × List Str) := F.A.map fun p => (p.1, p.2.l)
structure GS (F : FSt) : Prop where
  ok : F.Ok
  nd : F.Nd
  v : FV F
  e : FEnd F
theorem fin_of {F : FSt} (v : FV F) (e : FEnd F) : Fin (FM F) F.held F.nx := fun a ha => by
  have hle := v.le a
  show F.nx a = (F.la a).length
  have hle : F.nx a ≤ (F.la a).length := hle
  have hw := e a
  unfold FSt.waits at hw
  unfold FSt.held at ha
  unfold FSt.nx FSt.la at hle ⊢
  cases hx : F.A.lookup a with
  | none => rfl
  | some x =>
    rw [hx] at hw ha hle
    have h1 : x.h = none := ha
    have h2 : ¬ x.n < x.l.length := by
      intro h
      simp [h1, h] at hw
    have hle : x.n ≤ x.l.length := hle
    show x.n = x.l.length
    omega
theorem mkA_setN {F : FSt} {a : Str} {k : Nat} : mkA (F.setN a k) = mkA F := by
  unfold mkA FSt.setN
  rw [List.map_map]
  refine List.map_congr_left fun p _ => ?_
  show (p.1, (if p.1 = a then { p.2 with n := k } else p.2).l) = _
  split <;> rfl
theorem mkA_setH {F : FSt} {a : Str} {o : Option Str} : mkA (F.setH a o) = mkA F := by
  unfold mkA FSt.setH
  rw [List.map_map]
  refine List.map_congr_left fun p _ => ?_
  show (p.1, (if p.1 = a then { p.2 with h := o } else p.2).l) = _
  split <;> rfl
theorem mkA_fresh {F : FSt} {as : List Str} : mkA (F.fresh as) = mkA F := by
  unfold mkA FSt.fresh
  rw [List.map_map]
  refine List.map_congr_left fun p _ => ?_
  show (p.1, (if p.1 ∈ as then { p.2 with h := none, n := 0 } else p.2).l) = _
  split <;> rfl
theorem mkA_ask {F : FSt} {a : Str} : mkA (askF F a).1 = mkA F ∧ (askF F a).1.R = F.R := by
  unfold askF
  split
  · exact ⟨rfl, rfl⟩
  · split
    · exact ⟨rfl, rfl⟩
    · split
      · split
        · exact ⟨by rw [mkA_setH, mkA_setN], rfl⟩
        · exact ⟨by rw [mkA_setH, mkA_setH, mkA_setN], rfl⟩
      · exact ⟨mkA_setN, rfl⟩
theorem Nd.of {F G : FSt} (nd : F.Nd) (h1 : mkA G = mkA F) (h2 : G.R = F.R) : G.Nd := ⟨fun p hp => by
  have : (p.1, p.2.l) ∈ mkA F := by
    rw [← h1]
    exact List.mem_map.mpr ⟨p, hp, rfl⟩
  obtain ⟨q, hq, e⟩ := List.mem_map.mp this
  have e2 : q.2.l = p.2.l := congrArg Prod.snd e
  rw [← e2]
  exact nd.a q hq, by rw [h2]; exact nd.r⟩
theorem runs_ok {F F' : FSt} (v : FV F) (nd : F.Nd) (h : FRuns F F') : FV F' ∧ F'.Nd ∧ mkA F' = mkA F ∧ F'.R = F.R := by
  induction h with
  | refl => exact ⟨v, nd, rfl, rfl⟩
  | step _ hw ih =>
    obtain ⟨i1, i2, i3, i4⟩ := ih
    obtain ⟨e1, e2⟩ := mkA_ask (F := ‹FSt›) (a := ‹Str›)
    exact ⟨fv_ask i1 i2 hw, Nd.of i2 e1 e2, e1.trans i3, e2.trans i4⟩
theorem look_fresh {F : FSt} {as : List Str} {b : Str} : (F.fresh as).A.lookup b = (F.A.lookup b).map fun x => if b ∈ as then { x with h := none, n := 0 } else x := lookup_map (u := fun (c : Str) (x : ARow) => if c ∈ as then { x with h := none, n := 0 } else x)
theorem FM_fresh {F : FSt} {as : List Str} : FM (F.fresh as) = FM F := FM_eq (fun b => by
  rw [look_fresh]
  cases F.A.lookup b with
  | none => rfl
  | some x => by_cases e : b ∈ as <;> simp [e]) rfl
theorem held_fresh {F : FSt} {as : List Str} {b : Str} : (F.fresh as).held b = if b ∈ as then none else F.held b := by
  unfold FSt.held
  rw [look_fresh]
  cases F.A.lookup b with
  | none => simp
  | some x => by_cases e : b ∈ as <;> simp [e]
theorem nx_fresh {F : FSt} {as : List Str} {b : Str} : (F.fresh as).nx b = if b ∈ as then 0 else F.nx b := by
  unfold FSt.nx
  rw [look_fresh]
  cases F.A.lookup b with
  | none => simp
  | some x => by_cases e : b ∈ as <;> simp [e]
/-- who is no asker -/
theorem look_none {F : FSt} {b : Str} (h : b ∉ F.asks) : F.A.lookup b = none := by
  cases hx : F.A.lookup b with
  | none => rfl
  | some x => exact absurd (mem_asks hx) h
theorem la_none {F : FSt} {b : Str} (h : b ∉ F.asks) : F.la b = [] := by
  unfold FSt.la
  rw [look_none h]
theorem la_asks {F : FSt} {b r : Str} (h : r ∈ F.la b) : b ∈ F.asks := by
  refine Classical.byContradiction fun z => ?_
  rw [la_none z] at h
  cases h
/-- rows looked up -/
theorem look_filter {ρ : Type} {a b : Str} : ∀ {as : List (Str × ρ)}, (as.filter fun p => decide (p.1 ≠ a)).lookup b = if b = a then none else as.lookup b
  | [] => by simp
  | (k, x) :: as => by
    rw [List.filter_cons]
    by_cases hk : k = a
    · subst hk
      rw [if_neg (by simp), look_filter, List.lookup_cons]
      by_cases e : b = k
      · rw [if_pos e, if_pos e]
      · rw [if_neg e, if_neg e]
        have : (b == k) = false := by simpa using e
        rw [this]
    · rw [if_pos (by simpa using hk), List.lookup_cons, List.lookup_cons, look_filter]
      cases hb : b == k with
      | true =>
        have e : b = k := beq_iff_eq.mp hb
        have hba : b ≠ a := fun z => hk (e ▸ z)
        simp [hba]
      | false => rfl
theorem look_app {ρ : Type} {b : Str} {as bs : List (Str × ρ)} : (as ++ bs).lookup b = (as.lookup b).or (bs.lookup b) := by
  induction as with
  | nil => simp
  | cons p as ih =>
    obtain ⟨k, x⟩ := p
    rw [List.cons_append, List.lookup_cons, List.lookup_cons]
    cases b == k <;> simp [ih]
theorem look_putA {ρ : Type} {as : List (Str × ρ)} {k b : Str} {v : ρ} : (putA as k v).lookup b = if b = k then some v else as.lookup b := by
  unfold putA
  split
  · rename_i hk
    have e := lookup_map (u := fun (c : Str) (x : ρ) => if c = k then v else x) (a := b) (as := as)
    rw [e]
    by_cases h : b = k
    · subst h
      obtain ⟨r, hr⟩ := lookup_of_mem hk
      rw [hr]
      simp
    · cases as.lookup b <;> simp [h]
  · rename_i hk
    rw [look_app]
    by_cases h : b = k
    · subst h
      cases hl : as.lookup b with
      | some r => exact absurd (List.mem_map.mpr ⟨_, lookup_mem hl, rfl⟩) hk
      | none => simp
    · rw [if_neg h]
      have : (b == k) = false := by simpa using h
      cases as.lookup b <;> simp [List.lookup_cons, this]
/-- the row of another room -/
theorem row_eq {F G : FSt} {r : Str} (h : G.R.lookup r = F.R.lookup r) : (∀ b, G.acc b r = F.acc b r) ∧ G.lo r = F.lo r ∧ G.seats r = F.seats r := by
  unfold FSt.acc FSt.lo FSt.seats
  rw [h]
  exact ⟨fun _ => rfl, rfl, rfl⟩
theorem acc_rooms {F : FSt} {b r : Str} (h : F.acc b r = true) : r ∈ F.rooms := by
  unfold FSt.acc at h
  cases hy : F.R.lookup r with
  | none => rw [hy] at h; cases h
  | some y => exact List.mem_map.mpr ⟨_, lookup_mem hy, rfl⟩
theorem acc_none {F : FSt} {b r : Str} (h : r ∉ F.rooms) : F.acc b r = false := by
  cases e : F.acc b r with
  | false => rfl
  | true => exact absurd (acc_rooms e) h
theorem Closed.iff {F : FSt} {X Y : List Str} (hc : Closed F X Y) {a r : Str} (h1 : r ∈ F.la a) (h2 : F.acc a r = true) : a ∈ X ↔ r ∈ Y := hc a (la_asks h1) r (acc_rooms h2) (likes_iff.mpr ⟨h1, h2⟩)
/-- restarts of the fair -/
theorem fv_restart {F G : FSt} {as : List Str} (v : FV F) (Z : Str → Prop) (hZ : ∀ b, Z b → b ∈ as ∨ G.A.lookup b = none ∨ (G.held b = none ∧ G.nx b = 0)) (hN : ∀ b, ¬ Z b → b ∉ as ∧ G.A.lookup b = F.A.lookup b)
    (hacc : ∀ b r, ¬ Z b → r ∈ F.la b → G.acc b r = F.acc b r) (hrow : ∀ b r, ¬ Z b → r ∈ F.la b → F.acc b r = true → G.R.lookup r = F.R.lookup r ∧ ∀ s, r ∈ F.la s → F.acc s r = true → ¬ Z s) : FV (G.fresh as) := by
  show Val (FM (G.fresh as)) _ _
  rw [FM_fresh]
  refine Val.restart (M := FM F) (M' := FM G) v Z (fun b hb => ?_) (fun b hb => ?_) hacc fun b r hb hr ha => ?_
  · rw [held_fresh, nx_fresh]
    by_cases e : b ∈ as
    · rw [if_pos e, if_pos e]
      exact ⟨rfl, rfl⟩
    · rw [if_neg e, if_neg e]
      rcases hZ b hb with h | h | h
      · exact absurd h e
      · unfold FSt.held FSt.nx
        rw [h]
        exact ⟨rfl, rfl⟩
      · exact h
  · obtain ⟨h1, h2⟩ := hN b hb
    rw [held_fresh, nx_fresh, if_neg h1, if_neg h1]
    refine ⟨?_, ?_, ?_⟩
    · unfold FSt.held
      rw [h2]
    · unfold FSt.nx
      rw [h2]
    · show G.la b = F.la b
      unfold FSt.la
      rw [h2]
  · obtain ⟨h1, h2⟩ := hrow b r hb hr ha
    obtain ⟨e1, e2, e3⟩ := row_eq h1
    exact ⟨e3, by show (fun a => (G.lo r).idxOf a) = fun a => (F.lo r).idxOf a; rw [e2], h2⟩
theorem GS.of {G F' : FSt} {as : List Str} (v : FV (G.fresh as)) (nd : G.Nd) (r : FRuns (G.fresh as) F') (e : FEnd F') (ok : F'.Ok) : GS F' ∧ mkA F' = mkA G ∧ F'.R = G.R := by
  obtain ⟨h1, h2, h3, h4⟩ := runs_ok v (Nd.of nd mkA_fresh rfl) r
  exact ⟨⟨ok, h2, h1, e⟩, h3.trans mkA_fresh, h4⟩
theorem gs_come {F F' : FSt} {a : Str} {ws : List Str} (g : GS F) (ha : a ∉ F.asks) (hw : ws.Nodup) (hrun : FRuns (F.come a ws) F') (e : FEnd F') (ok : F'.Ok) : GS F' ∧ mkA F' = mkA F ++ [(a, ws)] ∧ F'.R = F.R := by
  have hl : ∀ b, (F.come a ws).A.lookup b = (F.A.lookup b).or (if b = a then some ⟨ws, none, 0⟩ else none) := fun b => by
    show (F.A ++ [_]).lookup b = _
    rw [look_app, List.lookup_cons]
    by_cases h : b = a
    · subst h
      simp
    · have : (b == a) = false := by simpa using h
      simp [this, h]
  have v : FV ((F.come a ws).fresh []) := by
    refine fv_restart g.v (fun b => b = a) (fun b hb => .inr (.inr ?_)) (fun b hb => ⟨by simp, ?_⟩) (fun b r _ _ => rfl) fun b r hb hr hac => ⟨rfl, fun s hs _ z => ?_⟩
    · subst hb
      unfold FSt.held FSt.nx
      rw [hl, look_none ha]
      simp
    · rw [hl, if_neg hb]
      simp
    · have z : s = a := z
      subst z
      rw [la_none ha] at hs
      cases hs
  have nd : (F.come a ws).Nd := ⟨fun p hp => by
    rcases List.mem_append.mp hp with z | z
    · exact g.nd.a p z
    · rw [List.mem_singleton.mp z]
      exact hw, g.nd.r⟩
  have hrun : FRuns ((F.come a ws).fresh []) F' := by rw [fresh_nil]; exact hrun
  obtain ⟨h1, h2, h3⟩ := GS.of v nd hrun e ok
  refine ⟨h1, ?_, h3⟩
  rw [h2]
  show (F.A ++ [(a, (⟨ws, none, 0⟩ : ARow))]).map _ = _
  rw [List.map_append]
  rfl
theorem gs_leave {F F' : FSt} {a : Str} {X Y as : List Str} (g : GS F) (hX : a ∈ X) (hc : Closed F X Y) (has : ∀ b, b ∈ as ↔ b ∈ F.asks ∧ b ∈ X ∧ b ≠ a) (hrun : FRuns ((F.del a).fresh as) F') (e : FEnd F') (ok : F'.Ok) : GS F' ∧ mkA F' = (mkA F).filter (fun p => decide (p.1 ≠ a)) ∧ F'.R = F.R := by
  have hl : ∀ b, (F.del a).A.lookup b = if b = a then none else F.A.lookup b := fun b => look_filter
  have hnX : ∀ b r, ¬ (b ∈ as ∨ b = a) → r ∈ F.la b → b ∉ X := fun b r hb hr hx => hb (.inl ((has b).mpr ⟨la_asks hr, hx, fun z => hb (.inr z)⟩))
  have v : FV ((F.del a).fresh as) := by
    refine fv_restart g.v (fun b => b ∈ as ∨ b = a) (fun b hb => ?_) (fun b hb => ⟨fun z => hb (.inl z), ?_⟩) (fun b r _ _ => rfl) fun b r hb hr hac => ⟨rfl, fun s hs hsa z => ?_⟩
    · rcases hb with h | h
      · exact .inl h
      · exact .inr (.inl (by rw [hl, if_pos h]))
    · rw [hl, if_neg (fun z => hb (.inr z))]
    · have hr' : r ∉ Y := fun hy => hnX b r hb hr ((hc.iff hr hac).mpr hy)
      have hs' : s ∉ X := fun hx => hr' ((hc.iff hs hsa).mp hx)
      rcases z with z | z
      · exact hs' ((has s).mp z).2.1
      · rw [z] at hs'
        exact hs' hX
  have nd : (F.del a).Nd := ⟨fun p hp => g.nd.a p (List.mem_filter.mp hp).1, g.nd.r⟩
  obtain ⟨h1, h2, h3⟩ := GS.of v nd hrun e ok
  refine ⟨h1, ?_, h3⟩
  rw [h2]
  unfold mkA FSt.del
  rw [List.filter_map]
  rfl
theorem gs_shut {F F' : FSt} {r0 : Str} {X Y as : List Str} (g : GS F) (hY : r0 ∈ Y) (hc : Closed F X Y) (has : ∀ b, b ∈ as ↔ b ∈ F.asks ∧ b ∈ X) (hrun : FRuns ((F.delR r0).fresh as) F') (e : FEnd F') (ok : F'.Ok) : GS F' ∧ mkA F' = mkA F ∧ F'.R = F.R.filter (fun p => decide (p.1 ≠ r0)) := by
  have hl : ∀ b, (F.delR r0).R.lookup b = if b = r0 then none else F.R.lookup b := fun b => look_filter
  have hnX : ∀ b r, b ∉ as → r ∈ F.la b → b ∉ X := fun b r hb hr hx => hb ((has b).mpr ⟨la_asks hr, hx⟩)
  have hn0 : ∀ b r, b ∉ as → r ∈ F.la b → F.acc b r = true → r ∉ Y := fun b r hb hr ha hy => hnX b r hb hr ((hc.iff hr ha).mpr hy)
  have hrw : ∀ r, r ≠ r0 → (F.delR r0).R.lookup r = F.R.lookup r := fun r h => by rw [hl, if_neg h]
  have v : FV ((F.delR r0).fresh as) := by
    refine fv_restart g.v (fun b => b ∈ as) (fun b hb => .inl hb) (fun b hb => ⟨hb, rfl⟩) (fun b r hb hr => ?_) fun b r hb hr hac => ⟨?_, fun s hs hsa z => ?_⟩
    · by_cases h : r = r0
      · have h1 : (F.delR r0).acc b r = false := by
          unfold FSt.acc
          rw [hl, if_pos h]
        rw [h1]
        cases hac : F.acc b r with
        | false => rfl
        | true => exact absurd (h ▸ hY) (hn0 b r hb hr hac)
      · exact (row_eq (hrw r h)).1 b
    · exact hrw r fun h => hn0 b r hb hr hac (h ▸ hY)
    · exact hn0 b r hb hr hac ((hc.iff hs hsa).mp ((has s).mp z).2)
  have nd : (F.delR r0).Nd := ⟨g.nd.a, fun p hp => g.nd.r p (List.mem_filter.mp hp).1⟩
  obtain ⟨h1, h2, h3⟩ := GS.of v nd hrun e ok
  exact ⟨h1, h2, h3⟩
theorem putR_nd {F : FSt} (nd : F.Nd) {r0 : Str} {os : List Str} {c : Nat} (ho : os.Nodup) : (F.putR r0 os c).Nd := ⟨nd.a, fun p hp => by
  rcases mem_putA hp with z | z
  · rw [z]
    exact ho
  · exact nd.r p z⟩
theorem gs_open {F F' : FSt} {r0 : Str} {X Y as os : List Str} {c : Nat} (g : GS F) (hr0 : r0 ∉ F.rooms) (ho : os.Nodup) (hY : r0 ∈ Y) (hc : Closed (F.putR r0 os c) X Y) (has : ∀ b, b ∈ as ↔ b ∈ F.asks ∧ b ∈ X) (hrun : FRuns ((F.putR r0 os c).fresh as) F') (e : FEnd F') (ok : F'.Ok) : GS F' ∧ mkA F' = mkA F ∧ F'.R = F.R ++ [(r0, ⟨os, c⟩)] := by
  have hl : ∀ b, (F.putR r0 os c).R.lookup b = if b = r0 then some ⟨os, c⟩ else F.R.lookup b := fun b => look_putA
  have hnX : ∀ b r, b ∉ as → r ∈ F.la b → b ∉ X := fun b r hb hr hx => hb ((has b).mpr ⟨la_asks hr, hx⟩)
  have hrw : ∀ r, r ≠ r0 → (F.putR r0 os c).R.lookup r = F.R.lookup r := fun r h => by rw [hl, if_neg h]
  have hn0 : ∀ b r, b ∉ as → r ∈ F.la b → (F.putR r0 os c).acc b r = true → r ∉ Y := fun b r hb hr ha hy => hnX b r hb hr ((hc.iff (F := F.putR r0 os c) hr ha).mpr hy)
  have hne : ∀ b r, F.acc b r = true → r ≠ r0 := fun b r h z => hr0 (z ▸ acc_rooms h)
  have v : FV ((F.putR r0 os c).fresh as) := by
    refine fv_restart g.v (fun b => b ∈ as) (fun b hb => .inl hb) (fun b hb => ⟨hb, rfl⟩) (fun b r hb hr => ?_) fun b r hb hr hac => ⟨hrw r (hne b r hac), fun s hs hsa z => ?_⟩
    · by_cases h : r = r0
      · subst h
        rw [acc_none hr0]
        cases hac : (F.putR r os c).acc b r with
        | false => rfl
        | true => exact absurd hY (hn0 b r hb hr hac)
      · exact (row_eq (hrw r h)).1 b
    · have e1 := (row_eq (hrw r (hne b r hac))).1
      refine hn0 b r hb hr (by rw [e1]; exact hac) ((hc.iff (F := F.putR r0 os c) hs (by rw [e1]; exact hsa)).mp ((has s).mp z).2)
  obtain ⟨h1, h2, h3⟩ := GS.of v (putR_nd g.nd ho) hrun e ok
  refine ⟨h1, h2, ?_⟩
  rw [h3]
  show putA F.R r0 ⟨os, c⟩ = _
  exact if_neg hr0
theorem gs_change {F F' : FSt} {r0 : Str} {X1 Y1 X2 Y2 as os : List Str} {c : Nat} (g : GS F) (hr0 : r0 ∈ F.rooms) (ho : os.Nodup) (hY1 : r0 ∈ Y1) (hc1 : Closed F X1 Y1) (hY2 : r0 ∈ Y2) (hc2 : Closed (F.putR r0 os c) X2 Y2) (has : ∀ b, b ∈ as ↔ b ∈ F.asks ∧ (b ∈ X1 ∨ b ∈ X2)) (hrun : FRuns ((F.putR r0 os c).fresh as) F') (e : FEnd F') (ok : F'.Ok) :
    GS F' ∧ mkA F' = mkA F ∧ F'.R = F.R.map fun p => (p.1, if p.1 = r0 then ⟨os, c⟩ else p.2) := by
  have hl : ∀ b, (F.putR r0 os c).R.lookup b = if b = r0 then some ⟨os, c⟩ else F.R.lookup b := fun b => look_putA
  have hnX : ∀ b r, b ∉ as → r ∈ F.la b → b ∉ X1 ∧ b ∉ X2 := fun b r hb hr => ⟨fun hx => hb ((has b).mpr ⟨la_asks hr, .inl hx⟩), fun hx => hb ((has b).mpr ⟨la_asks hr, .inr hx⟩)⟩
  have hrw : ∀ r, r ≠ r0 → (F.putR r0 os c).R.lookup r = F.R.lookup r := fun r h => by rw [hl, if_neg h]
  have hn1 : ∀ b r, b ∉ as → r ∈ F.la b → F.acc b r = true → r ∉ Y1 := fun b r hb hr ha hy => (hnX b r hb hr).1 ((hc1.iff hr ha).mpr hy)
  have hn2 : ∀ b r, b ∉ as → r ∈ F.la b → (F.putR r0 os c).acc b r = true → r ∉ Y2 := fun b r hb hr ha hy => (hnX b r hb hr).2 ((hc2.iff (F := F.putR r0 os c) hr ha).mpr hy)
  have v : FV ((F.putR r0 os c).fresh as) := by
    refine fv_restart g.v (fun b => b ∈ as) (fun b hb => .inl hb) (fun b hb => ⟨hb, rfl⟩) (fun b r hb hr => ?_) fun b r hb hr hac => ?_
    · by_cases h : r = r0
      · subst h
        have h1 : F.acc b r = false := by
          cases hac : F.acc b r with
          | false => rfl
          | true => exact absurd hY1 (hn1 b r hb hr hac)
        have h2 : (F.putR r os c).acc b r = false := by
          cases hac : (F.putR r os c).acc b r with
          | false => rfl
          | true => exact absurd hY2 (hn2 b r hb hr hac)
        rw [h1, h2]
      · exact (row_eq (hrw r h)).1 b
    · have hne : r ≠ r0 := fun h => hn1 b r hb hr hac (h ▸ hY1)
      refine ⟨hrw r hne, fun s hs hsa z => ?_⟩
      have e1 := (row_eq (hrw r hne)).1
      rcases ((has s).mp z).2 with z | z
      · exact hn1 b r hb hr hac ((hc1.iff hs hsa).mp z)
      · exact hn2 b r hb hr (by rw [e1]; exact hac) ((hc2.iff (F := F.putR r0 os c) hs (by rw [e1]; exact hsa)).mp z)
  obtain ⟨h1, h2, h3⟩ := GS.of v (putR_nd g.nd ho) hrun e ok
  refine ⟨h1, h2, ?_⟩
  rw [h3]
  show putA F.R r0 ⟨os, c⟩ = _
  exact if_pos hr0
theorem la_setL {F : FSt} {a b : Str} {ws : List Str} (ha : a ∈ F.asks) : (F.setL a ws).la b = if b = a then ws else F.la b := by
  unfold FSt.la
  rw [look_setL]
  by_cases e : b = a
  · subst e
    obtain ⟨x, hx⟩ := lookup_of_mem ha
    rw [hx]
    simp
  · rw [if_neg e]
    cases F.A.lookup b <;> simp [e]
theorem nx_setL {F : FSt} {a : Str} {ws : List Str} : (F.setL a ws).nx = F.nx := funext fun b => by
  unfold FSt.nx
  rw [look_setL]
  cases F.A.lookup b with
  | none => rfl
  | some x => by_cases e : b = a <;> simp [e]
theorem setL_nd {F : FSt} (nd : F.Nd) {a : Str} {ws : List Str} (hw : ws.Nodup) : (F.setL a ws).Nd := ⟨fun p hp => by
  obtain ⟨q, hq, rfl⟩ := List.mem_map.mp hp
  show (if q.1 = a then { q.2 with l := ws } else q.2).l.Nodup
  split
  · exact hw
  · exact nd.a q hq, nd.r⟩
theorem mkA_setL {F : FSt} {a : Str} {ws : List Str} : mkA (F.setL a ws) = (mkA F).map fun p => (p.1, if p.1 = a then ws else p.2) := by
  unfold mkA FSt.setL
  rw [List.map_map, List.map_map]
  refine List.map_congr_left fun p _ => ?_
  show (p.1, (if p.1 = a then { p.2 with l := ws } else p.2).l) = (p.1, if p.1 = a then ws else p.2.l)
  split <;> rfl
theorem gs_wish1 {F : FSt} {a : Str} {ws : List Str} {x : ARow} (g : GS F) (hx : F.A.lookup a = some x) (hh : x.h ≠ none) (hw : ws.Nodup) (ht : ws.take x.n = x.l.take x.n) (ok : (F.setL a ws).Ok) : GS (F.setL a ws) ∧ mkA (F.setL a ws) = (mkA F).map (fun p => (p.1, if p.1 = a then ws else p.2)) ∧ (F.setL a ws).R = F.R := by
  have hA := mem_asks hx
  have ela : F.la a = x.l := by unfold FSt.la; rw [hx]
  have enx : F.nx a = x.n := by unfold FSt.nx; rw [hx]
  have hle : x.n ≤ x.l.length := by
    have := g.v.le a
    have this : F.nx a ≤ (F.la a).length := this
    rwa [ela, enx] at this
  have hle2 : x.n ≤ ws.length := by
    have := congrArg List.length ht
    rw [List.length_take, List.length_take] at this
    omega
  have v : FV (F.setL a ws) := by
    have eh : (F.setL a ws).held = F.held := funext fun b => held_setL
    show Val (FM (F.setL a ws)) _ _
    rw [eh, nx_setL]
    refine Val.prefix g.v (fun b => ?_) (fun b => ?_) rfl rfl rfl
    · show ((F.setL a ws).la b).take (F.nx b) = (F.la b).take (F.nx b)
      rw [la_setL hA]
      by_cases e : b = a
      · subst e
        rw [if_pos rfl, ela, enx, ht]
      · rw [if_neg e]
    · show F.nx b ≤ ((F.setL a ws).la b).length
      rw [la_setL hA]
      by_cases e : b = a
      · subst e
        rw [if_pos rfl, enx]
        exact hle2
      · rw [if_neg e]
        exact g.v.le b
  refine ⟨⟨ok, setL_nd g.nd hw, v, fun b => ?_⟩, mkA_setL, rfl⟩
  have := g.e b
  unfold FSt.waits at this ⊢
  rw [look_setL]
  by_cases e : b = a
  · subst e
    rw [hx]
    simp [hh]
  · cases hb : F.A.lookup b with
    | none => rfl
    | some y =>
      rw [hb] at this
      simpa [e] using this
theorem gs_wish2 {F F' : FSt} {a : Str} {ws X1 Y1 X2 Y2 as : List Str} (g : GS F) (ha : a ∈ F.asks) (hw : ws.Nodup) (hX1 : a ∈ X1) (hc1 : Closed F X1 Y1) (hX2 : a ∈ X2) (hc2 : Closed (F.setL a ws) X2 Y2) (has : ∀ b, b ∈ as ↔ b ∈ F.asks ∧ (b ∈ X1 ∨ b ∈ X2)) (hrun : FRuns ((F.setL a ws).fresh as) F') (e : FEnd F') (ok : F'.Ok) :
    GS F' ∧ mkA F' = (mkA F).map (fun p => (p.1, if p.1 = a then ws else p.2)) ∧ F'.R = F.R := by
  have haas : a ∈ as := (has a).mpr ⟨ha, .inl hX1⟩
  have hnX : ∀ b r, b ∉ as → r ∈ F.la b → b ∉ X1 ∧ b ∉ X2 := fun b r hb hr => ⟨fun hx => hb ((has b).mpr ⟨la_asks hr, .inl hx⟩), fun hx => hb ((has b).mpr ⟨la_asks hr, .inr hx⟩)⟩
  have hla : ∀ b, b ≠ a → (F.setL a ws).la b = F.la b := fun b h => by rw [la_setL ha, if_neg h]
  have v : FV ((F.setL a ws).fresh as) := by
    refine fv_restart g.v (fun b => b ∈ as) (fun b hb => .inl hb) (fun b hb => ⟨hb, ?_⟩) (fun b r hb hr => rfl) fun b r hb hr hac => ⟨rfl, fun s hs hsa z => ?_⟩
    · have hne : b ≠ a := fun z => hb (z ▸ haas)
      rw [look_setL]
      cases F.A.lookup b <;> simp [hne]
    · have hne : b ≠ a := fun z => hb (z ▸ haas)
      have h1 : r ∉ Y1 := fun hy => (hnX b r hb hr).1 ((hc1.iff hr hac).mpr hy)
      have h2 : r ∉ Y2 := fun hy => (hnX b r hb hr).2 ((hc2.iff (F := F.setL a ws) (by rw [hla b hne]; exact hr) hac).mpr hy)
      have hs1 : s ∉ X1 := fun hx => h1 ((hc1.iff hs hsa).mp hx)
      have hsne : s ≠ a := fun z => hs1 (z ▸ hX1)
      have hs2 : s ∉ X2 := fun hx => h2 ((hc2.iff (F := F.setL a ws) (by rw [hla s hsne]; exact hs) hsa).mp hx)
      rcases ((has s).mp z).2 with z | z
      · exact hs1 z
      · exact hs2 z
  obtain ⟨h1, h2, h3⟩ := GS.of v (setL_nd g.nd hw) hrun e ok
  exact ⟨h1, h2.trans mkA_setL, h3⟩
theorem gs_init : GS ⟨[], []⟩ where
  ok := ⟨List.nodup_nil, List.nodup_nil, Nat.zero_le _, Nat.zero_le _, (fun p hp => nomatch hp), (fun p hp => nomatch hp), (fun p hp => nomatch hp), fun p hp => nomatch hp⟩
  nd := ⟨(fun p hp => nomatch hp), fun p hp => nomatch hp⟩
  v := ⟨fun a => Nat.zero_le _, fun a r h => (nomatch h), fun r S nS hS => by
    cases S with
    | nil => exact Nat.zero_le _
    | cons s S => exact absurd (hS s (by simp)) (by intro h; cases h), fun a i r hi => absurd hi (Nat.not_lt_zero _), fun a i r hi => absurd hi (Nat.not_lt_zero _)⟩
  e := fun a => rfl
end Pm
end
/-! ## M4 -/
section
set_option Elab.async false
set_option linter.all false
set_option maxRecDepth 100000
set_option maxHeartbeats 2000000
namespace Pm
open PySem L2
/-! ### the law's own asking, one step -/
def dueH (h : Str → Option Str) (a r : Str) (c : Nat) (lot : List Str) : Str → Option Str := fun s => if s ∈ lot.drop c ∧ s ≠ a then none else if s = a ∧ a ∈ lot.take c then some r else h s
theorem acc_lo {F : FSt} {a r : Str} (h : F.acc a r = true) : a ∈ F.lo r := by
  unfold FSt.acc at h
  unfold FSt.lo
  cases hy : F.R.lookup r with
  | none => rw [hy] at h; cases h
  | some y =>
    rw [hy] at h
    simpa using h
theorem due_step {F : FSt} {h : Str → Option Str} {n : Str → Nat} (v : Val (FM F) h n) (nd : F.Nd) {a r : Str} (ha : h a = none) (hr : (F.la a)[n a]? = some r) (hacc : F.acc a r = true) {Hs lot : List Str} (nH : Hs.Nodup) (hH : ∀ s, s ∈ Hs ↔ h s = some r) (hp : lot.Perm (Hs ++ [a])) (hsrt : lot.Pairwise fun x y => (F.lo r).idxOf x ≤ (F.lo r).idxOf y) :
    Val (FM F) (dueH h a r (F.seats r) lot) (bump n a) ∧ (lot.take (F.seats r)).Nodup ∧ (∀ s, s ∈ lot.take (F.seats r) ↔ dueH h a r (F.seats r) lot s = some r) ∧ (∀ s, s ∈ lot.drop (F.seats r) → s ≠ a → h s = some r) ∧ ∀ s, dueH h a r (F.seats r) lot s ≠ h s → s ∈ lot := by
  have hndL : ∀ b, ((FM F).L b).Nodup := fun b => la_nd nd b
  have haH : a ∉ Hs := fun z => by
    have := (hH a).mp z
    rw [ha] at this
    cases this
  have nlot : lot.Nodup := hp.nodup_iff.mpr (by
    rw [List.nodup_append]
    exact ⟨nH, by simp, fun x hx y hy => by
      rw [List.mem_singleton.mp hy]
      exact fun e => haH (e ▸ hx)⟩)
  have hmem : ∀ s, s ∈ lot ↔ s = a ∨ h s = some r := fun s => by
    rw [hp.mem_iff, List.mem_append, hH, List.mem_singleton]
    exact Or.comm
  have hlen : lot.length = Hs.length + 1 := by
    rw [hp.length_eq, List.length_append]
    rfl
  have hcap : Hs.length ≤ F.seats r := v.cap r Hs nH fun s hs => (hH s).mp hs
  have hlo : ∀ s ∈ lot, s ∈ F.lo r := fun s hs => by
    rcases (hmem s).mp hs with rfl | e
    · exact acc_lo hacc
    · obtain ⟨_, _, _, h3⟩ := v.held s r e
      exact acc_lo h3
  have hcnt : ∀ s, s ∈ lot.drop (F.seats r) → s ≠ a → h s = some r := fun s hs hsa => ((hmem s).mp (List.mem_of_mem_drop hs)).resolve_left hsa
  have hch : ∀ s, dueH h a r (F.seats r) lot s ≠ h s → s ∈ lot := fun s hs => by
    unfold dueH at hs
    split at hs
    · rename_i e
      exact List.mem_of_mem_drop e.1
    · split at hs
      · rename_i e
        exact (hmem s).mpr (.inl e.1)
      · exact absurd rfl hs
  rcases Nat.lt_or_eq_of_le hcap with hlt | heq
  · have e1 : lot.take (F.seats r) = lot := List.take_of_length_le (by omega)
    have e2 : lot.drop (F.seats r) = [] := List.drop_eq_nil_of_le (by omega)
    have ha' : a ∈ lot := (hmem a).mpr (.inl rfl)
    have e3 : dueH h a r (F.seats r) lot = put h a (some r) := funext fun s => by
      unfold dueH put
      rw [e1, e2, if_neg (by simp)]
      by_cases e : s = a
      · rw [if_pos ⟨e, ha'⟩, if_pos e]
      · rw [if_neg (fun z => e z.1), if_neg e]
    refine ⟨?_, by rw [e1]; exact nlot, fun s => ?_, hcnt, hch⟩
    · rw [e3]
      refine v.room hndL ha hr hacc fun S nS hS => ?_
      have := nodup_sub_len nS fun s hs => (hH s).mpr (hS s hs)
      show S.length < F.seats r
      omega
    · rw [e1, hmem, e3]
      unfold put
      by_cases e : s = a
      · simp [e]
      · rw [if_neg e]
        simp [e]
  · obtain ⟨ini, w, hiw⟩ := SrtO.snoc_of (l := lot) (by omega)
    have hil : ini.length = F.seats r := by
      have := congrArg List.length hiw
      rw [List.length_append, List.length_singleton] at this
      omega
    have e1 : lot.take (F.seats r) = ini := by rw [hiw, ← hil, List.take_left']; rfl
    have e2 : lot.drop (F.seats r) = [w] := by rw [hiw, ← hil, List.drop_left']; rfl
    rw [hiw] at nlot hsrt
    obtain ⟨ni, _, hne⟩ := List.nodup_append.mp nlot
    have hsw : ∀ s ∈ ini, s ≠ w := fun s hs => hne s hs w (by simp)
    have hwl : w ∈ lot := by rw [hiw]; simp
    have hil2 : ∀ s ∈ ini, s ∈ lot := fun s hs => by rw [hiw]; exact List.mem_append_left _ hs
    have hrank : ∀ s ∈ ini, (FM F).rk r s < (FM F).rk r w := fun s hs => by
      have h1 : (F.lo r).idxOf s ≤ (F.lo r).idxOf w := (List.pairwise_append.mp hsrt).2.2 s hs w (by simp)
      have h2 : (F.lo r).idxOf s ≠ (F.lo r).idxOf w := fun e => hsw s hs (idx_inj (hlo s (hil2 s hs)) (hlo w hwl) e)
      show (F.lo r).idxOf s < (F.lo r).idxOf w
      omega
    have hini : ∀ s, s ∈ ini ↔ (s = a ∨ h s = some r) ∧ s ≠ w := fun s => by
      rw [← hmem]
      constructor
      · exact fun hs => ⟨hil2 s hs, hsw s hs⟩
      · rintro ⟨h1, h2⟩
        rw [hiw] at h1
        rcases List.mem_append.mp h1 with z | z
        · exact z
        · exact absurd (List.mem_singleton.mp z) h2
    have lH : Hs.length = (FM F).q r := heq
    by_cases hwa : w = a
    · have e3 : dueH h a r (F.seats r) lot = h := funext fun s => by
        unfold dueH
        rw [e1, e2, if_neg (fun z => z.2 ((List.mem_singleton.mp z.1).trans hwa))]
        rw [if_neg]
        rintro ⟨_, z⟩
        exact hsw a z hwa.symm
      refine ⟨?_, by rw [e1]; exact ni, fun s => ?_, hcnt, hch⟩
      · rw [e3]
        refine v.self hndL ha hr hacc nH lH (fun s hs => (hH s).mp hs) fun s hs => ?_
        have := hrank s ((hini s).mpr ⟨.inr hs, fun z => by rw [z, hwa, ha] at hs; cases hs⟩)
        rwa [hwa] at this
      · rw [e1, hini, e3, hwa]
        constructor
        · rintro ⟨h1 | h1, h2⟩
          · exact absurd h1 h2
          · exact h1
        · intro h1
          exact ⟨.inr h1, fun z => by rw [z, ha] at h1; cases h1⟩
    · have hwr : h w = some r := ((hmem w).mp hwl).resolve_left hwa
      have hai : a ∈ ini := (hini a).mpr ⟨.inl rfl, Ne.symm hwa⟩
      have e3 : dueH h a r (F.seats r) lot = put (put h w none) a (some r) := funext fun s => by
        unfold dueH put
        rw [e1, e2]
        by_cases e : s = a
        · rw [if_neg (fun z => z.2 e), if_pos ⟨e, hai⟩, if_pos e]
        · rw [if_neg e]
          by_cases e' : s = w
          · rw [if_pos ⟨by rw [e']; simp, e⟩, if_pos e']
          · rw [if_neg (fun z => e' (List.mem_singleton.mp z.1)), if_neg (fun z => e z.1), if_neg e']
      refine ⟨?_, by rw [e1]; exact ni, fun s => ?_, hcnt, hch⟩
      · rw [e3]
        exact v.swap hndL ha hr hacc hwr nH lH (fun s hs => (hH s).mp hs) (hrank a hai) fun s hs hsw' => hrank s ((hini s).mpr ⟨.inr hs, hsw'⟩)
      · rw [e1, hini, e3]
        unfold put
        by_cases e : s = a
        · rw [if_pos e]
          simp [e, Ne.symm hwa]
        · rw [if_neg e]
          by_cases e' : s = w
          · rw [if_pos e']
            simp [e']
          · rw [if_neg e']
            simp [e, e']
/-- where a room asked for is none, or does not list the asker -/
theorem due_no {F : FSt} {h : Str → Option Str} {n : Str → Nat} (v : Val (FM F) h n) (nd : F.Nd) {a r : Str} (ha : h a = none) (hr : (F.la a)[n a]? = some r) (hacc : F.acc a r = false) : Val (FM F) h (bump n a) := v.no (fun b => la_nd nd b) ha hr hacc
theorem due_init {F : FSt} : Val (FM F) (fun _ => none) (fun _ => 0) := ⟨fun a => Nat.zero_le _, fun a r h => (nomatch h), fun r S nS hS => by
    cases S with
    | nil => exact Nat.zero_le _
    | cons s S => exact absurd (hS s (by simp)) (by intro h; cases h), fun a i r hi => absurd hi (Nat.not_lt_zero _), fun a i r hi => absurd hi (Nat.not_lt_zero _)⟩
end Pm
end
/-! ## Kt -/
section
set_option Elab.async false
set_option linter.all false
set_option maxRecDepth 100000
set_option maxHeartbeats 2000000
namespace Pm
open PySem L2
section
variable {C : Ctx} {σ σ' : L2.St} {H H' : Hp} {e a b c o tg iter elt ek ev : Expr} {es ifs : List Expr} {P P' Pa : V → Hp → Prop} {x y z v w : V} {pos p1 p2 p3 p4 p5 : Pos} {k : Nat} {n m : Str} {scope : Scope}
/-- a known value, or a new thing -/
def ValX (H : Hp) (W : V ⊕ HO) (v : V) (H' : Hp) : Prop := match W with
  | .inl v0 => v = v0
  | .inr o => ∃ q, v = .ref q ∧ H q = none ∧ H' q = some o
theorem ValX.ex {G : Gt} {H1 H2 : Hp} {W : V ⊕ HO} {v : V} (h : ValX H W v H1) (k : Ex G H1 H2) (hW : ∀ o, W = .inr o → isTbl o = false) : ValX H W v H2 := by
  cases W with
  | inl v0 => exact h
  | inr o =>
    obtain ⟨q, e, n, h⟩ := h
    exact ⟨q, e, n, k.xat h (hW o rfl)⟩
/-- dict(of pairs), the pairs known late -/
theorem e_dictPX {R : List (L2.Key × V) → Hp → Prop} (hm : C.mg "dict" = none) (ha : E C σ H e Pa) (hs : ∀ x H1, Ex C.G H H1 → Pa x H1 → ∃ (q : Addr) (ps : List Addr) (kvs : List (L2.Key × V)), x = .ref q ∧ H1 q = some (.lst (ps.map V.ref)) ∧ Paired (fun p kv => SqT C.K H1 p [kV kv.1, kv.2]) ps kvs ∧ ∀ H2, Ex C.G H1 H2 → R kvs H2) (hg : C.sc.names.lookup ("dict" : Str) = some .globalImplicit := by rfl)
    (he : ∀ X, Good C X → starEach [e] X.env = (false, eval e X.env) :: starEach [] X.env := by exact fun _ _ => rfl) : E C σ H (.Call (.Name "dict" p1) [e] [] pos) fun v H' => ∃ l kvs, v = .ref l ∧ H l = none ∧ H' l = some (.dK (mergeK [] kvs)) ∧ R kvs H' :=
  e_tyB (rr := fun xs H Q => ∃ (a : Addr) (ps : List Addr) (kvs : List (L2.Key × V)), xs = [.ref a] ∧ SqL C.K H a (ps.map V.ref) ∧ Paired (fun p kv => SqT C.K H p [kV kv.1, kv.2]) ps kvs ∧
    ∀ p, H p = none → Q (.ref p) (upd H p (.dK (mergeK [] kvs)))) (fun X g => by rw [← g.K]; exact call_dictP g.calm) hm (by decide +kernel) (a_1B ha he) (fun vs H1 k1 ⟨x, hv, px⟩ => by
    subst hv
    obtain ⟨q, ps, kvs, rfl, hq, hP, hR⟩ := hs x H1 k1 px
    exact fun H2 k2 Q q' => ⟨q, ps, kvs, rfl, .inl (.inl (k2.xat hq)), paired_imp hP fun _ _ z => ex_t k2 z, fun p hp => q' _ _ (Ex.new hp) ⟨p, kvs, rfl, (k1.t k2).free hp, upd_same, hR _ (k2.t (Ex.new hp))⟩⟩) (hg := hg) (he := he)
theorem paired_ex {α : Type} {F : α → V → Prop} {G : α → Addr → L2.Key × V → Prop} : ∀ {as : List α} {vs : List V}, Paired F as vs → (∀ a v, F a v → ∃ p kv, v = .ref p ∧ G a p kv) → ∃ (ps : List Addr) (kvs : List (L2.Key × V)), vs = ps.map V.ref ∧ Paired (fun p kv => ∃ a, G a p kv) ps kvs ∧ Paired (fun a kv => ∃ p, G a p kv) as kvs
  | _, _, .nil, _ => ⟨[], [], rfl, .nil, .nil⟩
  | _, _, .cons h t, f => by
    obtain ⟨p, kv, e, g⟩ := f _ _ h
    obtain ⟨ps, kvs, e2, h1, h2⟩ := paired_ex t f
    exact ⟨p :: ps, kv :: kvs, by rw [e, e2]; rfl, .cons ⟨_, g⟩ h1, .cons ⟨p, g⟩ h2⟩
/-- dict([(k, v) for .. in d]) where some v are new things -/
theorem e_dictKR {x1 : Nat} {d : Addr} {kvs : List (L2.Key × V)} (own : List (Str × Nat)) (hm : C.mg "dict" = none) (hd : H d = some (.dK kvs)) (he : ∀ od, EV C σ (upd H d (.frz od (.dK kvs))) iter (.ref d)) (p : L2.Key × V → Bool) (key : L2.Key × V → L2.Key) (W : L2.Key × V → V ⊕ HO) (hW : ∀ kv o, W kv = .inr o → isTbl o = false) (hlen : kvs.length ≤ 1000000)
    (hb : ∀ od kv H1, kv ∈ kvs → Ex C.G (upd H d (.frz od (.dK kvs))) H1 → ∃ σ2, EG (C.blk scope) tg (kV kv.1) (wipe σ (own.map (·.2))) H1 σ2 ∧ wipe σ2 (own.map (·.2)) = wipe σ (own.map (·.2)) ∧ Ts (C.blk scope) σ2 H1 ifs (p kv) ∧ (p kv = true → EV (C.blk scope) σ2 H1 ek (kV (key kv)) ∧ E (C.blk scope) σ2 H1 ev fun v H' => ValX H1 (W kv) v H'))
    (ok : BlkOk C.N C.sc scope own := by exact blkOk_by (by (try dsimp only [ctx, ctxX, Ctx.blk, Ctx.gen]); decide +kernel)) (hs : ∀ X, Good C X → ∀ x, foldedSetIterable iter X.env x = pure x := by exact fun _ _ _ => rfl) (hg : C.sc.names.lookup ("dict" : Str) = some .globalImplicit := by rfl)
    (hs1 : ∀ X, Good (C.blk scope) X → starEach [ek, ev] X.env = (false, eval ek X.env) :: starEach [ev] X.env := by exact fun _ _ => rfl) (hs2 : ∀ X, Good (C.blk scope) X → starEach [ev] X.env = (false, eval ev X.env) :: starEach [] X.env := by exact fun _ _ => rfl) :
    E C σ H (.Call (.Name "dict" p1) [.ListComp (.Tuple [ek, ev] x1 p2) [⟨tg, iter, ifs, 0⟩] scope p3] [] pos) fun v H' => ∃ l kvs', v = .ref l ∧ H l = none ∧ H' l = some (.dK (mergeK [] kvs')) ∧ Paired (fun kv kv' => kv'.1 = key kv ∧ ValX H (W kv) kv'.2 H') (kvs.filter p) kvs' := by
  let HL : Obj → Hp := fun od => upd H d (.frz od (.dK kvs))
  have none_of : ∀ od q, HL od q = none → H q = none ∧ q ≠ d := fun od q hq => by
    have hqd : q ≠ d := fun z => by
      rw [z] at hq
      have : (upd H d (.frz od (.dK kvs))) d = none := hq
      rw [upd_same] at this
      cases this
    refine ⟨?_, hqd⟩
    have : (upd H d (.frz od (.dK kvs))) q = none := hq
    rwa [upd_ne hqd] at this
  refine e_dictPX (R := fun kvs' H' => Paired (fun kv kv' => kv'.1 = key kv ∧ ValX H (W kv) kv'.2 H') (kvs.filter p) kvs') hm (e_lcK own (P := fun v H' => ∃ (D' : Addr) (ys : List V), v = .ref D' ∧ H' D' = some (.lst ys) ∧ Paired (fun kv t => ∃ t' v, t = .ref t' ∧ H' t' = some (.tup [kV (key kv), v]) ∧ ValX H (W kv) v H') (kvs.filter p) ys)
    (fun od v H' => ∃ (D' : Addr) (ys : List V), v = .ref D' ∧ D' ≠ d ∧ H' D' = some (.lst ys) ∧ Paired (fun kv t => ∃ t' v, t = .ref t' ∧ H' t' = some (.tup [kV (key kv), v]) ∧ ValX (HL od) (W kv) v H') (kvs.filter p) ys) hd (fun od => ?_) (fun od v H1 h1 ⟨D', ys, e, hne, hD, hP⟩ => ⟨D', ys, e, by rw [upd_ne hne]; exact hD, paired_imp hP fun kv t ⟨t', v, e1, h2, h3⟩ => ⟨t', v, e1, ?_, ?_⟩⟩) ok hs) (fun x H1 k ⟨D', ys, e, hD, hP⟩ => ?_) hg (fun _ _ => rfl)
  · refine (lc_R (ei_keys (he od) upd_same) (fun H1 k => k.xat upd_same) p (fun D' kv t H' => ∃ t' v, t = .ref t' ∧ H' t' = some (.tup [kV (key kv), v]) ∧ ValX (HL od) (W kv) v H' ∧ ∀ q, v = .ref q → (∃ o, W kv = .inr o) → q ≠ D') (fun D' kv t H1 H2 zs hz kk ⟨t', v, e1, h2, h3, h4⟩ => ⟨t', v, e1, kk.at1 hz h2 (by simp), ?_, h4⟩) hlen fun D' kv x H1 zs hk k hD hD1 e => ?_).imp fun v H1 k ⟨D', ys, e1, e2, e3, e4⟩ => ⟨D', ys, e1, (none_of od D' e2).2, e3, paired_imp e4 fun kv t ⟨t', v, e1, h2, h3, _⟩ => ⟨t', v, e1, h2, h3⟩⟩
    · revert h3 h4
      cases hw : W kv with
      | inl v0 => exact fun h3 _ => h3
      | inr o =>
        rintro ⟨q, e, n, h⟩ h4
        exact ⟨q, e, n, kk.at h (by simpa using h4 q e ⟨o, rfl⟩) (hW kv o hw)⟩
    · subst e
      obtain ⟨σ2, h1, h2, h3, h4⟩ := hb od kv H1 hk k
      refine ⟨σ2, h1, h2, h3, fun hp => ?_⟩
      obtain ⟨g1, g2⟩ := h4 hp
      refine EK.imp (e_tupB (PA := fun vs H' => ∃ v, vs = [kV (key kv), v] ∧ ValX H1 (W kv) v H') (a_consV g1 (PA' := fun vs H' => ∃ v, vs = [v] ∧ ValX H1 (W kv) v H') (a_1B g2 hs2) (fun vs H2 ⟨v, e, h⟩ => ⟨v, by rw [e], h⟩) hs1) (fun vs H2 ⟨v, e, _⟩ => by rw [e]; exact Nat.le_of_ble_eq_true rfl)) fun u H2 k2 ⟨t, vs, Hx, e, _, _, ht, ⟨v, e2, hv⟩, kx1, kx2⟩ => ⟨t, v, e, by rw [ht, e2], ?_, ?_⟩
      · revert hv
        cases hw : W kv with
        | inl v0 => exact fun h => h
        | inr o =>
          rintro ⟨q, e, n, h⟩
          exact ⟨q, e, k.free n, kx2.xat h (hW kv o hw)⟩
      · rintro q e ⟨o, ho⟩ z
        rw [ho] at hv
        obtain ⟨q', e', n, _⟩ := hv
        rw [e] at e'
        cases e'
        rw [z, hD1] at n
        cases n
  · rw [upd_ne fun z => by rw [z, h1] at h2; cases h2]
    exact h2
  · revert h3
    cases hw : W kv with
    | inl v0 => exact fun h => h
    | inr o =>
      rintro ⟨q, e, n, h⟩
      obtain ⟨n1, n2⟩ := none_of od q n
      exact ⟨q, e, n1, by rw [upd_ne n2]; exact h⟩
  · obtain ⟨ps, kvs', e1, h1, h2⟩ := paired_ex (G := fun kv p kv' => kv'.1 = key kv ∧ H1 p = some (.tup [kV kv'.1, kv'.2]) ∧ ValX H (W kv) kv'.2 H1) hP fun kv t ⟨t', v, e1, h2, h3⟩ => ⟨t', (key kv, v), e1, rfl, h2, h3⟩
    exact ⟨D', ps, kvs', e, by rw [hD, e1], paired_imp h1 fun p kv ⟨_, _, h, _⟩ => .inl (.inl h), fun H2 k2 => paired_imp h2 fun kv kv' ⟨_, h1, _, h3⟩ => ⟨h1, h3.ex k2 (hW kv)⟩⟩
end
end Pm
end
/-! ## Ku -/
section
set_option Elab.async false
set_option linter.all false
set_option maxRecDepth 100000
set_option maxHeartbeats 2000000
namespace Pm
open PySem L2
section
variable {C : Ctx} {σ σ' : L2.St} {H H' : Hp} {e a b c o tg iter elt ek ev : Expr} {es ifs : List Expr} {P P' Pa : V → Hp → Prop} {x y z v w : V} {pos p1 p2 p3 p4 p5 : Pos} {k : Nat} {n m : Str} {scope : Scope} {D D1 : Ends} {rest body body2 : List Stmt}
theorem S.conv {ss : List Stmt} (h : S C D1 σ H ss) (h1 : ∀ σ' H', D1.nx σ' H' → D.nx σ' H') (h2 : ∀ v H', D1.rt v H' → D.rt v H') (h3 : ∀ σ' H', D1.bk σ' H' → D.bk σ' H') (h4 : ∀ σ' H', D1.ct σ' H' → D.ct σ' H') : S C D σ H ss := fun H1 k => by
  obtain ⟨t, ht, hw⟩ := h H1 k
  refine ⟨fun D' σ' H' => ∃ D0 : Ends, (∀ σ' H', D0.nx σ' H' → D'.nx σ' H') ∧ (∀ v H', D0.rt v H' → D'.rt v H') ∧ (∀ σ' H', D0.bk σ' H' → D'.bk σ' H') ∧ (∀ σ' H', D0.ct σ' H' → D'.ct σ' H') ∧ t D0 σ' H', fun X g => ⟨fun pins s σ H D' I ⟨D0, i1, i2, i3, i4, q⟩ => thn ((ht X g).run pins s σ H D0 I q) fun f s' hf => ?_⟩, ⟨D1, h1, h2, h3, h4, hw⟩⟩
  cases f with
  | next =>
    obtain ⟨σ', H', I', q⟩ := hf
    exact ⟨σ', H', I', i1 _ _ q⟩
  | brk =>
    obtain ⟨σ', H', I', q⟩ := hf
    exact ⟨σ', H', I', i3 _ _ q⟩
  | cont =>
    obtain ⟨σ', H', I', q⟩ := hf
    exact ⟨σ', H', I', i4 _ _ q⟩
  | ret u =>
    obtain ⟨v, σ', H', I', r, q⟩ := hf
    exact ⟨v, σ', H', I', r, i2 _ _ q⟩
abbrev jnS (C : Ctx) (D : Ends) (J : L2.St → Hp → Prop) : Ends := { D with nx := Cl C.G J }
theorem s_jn {J : L2.St → Hp → Prop} (h : J σ H) : S C (jnS C D J) σ H [] := s_nil fun H1 k => ⟨H, k, h⟩
/-- an if whose two ways meet -/
theorem s_ifJ (J : L2.St → Hp → Prop) {t : Bool} (hc : T C σ H c t) (h1 : t = true → S C (jnS C D J) σ H body) (h2 : t = false → S C (jnS C D J) σ H body2) (hJ : ∀ σ1 H1, J σ1 H1 → S C D σ1 H1 rest) : S C D σ H (.If c body body2 pos :: rest) := by
  have go : ∀ {ss : List Stmt}, S C (jnS C D J) σ H ss → S C (nxS C rest D) σ H ss := fun h => S.conv h (fun σ' H' ⟨H0, k0, hj⟩ => hJ σ' H0 hj H' k0) (fun _ _ z => z) (fun _ _ z => z) fun _ _ z => z
  exact s_if hc (fun z => go (h1 z)) fun z => go (h2 z)
theorem c_inSeqB {xs : List V} {Pb : V → Hp → Prop} (ha : EV C σ H a x) (hb : E C σ H b Pb) (hs : ∀ y H1, Ex C.G H H1 → Pb y H1 → ∃ p, y = .ref p ∧ (SqL C.K H1 p xs ∨ SqT C.K H1 p xs)) (hx : flatV x = true) (hxs : xs.all flatV = true) : CV C σ H .In a b (inV x xs) :=
  c_opB (r := rIn C.K false) (Pb := fun _ => Pb) (fun X g => by rw [← g.K]; exact op_in_seq) ha (fun _ _ k _ => hb.mono k) fun u y H1 H2 k1 p1 k2 p2 => by
    obtain ⟨p, e, h⟩ := hs y H2 (k1.t k2) p2
    subst p1 e
    exact fun H3 k3 Q q => ⟨p, xs, rfl, h.imp (ex_l k3) (ex_t k3), hx, hxs, q _ _ Kp.refl rfl⟩
/-- l.index(x) of texts -/
theorem e_listIx {l : Addr} {ys : List Str} {z : Str} (ho : EV C σ H o (.ref l)) (hl : H l = some (.lst (ys.map V.str))) (ha : EV C σ H e (.str z)) (hz : z ∈ ys)
    (hbase : ∀ X, Good C X → attributeBase o "index" X.env (eval o X.env) = eval o X.env := by exact fun _ _ => rfl)
    (hfew : ∀ X, Good C X → ((backTo p2 (starEach [e] X.env)).all (fun x => !x.1) && (backToKw p2 (keywordEach [] X.env)).all (fun x => x.1.isSome)
      && decide ([e].length + ([] : List Keyword).length + (if ([] : List Keyword).isEmpty then 0 else 1) < 30)) = true := by exact fun _ _ => rfl)
    (hline : (p1.endLine == p2.line) = true := by rfl) (hs : ∀ X, Good C X → starEach [e] X.env = (false, eval e X.env) :: starEach [] X.env := by exact fun _ _ => rfl) (hplain : ∀ X, Good C X → (backTo p2 (starEach [] X.env)).any (·.1) = false := by exact fun _ _ => rfl) :
    EV C σ H (.Call (.Attribute o "index" p1) [e] [] p2) (nI (ys.idxOf z)) :=
  e_lmeth (rr := rIndex C.K) PySem.F.slot_list_index PySem.F.type_list_index (fun X g => by rw [← g.K]; exact mt_index) ho hl (a_1 ha hs) (fun vs H1 k1 hv => by
    subst hv
    refine fun H2 k2 Q q => ⟨l, ys.map V.str, .str z, ys.idxOf z, .str z, rfl, rfl, .inl (.inl ((k1.t k2).xat hl)), rfl, by simp [List.all_map, flatV], ?_, by simp [eqV], fun m z' hm he => ?_, q _ _ Kp.refl rfl⟩
    · rw [List.getElem?_map, List.getElem?_eq_getElem (List.idxOf_lt_length_iff.mpr hz)]
      exact congrArg (fun z => some (V.str z)) (List.getElem_idxOf _)
    · have h1 : m < ys.length := Nat.lt_trans hm (List.idxOf_lt_length_iff.mpr hz)
      rw [List.getElem?_map, List.getElem?_eq_getElem h1] at he
      have := List.not_of_lt_findIdx (p := (· == z)) (xs := ys) (i := m) hm
      have e : V.str ys[m] = z' := Option.some.inj he
      rw [← e]
      simp [eqV]
      simpa using this) hbase hfew hline hs hplain
end
end Pm
end
/-! ## V3 -/
section
set_option Elab.async false
set_option linter.all false
set_option maxRecDepth 100000
set_option maxHeartbeats 4000000
namespace Pm
open PySem L2
/-! ### _law_due -/
theorem paired_look {ρ : Type} {P : Str × ρ → V → Prop} (a : Str) : ∀ {as : List (Str × ρ)} {kvs : List (L2.Key × V)}, Paired (fun p kv => kv.1 = Sum.inr p.1 ∧ P p kv.2) as kvs → (as.lookup a = none ∧ valV kvs (Sum.inr a) = none) ∨ ∃ r v, as.lookup a = some r ∧ valV kvs (Sum.inr a) = some v ∧ P (a, r) v
  | _, _, .nil => .inl ⟨rfl, rfl⟩
  | (k, r) :: as, (k', v) :: kvs, .cons ⟨e, h⟩ q => by
    have e : k' = Sum.inr k := e
    subst e
    by_cases hk : k = a
    · subst hk
      exact .inr ⟨r, v, by simp [List.lookup], valV_pos rfl, h⟩
    · have hb : (a == k) = false := by simpa using fun z => hk z.symm
      rw [List.lookup_cons, hb, valV_neg (by simpa using hk)]
      exact paired_look a q
theorem paired_keys {ρ : Type} {P : Str × ρ → V → Prop} : ∀ {as : List (Str × ρ)} {kvs : List (L2.Key × V)}, Paired (fun p kv => kv.1 = Sum.inr p.1 ∧ P p kv.2) as kvs → kvs.map (fun kv => kv.1) = as.map fun p => (Sum.inr p.1 : L2.Key)
  | _, _, .nil => rfl
  | _, _, .cons ⟨e, _⟩ q => by rw [List.map_cons, List.map_cons, paired_keys q, e]
def AskD (H : Hp) (d : Addr) (LA : List (Str × List Str)) : Prop := ∃ kvs, H d = some (.dK kvs) ∧ Paired (fun (p : Str × List Str) (kv : L2.Key × V) => kv.1 = Sum.inr p.1 ∧ ∃ l, kv.2 = .ref l ∧ H l = some (.lst (p.2.map V.str))) LA kvs
def RomD (K : PySem.W.Frag) (H : Hp) (d : Addr) (LR : List (Str × RRow)) : Prop := ∃ kvs, H d = some (.dK kvs) ∧ Paired (fun (p : Str × RRow) (kv : L2.Key × V) => kv.1 = Sum.inr p.1 ∧ ∃ t l, kv.2 = .ref t ∧ SqT K H t [.ref l, nI p.2.c] ∧ H l = some (.lst (p.2.o.map V.str))) LR kvs
theorem AskD.ex {G : Gt} {H H' : Hp} {d : Addr} {LA : List (Str × List Str)} (h : AskD H d LA) (k : Ex G H H') : AskD H' d LA := by
  obtain ⟨kvs, h1, h2⟩ := h
  exact ⟨kvs, k.xat h1, paired_imp h2 fun p kv ⟨e, l, e2, h⟩ => ⟨e, l, e2, k.xat h⟩⟩
theorem RomD.ex {G : Gt} {K : PySem.W.Frag} {H H' : Hp} {d : Addr} {LR : List (Str × RRow)} (h : RomD K H d LR) (k : Ex G H H') : RomD K H' d LR := by
  obtain ⟨kvs, h1, h2⟩ := h
  exact ⟨kvs, k.xat h1, paired_imp h2 fun p kv ⟨e, t, l, e2, h, h'⟩ => ⟨e, t, l, e2, ex_t k h, k.xat h'⟩⟩
theorem look_mkA {F : FSt} {a : Str} : (mkA F).lookup a = (F.A.lookup a).map fun x => x.l := lookup_map (u := fun (_ : Str) (x : ARow) => x.l)
theorem AskD.get {H : Hp} {d : Addr} {F : FSt} {a : Str} (h : AskD H d (mkA F)) (ha : a ∈ F.asks) : ∃ l, DGet H d (.str a) (some (.ref l)) ∧ H l = some (.lst ((F.la a).map V.str)) := by
  obtain ⟨kvs, h1, h2⟩ := h
  obtain ⟨x, hx⟩ := lookup_of_mem ha
  have ela : F.la a = x.l := by unfold FSt.la; rw [hx]
  rcases paired_look (P := fun (p : Str × List Str) (v : V) => ∃ l, v = .ref l ∧ H l = some (.lst (p.2.map V.str))) a h2 with ⟨e, _⟩ | ⟨r, v, e, e2, l, e3, h3⟩
  · rw [look_mkA, hx] at e
    cases e
  · rw [look_mkA, hx] at e
    cases e
    exact ⟨l, .inl ⟨kvs, Sum.inr a, .inl h1, rfl, by rw [e2, e3]⟩, by rw [ela]; exact h3⟩
theorem RomD.get {K : PySem.W.Frag} {H : Hp} {d : Addr} {F : FSt} (h : RomD K H d F.R) (r : Str) : (F.R.lookup r = none ∧ DGet H d (.str r) none) ∨ ∃ y t l, F.R.lookup r = some y ∧ DGet H d (.str r) (some (.ref t)) ∧ SqT K H t [.ref l, nI y.c] ∧ H l = some (.lst (y.o.map V.str)) := by
  obtain ⟨kvs, h1, h2⟩ := h
  rcases paired_look (P := fun (p : Str × RRow) (v : V) => ∃ t l, v = .ref t ∧ SqT K H t [.ref l, nI p.2.c] ∧ H l = some (.lst (p.2.o.map V.str))) r h2 with ⟨e, e2⟩ | ⟨y, v, e, e2, t, l, e3, h3, h4⟩
  · exact .inl ⟨e, .inl ⟨kvs, Sum.inr r, .inl h1, rfl, e2.symm⟩⟩
  · exact .inr ⟨y, t, l, e, .inl ⟨kvs, Sum.inr r, .inl h1, rfl, by rw [e2, e3]⟩, h3, h4⟩
/-- who sits where, in the law's own lists -/
def HelD (H : Hp) (dh lw : Addr) (rooms : List Str) (hl : Str → List Str) : Prop := ∃ kvs, H dh = some (.dK kvs) ∧ Paired (fun (r : Str) (kv : L2.Key × V) => kv.1 = Sum.inr r ∧ ∃ l, kv.2 = .ref l ∧ l ≠ lw ∧ H l = some (.lst ((hl r).map V.str))) rooms kvs
theorem HelD.ex {G : Gt} {H H' : Hp} {dh lw : Addr} {rooms : List Str} {hl : Str → List Str} (h : HelD H dh lw rooms hl) (k : Ex G H H') : HelD H' dh lw rooms hl := by
  obtain ⟨kvs, h1, h2⟩ := h
  exact ⟨kvs, k.xat h1, paired_imp h2 fun p kv ⟨e, l, e2, n, h⟩ => ⟨e, l, e2, n, k.xat h⟩⟩
theorem HelD.at {G : Gt} {H H' : Hp} {d dh lw : Addr} {rooms : List Str} {hl : Str → List Str} {kv0 : List (L2.Key × V)} (h : HelD H dh lw rooms hl) (k : Kp G [d] H H') (hd : H d = some (.dK kv0)) (ne : dh ≠ d) : HelD H' dh lw rooms hl := by
  obtain ⟨kvs, h1, h2⟩ := h
  exact ⟨kvs, k.at h1 (by simpa using ne), paired_imp h2 fun p kv ⟨e, l, e2, n, h⟩ => ⟨e, l, e2, n, k.at1 hd h (by simp)⟩⟩
theorem HelD.atW {G : Gt} {H H' : Hp} {dh lw : Addr} {rooms : List Str} {hl : Str → List Str} (h : HelD H dh lw rooms hl) (k : Kp G [lw] H H') (ne : dh ≠ lw) : HelD H' dh lw rooms hl := by
  obtain ⟨kvs, h1, h2⟩ := h
  exact ⟨kvs, k.at h1 (by simpa using ne), paired_imp h2 fun p kv ⟨e, l, e2, n, h⟩ => ⟨e, l, e2, n, k.at h (by simpa using n)⟩⟩
theorem HelD.get {H : Hp} {dh lw : Addr} {rooms : List Str} {hl : Str → List Str} {r : Str} (h : HelD H dh lw rooms hl) (hr : r ∈ rooms) : ∃ l, DGet H dh (.str r) (some (.ref l)) ∧ H l = some (.lst ((hl r).map V.str)) := by
  obtain ⟨kvs, h1, h2⟩ := h
  have go : ∀ {rs : List Str} {kvs : List (L2.Key × V)}, Paired (fun (r : Str) (kv : L2.Key × V) => kv.1 = Sum.inr r ∧ ∃ l, kv.2 = .ref l ∧ l ≠ lw ∧ H l = some (.lst ((hl r).map V.str))) rs kvs → r ∈ rs → ∃ l, valV kvs (Sum.inr r) = some (.ref l) ∧ H l = some (.lst ((hl r).map V.str)) := by
    intro rs kvs h
    induction h with
    | nil => intro z; cases z
    | @cons r' kv rs' kvs' g _ ih =>
      intro z
      obtain ⟨e, l, e2, _, h⟩ := g
      by_cases er : r' = r
      · subst er
        exact ⟨l, by rw [valV_pos e, e2], h⟩
      · rw [valV_neg (by rw [e]; simpa using er)]
        exact ih ((List.mem_cons.mp z).resolve_left (Ne.symm er))
  obtain ⟨l, e, h⟩ := go h2 hr
  exact ⟨l, .inl ⟨kvs, Sum.inr r, .inl h1, rfl, e.symm⟩, h⟩
theorem HelD.put {G : Gt} {H H' : Hp} {dh lw l' : Addr} {rooms new : List Str} {hl : Str → List Str} {r : Str} {kvs : List (L2.Key × V)} (hr : r ∈ rooms) (h1 : H dh = some (.dK kvs)) (h2 : Paired (fun (r : Str) (kv : L2.Key × V) => kv.1 = Sum.inr r ∧ ∃ l, kv.2 = .ref l ∧ l ≠ lw ∧ H l = some (.lst ((hl r).map V.str))) rooms kvs) (k : Kp G [dh] H H') (h' : H' dh = some (.dK (putK kvs (Sum.inr r) (.ref l')))) (hl' : H' l' = some (.lst (new.map V.str))) (ne : l' ≠ lw) :
    HelD H' dh lw rooms (fun s => if s = r then new else hl s) := by
  refine ⟨_, h', ?_⟩
  have e : putK kvs (Sum.inr r) (.ref l') = kvs.map fun kv => if kv.1 = Sum.inr r then (kv.1, V.ref l') else kv := by
    unfold putK
    rw [if_pos]
    have go : ∀ {rs : List Str} {kvs : List (L2.Key × V)}, Paired (fun (r : Str) (kv : L2.Key × V) => kv.1 = Sum.inr r ∧ ∃ l, kv.2 = .ref l ∧ l ≠ lw ∧ H l = some (.lst ((hl r).map V.str))) rs kvs → r ∈ rs → (kvs.any fun kv => decide (kv.1 = Sum.inr r)) = true := by
      intro rs kvs h
      induction h with
      | nil => intro z; cases z
      | @cons r' kv rs' kvs' g _ ih =>
        intro z
        rw [List.any_cons]
        rcases List.mem_cons.mp z with z | z
        · rw [z, g.1]
          simp
        · rw [ih z]
          simp
    exact go h2 hr
  rw [e]
  have go : ∀ {rs : List Str} {kvs : List (L2.Key × V)}, Paired (fun (r : Str) (kv : L2.Key × V) => kv.1 = Sum.inr r ∧ ∃ l, kv.2 = .ref l ∧ l ≠ lw ∧ H l = some (.lst ((hl r).map V.str))) rs kvs → Paired (fun (s : Str) (kv : L2.Key × V) => kv.1 = Sum.inr s ∧ ∃ l, kv.2 = .ref l ∧ l ≠ lw ∧ H' l = some (.lst ((if s = r then new else hl s).map V.str))) rs (kvs.map fun kv => if kv.1 = Sum.inr r then (kv.1, V.ref l') else kv) := by
    intro rs kvs h
    induction h with
    | nil => exact .nil
    | @cons r' kv rs' kvs' g _ ih =>
      rw [List.map_cons]
      refine .cons ?_ ih
      obtain ⟨e, l, e2, n, h⟩ := g
      by_cases er : r' = r
      · rw [if_pos (by rw [e, er]), if_pos er]
        exact ⟨e, l', rfl, ne, hl'⟩
      · rw [if_neg (by rw [e]; simpa using er), if_neg er]
        exact ⟨e, l, e2, n, k.at1 h1 h (by simp)⟩
  exact go h2
def remD (F : FSt) (n : Str → Nat) : Nat := (F.asks.map fun a => (F.la a).length - n a).sum
theorem rem_bump {F : FSt} {n : Str → Nat} {a : Str} (nd : F.asks.Nodup) (ha : a ∈ F.asks) (hn : n a < (F.la a).length) : remD F (bump n a) + 1 = remD F n := by
  unfold remD
  generalize F.asks = as at nd ha
  induction as with
  | nil => cases ha
  | cons b as ih =>
    obtain ⟨h1, h2⟩ := List.nodup_cons.mp nd
    rw [List.map_cons, List.map_cons, List.sum_cons, List.sum_cons]
    rcases List.mem_cons.mp ha with e | e
    · subst e
      have : (as.map fun b => (F.la b).length - bump n a b) = as.map fun b => (F.la b).length - n b := List.map_congr_left fun b hb => by rw [bump_ne (fun (z : b = a) => h1 (by rw [← z]; exact hb))]
      rw [this, bump_self]
      omega
    · have := ih h2 e
      rw [bump_ne (fun (z : b = a) => h1 (by rw [z]; exact e))]
      omega
theorem putK_asks {F : FSt} {g : Str → V} {a : Str} {v : V} (ha : a ∈ F.asks) : putK (F.asks.map fun b => ((Sum.inr b : L2.Key), g b)) (Sum.inr a) v = F.asks.map fun b => (Sum.inr b, if b = a then v else g b) := by
  have e1 : (F.asks.map fun b => ((Sum.inr b : L2.Key), g b)) = (F.asks.map fun b => (b, b)).map fun p => ((Sum.inr p.1 : L2.Key), g p.2) := by
    rw [List.map_map]
    rfl
  rw [e1, putK_map (g := g) (a := a) (v := v) (as := F.asks.map fun b => (b, b)) (by rw [List.map_map]; exact List.mem_map.mpr ⟨a, ha, rfl⟩), List.map_map]
  rfl
theorem get_asks {F : FSt} {g : Str → V} {a : Str} (ha : a ∈ F.asks) : valV (F.asks.map fun b => ((Sum.inr b : L2.Key), g b)) (Sum.inr a) = some (g a) := by
  generalize F.asks = as at ha
  induction as with
  | nil => cases ha
  | cons b as ih =>
    rw [List.map_cons]
    by_cases e : b = a
    · subst e
      exact valV_pos rfl
    · rw [valV_neg (by simpa using e)]
      exact ih ((List.mem_cons.mp ha).resolve_left (Ne.symm e))
end Pm
end
/-! ## V4 -/
section
set_option Elab.async false
set_option linter.all false
set_option maxRecDepth 100000
set_option maxHeartbeats 4000000
namespace Pm
open PySem L2
theorem paired_comp {α β γ : Type} {P : α → β → Prop} {Q : β → γ → Prop} : ∀ {as : List α} {bs : List β} {cs : List γ}, Paired P as bs → Paired Q bs cs → Paired (fun a c => ∃ b, P a b ∧ Q b c) as cs
  | _, _, _, .nil, .nil => .nil
  | _, _, _, .cons h t, .cons h' t' => .cons ⟨_, h, h'⟩ (paired_comp t t')
theorem sort_pw {order lot : List Str} : (lot.mergeSort fun a b => decide ((order.idxOf a : Int) ≤ (order.idxOf b : Int))).Pairwise fun x y => order.idxOf x ≤ order.idxOf y := by
  refine (List.pairwise_mergeSort (le := fun a b => decide ((order.idxOf a : Int) ≤ (order.idxOf b : Int))) (fun a b c h1 h2 => ?_) (fun a b => ?_) lot).imp fun {a b} h => ?_
  · simp at h1 h2 ⊢
    omega
  · simp
    omega
  · simpa using h
structure DueSt (B : Bs) (H : Hp) (dh da lw df : Addr) (F : FSt) (h : Str → Option Str) (n : Str → Nat) (hl : Str → List Str) (W : List Str) : Prop where
  he : HelD H dh lw F.rooms hl
  as : H da = some (.dK (F.asks.map fun a => (Sum.inr a, nI (n a))))
  wt : H lw = some (.lst (W.map V.str))
  fd : H df = some (.dK (F.asks.map fun a => (Sum.inr a, osV (h a))))
  v : Val (FM F) h n
  hm : ∀ r ∈ F.rooms, (hl r).Nodup ∧ ∀ s, s ∈ hl r ↔ h s = some r
  ws : ∀ a ∈ W, a ∈ F.asks
  wl : W.length + remD F n ≤ 10000
theorem DueSt.ex {B : Bs} {H H' : Hp} {dh da lw df : Addr} {F : FSt} {h : Str → Option Str} {n : Str → Nat} {hl : Str → List Str} {W : List Str} (D : DueSt B H dh da lw df F h n hl W) (k : Ex B.G H H') : DueSt B H' dh da lw df F h n hl W := ⟨D.he.ex k, k.xat D.as, k.xat D.wt, k.xat D.fd, D.v, D.hm, D.ws, D.wl⟩
def pDue (B : Bs) : Pre := fun vs H S P => ∃ (d1 d2 : Addr) (F : FSt), vs = [.ref d1, .ref d2] ∧ AskD H d1 (mkA F) ∧ RomD B.K H d2 F.R ∧ F.Ok ∧ F.Nd ∧ F.A.length ≤ 20 ∧ F.R.length ≤ 20 ∧ S = [] ∧
  ∀ (v : V) (H' : Hp) (d : Addr) (h : Str → Option Str) (n : Str → Nat), v = .ref d → H d = none → H' d = some (.dK (F.asks.map fun a => (Sum.inr a, osV (h a)))) → Val (FM F) h n → Fin (FM F) h n → P v H'
theorem pDue_ex {B : Bs} : PreEx B.G (pDue B) := fun vs H H' S P k ⟨d1, d2, F, h1, h2, h3, h4, h5, h6, h7, h8, h9⟩ => ⟨d1, d2, F, h1, h2.ex k, h3.ex k, h4, h5, h6, h7, h8, fun v H'' d h n e nn => h9 v H'' d h n e (k.free nn)⟩
theorem la_len {F : FSt} (ok : F.Ok) (a : Str) : (F.la a).length ≤ 60 := la_ok ok a
theorem seats_of {F : FSt} {r : Str} {y : RRow} (hy : F.R.lookup r = some y) : F.seats r = y.c ∧ F.lo r = y.o ∧ ∀ a, F.acc a r = decide (a ∈ y.o) := by
  unfold FSt.seats FSt.lo FSt.acc
  rw [hy]
  exact ⟨rfl, rfl, fun _ => rfl⟩
section
variable {B : Bs} (TL : LawC B)
include TL
theorem ok_due {f : Addr} {fd : FuncData} {P c : Addr} (Fn : FunC B.K "_law_due" "_law_due" (top 42) f fd (.ref c)) (TB : LamX.TabB B.base B.mg c P) (hmT : (P, ("_law_due.<locals>.<lambda>" : Str)) ∈ B.G) (hu : ∀ p ∈ B.G, p.1 = P → p.2 = ("_law_due.<locals>.<lambda>" : Str)) : FnOk B.P B.w B.K B.mg B.base CX0 4 f fd ["askers", "rooms"] (spM B.G (pDue B)) := by
  refine def_ok Fn sc42 (fun vs H SS P ⟨d1, d2, F, e, _⟩ => by rw [e]; rfl) fun vs H SS P D ht hp hD _ => ?_
  obtain ⟨d1, d2, F, rfl, hA, hR, ok, nd, hlA, hlR, rfl, hP⟩ := hp
  have hAl : F.asks.length ≤ 20 := by rw [FSt.len_asks]; exact hlA
  have hnA : F.asks.Nodup := ok.kA
  have hnR : F.rooms.Nodup := ok.kR
  obtain ⟨kA, a1, a2⟩ := id hA
  obtain ⟨kR, r1, r2⟩ := id hR
  have keyA : kA.map (fun kv => kv.1) = F.asks.map Sum.inr := by
    rw [paired_keys (P := fun (p : Str × List Str) (v : V) => ∃ l, v = .ref l ∧ H l = some (.lst (p.2.map V.str))) a2]
    unfold mkA FSt.asks
    rw [List.map_map, List.map_map]
    rfl
  have keyR : kR.map (fun kv => kv.1) = F.rooms.map Sum.inr := by
    rw [paired_keys (P := fun (p : Str × RRow) (v : V) => ∃ t l, v = .ref t ∧ SqT B.K H t [.ref l, nI p.2.c] ∧ H l = some (.lst (p.2.o.map V.str))) r2]
    unfold FSt.rooms
    rw [List.map_map]
    rfl
  have lkA : kA.length ≤ 1000000 := by
    have := congrArg List.length keyA
    rw [List.length_map, List.length_map] at this
    omega
  have lkR : kR.length ≤ 1000000 := by
    have := congrArg List.length keyR
    rw [List.length_map, List.length_map, FSt.len_rooms] at this
    omega
  have mrgA : ∀ (g : V), mergeK [] ((kA.filter fun _ => true).map fun kv => (kv.1, g)) = F.asks.map fun a => ((Sum.inr a : L2.Key), g) := fun g => by
    rw [List.filter_eq_self.mpr (fun _ _ => rfl)]
    have e : (kA.map fun kv => (kv.1, g)) = F.asks.map fun a => ((Sum.inr a : L2.Key), g) := by
      have := congrArg (List.map fun k : L2.Key => (k, g)) keyA
      rw [List.map_map, List.map_map] at this
      exact this
    rw [e, mergeK_nodup, List.nil_append]
    rw [List.nil_append, List.map_map]
    exact List.Pairwise.map _ (fun a b hab z => hab (Sum.inr.inj z)) hnA
  refine s_par3 (PA := fun vs H' => ∃ dh da lw, vs = [.ref dh, .ref da, .ref lw] ∧ H dh = none ∧ H da = none ∧ H lw = none ∧ dh ≠ da ∧ dh ≠ lw ∧ da ≠ lw ∧ HelD H' dh lw F.rooms (fun _ => []) ∧ H' da = some (.dK (F.asks.map fun a => (Sum.inr a, nI 0))) ∧ H' lw = some (.lst ((sortS F.asks).map V.str))) 3 4 5 ?_ fun vs H1 k1 ⟨dh, da, lw, e, nh, na, nw, n12, n13, n23, he, has, hwt⟩ => ⟨_, _, _, e, ?_⟩
  · refine a_consB (e_dictKR [("room", 7)] TL.dict r1 (fun od => ev 1) (fun _ => true) (fun kv => kv.1) (fun _ => .inr (.lst [])) (fun _ o e => by cases e; rfl) lkR fun od kv H1 hk k => ⟨_, eg_name 7, rfl, ts_nil, fun _ => ⟨ev 7, e_lst a_nil⟩⟩) fun x H1 k1 ⟨dh, kvs', e, nh, h1, h2⟩ => ?_
    rw [List.filter_eq_self.mpr (fun _ _ => rfl)] at h2
    have keyH : kvs'.map (fun kv => kv.1) = F.rooms.map Sum.inr := by
      have : ∀ {as bs : List (L2.Key × V)}, Paired (fun (kv kv' : L2.Key × V) => kv'.1 = kv.1 ∧ ValX H (.inr (.lst [])) kv'.2 H1) as bs → bs.map (fun kv => kv.1) = as.map fun kv => kv.1 := by
        intro as bs h
        induction h with
        | nil => rfl
        | cons g _ ih => rw [List.map_cons, List.map_cons, ih, g.1]
      rw [this h2, keyR]
    have mg : mergeK [] kvs' = kvs' := by
      rw [mergeK_nodup, List.nil_append]
      rw [List.nil_append, keyH]
      exact List.Pairwise.map _ (fun a b hab z => hab (Sum.inr.inj z)) hnR
    rw [mg] at h1
    refine a_consB (PA := fun vs H' => ∃ dh da lw, x :: vs = [.ref dh, .ref da, .ref lw] ∧ H dh = none ∧ H da = none ∧ H lw = none ∧ dh ≠ da ∧ dh ≠ lw ∧ da ≠ lw ∧ HelD H' dh lw F.rooms (fun _ => []) ∧ H' da = some (.dK (F.asks.map fun a => (Sum.inr a, nI 0))) ∧ H' lw = some (.lst ((sortS F.asks).map V.str))) (e_dictK [("one", 6)] TL.dict (k1.xat a1) (fun od => ev 0) (fun _ => true) (fun kv => kv.1) (fun _ => nI 0) lkA fun od kv H2 hk k => ⟨_, eg_name 6, rfl, ts_nil, fun _ => ⟨ev 6, e_int⟩⟩) fun y H2 k2 ⟨da, e2, n2, h3⟩ => ?_
    rw [mrgA] at h3
    refine fun H3 k3 Q q' => a_1B (e_sortD TL.sorted (ev 0) (.inl ((k1.t k2).xat a1)) keyA (by omega)) (fun _ _ => rfl) H3 k3 Q fun vs H4 k4 ⟨z, e4, lw, e5, n5, h5⟩ => q' vs H4 k4 ⟨dh, da, lw, by rw [e, e2, e4, e5], nh, k1.free n2, (k1.t k2).free n5, fun w => ?_, fun w => ?_, fun w => ?_, ⟨kvs', (k2.t (k3.t k4)).xat h1, ?_⟩, (k3.t k4).xat h3, h5⟩
    · rw [← w, h1] at n2
      cases n2
    · rw [← w, k2.xat h1] at n5
      cases n5
    · rw [← w, h3] at n5
      cases n5
    · have hc := paired_comp r2 h2
      have : F.rooms = F.R.map fun p => p.1 := rfl
      rw [this]
      refine paired_map (paired_imp hc fun p kv' ⟨kv, ⟨e1, _⟩, e2, q, e3, n3, h3⟩ => ⟨by rw [e2, e1], q, e3, fun w => ?_, (k2.t (k3.t k4)).xat h3⟩)
      rw [← w, k2.xat h3] at n5
      cases n5
  refine s_set (i := 2) (e_dictK [("one", 6)] TL.dict (k1.xat a1) (fun od => ev 0) (fun _ => true) (fun kv => kv.1) (fun _ => V.non) lkA fun od kv H2 hk k => ⟨_, eg_name 6, rfl, ts_nil, fun _ => ⟨ev 6, e_non⟩⟩) fun v H2 k2 ⟨df, e, nf, hfd⟩ => ?_
  subst e
  rw [mrgA] at hfd
  have nf' := k1.free nf
  have ndf : ∀ {x : Addr} {o : HO}, H1 x = some o → df ≠ x := fun hx z => by rw [z, hx] at nf; cases nf
  obtain ⟨kh0, kh1, _⟩ := id he
  have fh := ndf kh1
  have fa := ndf has
  have fw := ndf hwt
  have D0 : DueSt B H2 dh da lw df F (fun _ => none) (fun _ => 0) (fun _ => []) (sortS F.asks) := by
    refine ⟨he.ex k2, k2.xat has, k2.xat hwt, hfd, due_init, fun r _ => ⟨List.nodup_nil, fun s => ⟨fun z => (nomatch z), fun z => (nomatch z)⟩⟩, fun a ha => mem_sortS.mp ha, ?_⟩
    have h1 : remD F (fun _ => 0) ≤ F.asks.length * 60 := by
      unfold remD
      generalize F.asks = as
      induction as with
      | nil => simp
      | cons a as ih =>
        rw [List.map_cons, List.sum_cons, List.length_cons, Nat.add_mul]
        have := la_len ok a
        omega
    rw [(sortS_perm _).length_eq]
    omega
  have hso : ∀ {W : List Str}, (∀ a ∈ W, a ∈ F.asks) → ∀ x ∈ W, sOk x := fun hW x hx => by
    obtain ⟨p, hp, rfl⟩ := List.mem_map.mp (hW x hx)
    exact (ok.oA p hp).1
  have hin : ∀ {h : Str → Option Str} {n : Str → Nat}, Val (FM F) h n → ∀ {a r : Str}, h a = some r → a ∈ F.asks := fun {h n} v {a r} e => by
    obtain ⟨i, _, h2, _⟩ := v.held a r e
    exact la_asks (List.mem_of_getElem? h2)
  have fin : ∀ {h : Str → Option Str} {n : Str → Nat}, Val (FM F) h n → (∀ a ∈ F.asks, h a = none → n a < (F.la a).length → False) → Fin (FM F) h n := fun {h n} v hw a ha => by
    show n a = (F.la a).length
    have hle : n a ≤ (F.la a).length := v.le a
    by_cases hm : a ∈ F.asks
    · exact Nat.le_antisymm hle (Nat.le_of_not_lt fun z => hw a hm ha z)
    · rw [la_none hm] at hle ⊢
      simpa using hle
  refine s_while (fun m σ1 H3 => ∃ (h : Str → Option Str) (n : Str → Nat) (hl : Str → List Str) (W : List Str) (o6 o7 o8 o9 o10 o11 : Option V), σ1 = [some (.ref d1), some (.ref d2), some (.ref df), some (.ref dh), some (.ref da), some (.ref lw), o6, o7, o8, o9, o10, o11] ∧ Ex B.G H H3 ∧ DueSt B H3 dh da lw df F h n hl W ∧ (∀ a ∈ F.asks, h a = none → n a < (F.la a).length → a ∈ W) ∧ m = 2 * remD F n + W.length)
    ⟨_, _, _, _, _, none, none, none, none, none, none, rfl, k1.t k2, D0, fun a ha _ _ => mem_sortS.mpr ha, rfl⟩ fun m σ1 H3 ⟨h, n, hl, W, o6, o7, o8, o9, o10, o11, e, k3, DS, hwt', em⟩ => ⟨!decide (W = []), by rw [e]; exact t_k (c_neNilS (ev 5) DS.wt (hso DS.ws)), fun hb => ?_, fun hb => ?_⟩
  · subst e
    have hW : W = [] := by simpa using hb
    refine s_ret (ev 2) fun v H4 k4 e => hD _ _ (k3.t k4) (hP v H4 df h n e nf' (k4.xat DS.fd) DS.v (fin DS.v fun a ha h1 h2 => ?_))
    have := hwt' a ha h1 h2
    rw [hW] at this
    cases this
  · subst e em
    have hW : W ≠ [] := by simpa using hb
    obtain ⟨W0, one, rfl⟩ := SrtO.snoc_of (l := W) (List.length_pos_iff.mpr hW)
    have hone : one ∈ F.asks := DS.ws one (by simp)
    have wt3 := DS.wt
    rw [List.map_append] at wt3
    refine s_set (i := 6) (e_pop (ev 5) wt3) fun v H4 k4 ⟨e, h4⟩ => ?_
    subst e
    have k34 : Ex B.G H H4 := Kp.step k3 k4 fun x hx => .inr (by rw [List.mem_singleton.mp hx]; exact nw)
    obtain ⟨M0, hM0⟩ : ∃ M0, M0 = 2 * remD F n + (W0 ++ [one]).length := ⟨_, rfl⟩
    rw [← hM0]
    have DS4 : DueSt B H4 dh da lw df F h n hl W0 := ⟨DS.he.atW k4 n13, k4.at DS.as (by simpa using n23), h4, k4.at DS.fd (by simpa using fw), DS.v, DS.hm, fun a ha => DS.ws a (List.mem_append_left _ ha), by have := DS.wl; rw [List.length_append] at this; omega⟩
    refine s_while (fun m σ1 H5 => ∃ (h : Str → Option Str) (n : Str → Nat) (hl : Str → List Str) (W : List Str) (o7 o8 o9 o10 o11 : Option V), σ1 = [some (.ref d1), some (.ref d2), some (.ref df), some (.ref dh), some (.ref da), some (.ref lw), some (.str one), o7, o8, o9, o10, o11] ∧ Ex B.G H H5 ∧ DueSt B H5 dh da lw df F h n hl W ∧ (∀ a ∈ F.asks, h a = none → n a < (F.la a).length → a ∈ W ∨ a = one) ∧ 2 * remD F n + W.length < M0 ∧ m = remD F n)
      ⟨_, h, n, hl, W0, o7, o8, o9, o10, o11, rfl, k34, DS4, fun a ha h1 h2 => by simpa using hwt' a ha h1 h2, by rw [hM0, List.length_append]; simp, rfl⟩ fun m σ2 H5 ⟨h, n, hl, W, o7, o8, o9, o10, o11, e, k5, DS, hwt', hm, em⟩ => ?_
    subst e em
    have gf : valV (F.asks.map fun a => ((Sum.inr a : L2.Key), osV (h a))) (Sum.inr one) = some (osV (h one)) := get_asks (g := fun a => osV (h a)) hone
    have gn : valV (F.asks.map fun a => ((Sum.inr a : L2.Key), nI (n a))) (Sum.inr one) = some (nI (n one)) := get_asks (g := fun a => nI (n a)) hone
    obtain ⟨la, ga, hla⟩ := (hA.ex k5).get hone
    have ef : DGet H5 df (.str one) (some (osV (h one))) := .inl ⟨_, Sum.inr one, .inl DS.fd, rfl, gf.symm⟩
    have en : DGet H5 da (.str one) (some (nI (n one))) := .inl ⟨_, Sum.inr one, .inl DS.as, rfl, gn.symm⟩
    refine ⟨decide (h one = none) && decide (n one < (F.la one).length), t_and (t_k (CM.is (c_isN (e_dget (ev 2) (ev 6) ef)) (osV_non _))) fun _ => t_k (CM.is (c_lt (i := n one) (j := (F.la one).length) (e_dget (ev 4) (ev 6) en) (EK.is (e_lenSeq TL.len (e_dget (ev 0) (ev 6) ga) (.inl (.inl (.inl hla)))) (by rw [List.length_map]))) (by simp)), fun hb => s_lp ⟨_, hm, h, n, hl, W, _, _, _, _, _, _, rfl, k5, DS, fun a ha h1 h2 => ?_, rfl⟩, fun hb => ?_⟩
    · rcases hwt' a ha h1 h2 with z | z
      · exact z
      · rw [z] at h1 h2
        simp [h1, h2] at hb
    have hb' : h one = none ∧ n one < (F.la one).length := by simpa using hb
    obtain ⟨hnone, hlt⟩ := hb'
    have hrg : (F.la one)[n one]? = some (F.la one)[n one] := List.getElem?_eq_getElem hlt
    generalize (F.la one)[n one] = r at hrg
    refine s_setV (i := 7) (v := .str r) (e_ixL (e_dget (ev 0) (ev 6) ga) (e_dget (ev 4) (ev 6) en) (.inl (.inl hla)) (atI_nat (by rw [List.getElem?_map, hrg]; rfl))) ?_
    refine s_dputV (key := Sum.inr one) (e_add (i := n one) (j := 1) (e_dget (ev 4) (ev 6) en) e_int) (ev 4) (ev 6) DS.as (by rw [List.length_map]; omega) fun H6 k6 h6 => ?_
    have k56 : Ex B.G H H6 := Kp.step k5 k6 fun x hx => .inr (by rw [List.mem_singleton.mp hx]; exact na)
    have h6' : H6 da = some (.dK (F.asks.map fun a => (Sum.inr a, nI (bump n one a)))) := by
      rw [h6]
      have := putK_asks (F := F) (g := fun a => nI (n a)) (v := V.int ((n one : Int) + 1)) hone
      rw [show putK (F.asks.map fun a => ((Sum.inr a : L2.Key), nI (n a))) (Sum.inr one) (V.int ((n one : Int) + 1)) = _ from this]
      congr 2
      refine List.map_congr_left fun b _ => ?_
      unfold bump
      by_cases eb : b = one
      · rw [if_pos eb, if_pos eb]
        rfl
      · rw [if_neg eb, if_neg eb]
    have he6 := DS.he.at k6 DS.as n12
    have wt6 := k6.at DS.wt (by simpa using Ne.symm n23)
    have fd6 := k6.at DS.fd (by simpa using fa)
    have hrem := rem_bump hnA hone hlt
    have wl6 : W.length + remD F (bump n one) + 1 ≤ 10000 := by
      have := DS.wl
      omega
    have wtN : ∀ {h' : Str → Option Str} {W' : List Str}, (∀ a ∈ W, a ∈ W') → (∀ a, h' a = none → h a ≠ none → a ∈ W' ∨ a = one) → ∀ a ∈ F.asks, h' a = none → bump n one a < (F.la a).length → a ∈ W' ∨ a = one := fun {h' W'} hW hh a ha h1 h2 => by
      by_cases e : a = one
      · exact .inr e
      · by_cases h0 : h a = none
        · rw [bump_ne e] at h2
          rcases hwt' a ha h0 h2 with z | z
          · exact .inl (hW a z)
          · exact .inr z
        · exact hh a h1 h0
    have romG := (hR.ex k56).get r
    have tcond : T (ctx B ["askers", "rooms", "found", "held", "asked_now", "waiting", "one", "room", "lot", "other", "order", "count"] (top 42) 3 (.ref c) "_law_due") [some (.ref d1), some (.ref d2), some (.ref df), some (.ref dh), some (.ref da), some (.ref lw), some (.str one), some (.str r), o8, o9, o10, o11] H6 (match (match (match (defBody (top 42)).getD 2 (.Pass ⟨0,0,0,0⟩) with | .While _ b _ _ => b | _ => []).getD 1 (.Pass ⟨0,0,0,0⟩) with | .While _ b _ _ => b | _ => []).getD 2 (.Pass ⟨0,0,0,0⟩) with | .If c _ _ _ => c | _ => .Name "x" ⟨0,0,0,0⟩) (F.acc one r) := by
      rcases romG with ⟨e1, e2⟩ | ⟨y, t, l, e1, e2, e3, e4⟩
      · have : F.acc one r = false := by unfold FSt.acc; rw [e1]
        rw [this]
        exact t_and (s := false) (t := false) (t_k (c_din (ev 7) (ev 1) e2)) fun z => nomatch z
      · have : F.acc one r = (true && decide (one ∈ y.o)) := by rw [(seats_of e1).2.2]; simp
        rw [this]
        exact t_and (t_k (c_din (ev 7) (ev 1) e2)) fun _ => t_k (CM.is (c_inSeq (ev 6) (e_ixT (e_dget (ev 1) (ev 7) e2) e_int e3 rfl) (.inl (.inl (.inl e4))) rfl flat_str) inV_str)
    refine s_if tcond (fun hacc => ?_) (fun hacc => s_next (s_lp ⟨_, by omega, h, bump n one, hl, W, _, _, _, _, _, rfl, k56, ⟨he6, h6', wt6, fd6, due_no DS.v nd hnone hrg hacc, DS.hm, DS.ws, by omega⟩, wtN (fun _ z => z) (fun a h1 h0 => absurd h1 h0), by omega, rfl⟩))
    rcases romG with ⟨e1, e2⟩ | ⟨y, t, lo, hy, e2, e3, e4⟩
    · unfold FSt.acc at hacc
      rw [e1] at hacc
      cases hacc
    obtain ⟨es, elo, eacc⟩ := seats_of hy
    have hrr : r ∈ F.rooms := acc_rooms hacc
    obtain ⟨nH, hH⟩ := DS.hm r hrr
    have hcap : (hl r).length ≤ F.seats r := DS.v.cap r (hl r) nH fun s hs => (hH s).mp hs
    have hyo : y.o.length ≤ 60 := (ok.tR _ (lookup_mem hy)).1
    have hlo : ∀ s, h s = some r → s ∈ y.o := fun s hs => by
      obtain ⟨_, _, _, h3⟩ := DS.v.held s r hs
      have h3 : F.acc s r = true := h3
      rw [eacc] at h3
      simpa using h3
    have hoo : one ∈ y.o := by
      rw [eacc] at hacc
      simpa using hacc
    have hlen : (hl r).length ≤ 60 := Nat.le_trans (nodup_sub_len nH fun s hs => hlo s ((hH s).mp hs)) hyo
    refine s_asg (e_dget (ev 1) (ev 7) e2) fun v H7 k7 e => ?_
    subst e
    refine ⟨_, eg_tup2 10 11 (ex_t k7 e3), ?_⟩
    obtain ⟨lh, gh, hlh⟩ := (he6.ex k7).get hrr
    have k57 := k56.t k7
    refine s_set (i := 8) (e_sortIx (i := 10) (ss := hl r ++ [one]) (ys := y.o) 0 (Nat.le_refl _) TL.sorted ⟨TB, rfl, rfl, hmT, hu⟩ (k57.tok ht) (e_catL (xs := (hl r).map V.str) (ys := [V.str one]) (EK.imp (e_dget (ev 3) (ev 7) gh) fun v H8 k8 e => ⟨lh, e, k8.xat hlh⟩) (EK.imp (e_lst (a_1 (ev 6))) fun v H8 k8 ⟨p, e, _, hp⟩ => ⟨p, e, hp⟩) (by rw [List.length_map]; simp; omega)) (fun v H8 k8 ⟨p, e, _, hp⟩ => ⟨p, e, by rw [hp, List.map_append]; rfl⟩) rfl (k7.xat e4) (fun x hx => by
      rcases List.mem_append.mp hx with z | z
      · exact hlo x ((hH x).mp z)
      · rw [List.mem_singleton.mp z]
        exact hoo)) fun v H8 k8 ⟨ll, e, nll, hll⟩ => ?_
    subst e
    obtain ⟨lot, hlot⟩ : ∃ lot, lot = ((hl r ++ [one]).mergeSort fun a b => decide ((y.o.idxOf a : Int) ≤ (y.o.idxOf b : Int))) := ⟨_, rfl⟩
    rw [← hlot] at hll
    have hperm : lot.Perm (hl r ++ [one]) := by rw [hlot]; exact List.mergeSort_perm _ _
    have hsrt : lot.Pairwise fun x y => (F.lo r).idxOf x ≤ (F.lo r).idxOf y := by rw [hlot, elo]; exact sort_pw
    have hll1 : lot.length = (hl r).length + 1 := by rw [hperm.length_eq, List.length_append]; rfl
    obtain ⟨sv, snd, smem, sdrop, sch⟩ := due_step DS.v nd hnone hrg hacc nH hH hperm hsrt
    rw [es] at sv snd smem sdrop sch hcap
    have hdl : (lot.drop y.c).length ≤ 1 := by rw [List.length_drop]; omega
    clear hlot
    have k58 := k57.t k8
    have he8 := (he6.ex k7).ex k8
    obtain ⟨kvh, q1, q2⟩ := id he8
    have lkh : kvh.length < 1000000 := by
      rw [← paired_len q2, FSt.len_rooms]
      omega
    have wt8 := (k7.t k8).xat wt6
    have fd8 := (k7.t k8).xat fd6
    have as8 := (k7.t k8).xat h6'
    refine s_dput (key := Sum.inr r) (e_slL (ev 8) (.inl (.inl hll)) o_none (o_some (i := (y.c : Int)) (ev 11))) (fun v Ha k _ => ev 3) (fun v Ha k _ => ev 7) q1 lkh fun v Ha Hb ka ⟨l', e, nl', hl'⟩ kb hb' => ?_
    subst e
    rw [cutV_take] at hl'
    have q1a := ka.xat q1
    have wtb := kb.at (ka.xat wt8) (by simpa using Ne.symm n13)
    have fdb := kb.at (ka.xat fd8) (by simpa using fh)
    have asb := kb.at (ka.xat as8) (by simpa using Ne.symm n12)
    have llb := kb.at1 q1a (ka.xat hll) (by simp)
    have heb : HelD Hb dh lw F.rooms (fun s => if s = r then lot.take y.c else hl s) := HelD.put hrr q1a (paired_imp q2 fun p kv ⟨e, l, e2, n, h⟩ => ⟨e, l, e2, n, ka.xat h⟩) kb hb' (kb.at1 q1a hl' (by simp)) (fun z => by rw [z, wt8] at nl'; cases nl')
    have kHb : Ex B.G H Hb := Kp.step (k58.t ka) kb fun x hx => .inr (by rw [List.mem_singleton.mp hx]; exact nh)
    refine s_ifJ (fun σ1 Hc => σ1 = [some (.ref d1), some (.ref d2), some (.ref df), some (.ref dh), some (.ref da), some (.ref lw), some (.str one), some (.str r), some (.ref ll), o9, some (.ref lo), some (nI y.c)] ∧ Ex B.G H Hc ∧ HelD Hc dh lw F.rooms (fun s => if s = r then lot.take y.c else hl s) ∧ Hc da = some (.dK (F.asks.map fun a => (Sum.inr a, nI (bump n one a)))) ∧ Hc lw = some (.lst (W.map V.str)) ∧ Hc df = some (.dK (F.asks.map fun a => (Sum.inr a, osV (if a = one ∧ one ∈ lot.take y.c then some r else h a)))) ∧ Hc ll = some (.lst (lot.map V.str)))
      (t_k (CM.is (c_inSeqB (xs := (lot.take y.c).map V.str) (ev 6) (e_slL (ev 8) (.inl (.inl llb)) o_none (o_some (i := (y.c : Int)) (ev 11))) (fun v Hc kc ⟨p, e, _, hp⟩ => ⟨p, e, .inl (.inl (.inl (by rw [hp, cutV_take])))⟩) rfl flat_str) inV_str)) (fun ht => ?_) (fun ht => s_jn ⟨rfl, kHb, heb, asb, wtb, ?_, llb⟩) fun σ3 Hc ⟨e, kc, hec, asc, wtc, fdc, llc⟩ => ?_
    · have hot : one ∈ lot.take y.c := of_decide_eq_true ht
      refine s_dputV (key := Sum.inr one) (ev 7) (ev 2) (ev 6) fdb (by rw [List.length_map]; omega) fun Hc kc hc => s_jn ⟨rfl, Kp.step kHb kc fun x hx => .inr (by rw [List.mem_singleton.mp hx]; exact nf'), heb.at kc fdb (Ne.symm fh), kc.at asb (by simpa using Ne.symm fa), kc.at wtb (by simpa using Ne.symm fw), ?_, kc.at1 fdb llb (by simp)⟩
      rw [hc]
      have := putK_asks (F := F) (g := fun a => osV (h a)) (v := V.str r) hone
      rw [show putK (F.asks.map fun a => ((Sum.inr a : L2.Key), osV (h a))) (Sum.inr one) (V.str r) = _ from this]
      congr 2
      refine List.map_congr_left fun b _ => ?_
      by_cases eb : b = one
      · rw [if_pos eb, if_pos ⟨eb, hot⟩]
        rfl
      · rw [if_neg eb, if_neg (fun z => eb z.1)]
    · rw [fdb]
      have hot : ¬ one ∈ lot.take y.c := of_decide_eq_false ht
      congr 2
      refine List.map_congr_left fun b _ => ?_
      rw [if_neg (fun z => hot z.2)]
    · subst e
      refine s_forLB (e_slL (ev 8) (.inl (.inl llc)) (o_some (i := (y.c : Int)) (ev 11)) o_none) fun v Hd kd ⟨l2, e, nl2, hl2⟩ => ⟨l2, lot.drop y.c, V.str, fun i σ4 He => ∃ o9, σ4 = [some (.ref d1), some (.ref d2), some (.ref df), some (.ref dh), some (.ref da), some (.ref lw), some (.str one), some (.str r), some (.ref ll), o9, some (.ref lo), some (nI y.c)] ∧ Ex B.G H He ∧ HelD He dh lw F.rooms (fun s => if s = r then lot.take y.c else hl s) ∧ He da = some (.dK (F.asks.map fun a => (Sum.inr a, nI (bump n one a)))) ∧ He lw = some (.lst ((W ++ ((lot.drop y.c).take i).filter fun s => !decide (s = one)).map V.str)) ∧
          He df = some (.dK (F.asks.map fun a => (Sum.inr a, osV (if a ∈ (lot.drop y.c).take i ∧ a ≠ one then none else if a = one ∧ one ∈ lot.take y.c then some r else h a)))) ∧ He l2 = some (.lst ((lot.drop y.c).map V.str)) ∧ l2 ≠ lw, e, .inl (.inl (by rw [hl2, cutV_drop])), ⟨o9, rfl, kc.t kd, hec.ex kd, kd.xat asc, ?_, ?_, by rw [hl2, cutV_drop], fun z => by rw [z, wtc] at nl2; cases nl2⟩, fun i σ4 He ⟨_, _, _, _, _, _, _, h7, _⟩ => .inl (.inl h7), fun i s σ4 He hsi ⟨o9, e, ke, hee, ase, wte, fde, l2e, nl⟩ => ?_, fun σ4 He ⟨o9, e, ke, hee, ase, wte, fde, l2e, nl⟩ => ?_⟩
      · rw [List.take_zero]
        simpa using kd.xat wtc
      · rw [List.take_zero]
        simpa using kd.xat fdc
      · subst e
        refine ⟨_, eg_name 9, ?_⟩
        have hsm : s ∈ lot.drop y.c := List.mem_of_getElem? hsi
        refine s_if (b := !decide (s = one)) (t_k (CM.is (c_ne (x := .str s) (y := .str one) rfl (ev 9) (ev 6)) (by simp))) (fun hne => ?_) (fun hne => s_next (s_lp ⟨_, rfl, ke, hee, ase, ?_, ?_, l2e, nl⟩))
        · have hne' : s ≠ one := by simpa using hne
          have hsA : s ∈ F.asks := hin DS.v (sdrop s hsm hne')
          refine s_dputV (key := Sum.inr s) e_non (ev 2) (ev 9) fde (by rw [List.length_map]; omega) fun Hf kf hf => ?_
          have wtf := kf.at wte (by simpa using Ne.symm fw)
          refine s_expr (e_append (Pa := fun u _ => u = V.str s) (ev 5) wtf (ev 9) (by rw [List.length_map]; have h1 : (((lot.drop y.c).take i).filter fun s => !decide (s = one)).length ≤ ((lot.drop y.c).take i).length := List.length_filter_le ..; have h2 : ((lot.drop y.c).take i).length ≤ (lot.drop y.c).length := List.length_take_le' ..; rw [List.length_append]; omega)) fun v Hg kg ⟨z, Hx, e, kx, ez, kx2, hg⟩ => ?_
          subst ez
          have asf := kf.at ase (by simpa using Ne.symm fa)
          have l2f := kf.at1 fde l2e (by simp)
          refine s_next (s_lp ⟨_, rfl, Kp.step (Kp.step ke kf fun x hx => .inr (by rw [List.mem_singleton.mp hx]; exact nf')) kg fun x hx => .inr (by rw [List.mem_singleton.mp hx]; exact nw), (hee.at kf fde (Ne.symm fh)).atW kg n13, kg.at asf (by simpa using n23), ?_, ?_, kg.at l2f (by simpa using nl), nl⟩)
          · rw [hg, List.take_add_one, hsi, List.filter_append]
            simp [hne']
          · rw [kg.at hf (by simpa using fw)]
            have := putK_asks (F := F) (g := fun a => osV (if a ∈ (lot.drop y.c).take i ∧ a ≠ one then none else if a = one ∧ one ∈ lot.take y.c then some r else h a)) (v := V.non) hsA
            rw [show putK (F.asks.map fun a => ((Sum.inr a : L2.Key), osV (if a ∈ (lot.drop y.c).take i ∧ a ≠ one then none else if a = one ∧ one ∈ lot.take y.c then some r else h a))) (Sum.inr s) V.non = _ from this]
            congr 2
            refine List.map_congr_left fun b _ => ?_
            rw [List.take_add_one, hsi]
            by_cases eb : b = s
            · rw [if_pos eb, if_pos ⟨by rw [eb]; simp, by rw [eb]; exact hne'⟩]
              rfl
            · rw [if_neg eb]
              simp [eb]
        · have hne' : s = one := by simpa using hne
          rw [wte, List.take_add_one, hsi, List.filter_append]
          simp [hne']
        · have hne' : s = one := by simpa using hne
          rw [fde, List.take_add_one, hsi]
          congr 2
          refine List.map_congr_left fun b _ => ?_
          by_cases eb : b = one
          · simp [eb]
          · simp [eb, hne']
      · subst e
        rw [List.take_length] at wte fde
        have hfl : ((lot.drop y.c).filter fun s => !decide (s = one)).length ≤ 1 := Nat.le_trans (List.length_filter_le ..) hdl
        refine s_next (s_lp ⟨_, by omega, dueH h one r y.c lot, bump n one, fun s => if s = r then lot.take y.c else hl s, W ++ (lot.drop y.c).filter fun s => !decide (s = one), _, _, _, _, _, rfl, ke, ⟨hee, ase, wte, fde, sv, fun r' hr' => ?_, fun a ha => ?_, by rw [List.length_append]; omega⟩, wtN (fun _ z => List.mem_append_left _ z) (fun a h1 h0 => ?_), by rw [List.length_append]; omega, rfl⟩)
        · by_cases er : r' = r
          · rw [if_pos er, er]
            exact ⟨snd, smem⟩
          · rw [if_neg er]
            obtain ⟨m1, m2⟩ := DS.hm r' hr'
            refine ⟨m1, fun s => (m2 s).trans ?_⟩
            unfold dueH
            by_cases c1 : s ∈ lot.drop y.c ∧ s ≠ one
            · rw [if_pos c1, sdrop s c1.1 c1.2]
              constructor
              · intro e
                exact absurd (Option.some.inj e).symm er
              · intro e
                cases e
            · rw [if_neg c1]
              by_cases c2 : s = one ∧ one ∈ lot.take y.c
              · rw [if_pos c2, c2.1, hnone]
                constructor
                · intro e
                  cases e
                · intro e
                  exact absurd (Option.some.inj e).symm er
              · rw [if_neg c2]
        · rcases List.mem_append.mp ha with z | z
          · exact DS.ws a z
          · obtain ⟨z1, z2⟩ := List.mem_filter.mp z
            exact hin DS.v (sdrop a z1 (by simpa using z2))
        · by_cases e : a = one
          · exact .inr e
          · left
            refine List.mem_append_right _ (List.mem_filter.mpr ⟨?_, by simpa using e⟩)
            unfold dueH at h1
            by_cases c1 : a ∈ lot.drop y.c ∧ a ≠ one
            · exact c1.1
            · rw [if_neg c1, if_neg (fun z => e z.1)] at h1
              exact absurd h1 h0
end
end Pm
end
/-! ## V5 -/
section
set_option Elab.async false
set_option linter.all false
set_option maxRecDepth 100000
set_option maxHeartbeats 4000000
namespace Pm
open PySem L2
/-! ### _law_blocked -/
def btr (F : FSt) (h : Str → Option Str) (a : Str) : List Str := match h a with
  | none => F.la a
  | some r => (F.la a).take ((F.la a).idxOf r)
theorem btr_gone {F : FSt} {h : Str → Option Str} {n : Str → Nat} (v : Val (FM F) h n) (f : Fin (FM F) h n) (nd : F.Nd) {a r : Str} (hr : r ∈ btr F h a) (hacc : F.acc a r = true) : (∃ S : List Str, S.Nodup ∧ S.length = F.seats r ∧ ∀ s ∈ S, h s = some r) ∧ ∀ s, h s = some r → (F.lo r).idxOf s < (F.lo r).idxOf a := by
  have key : ∃ i, i < n a ∧ (F.la a)[i]? = some r ∧ h a ≠ some r := by
    unfold btr at hr
    cases ha : h a with
    | none =>
      rw [ha] at hr
      obtain ⟨i, hi, e⟩ := List.getElem_of_mem hr
      have hn : n a = (F.la a).length := f a ha
      exact ⟨i, by rw [hn]; exact hi, by rw [List.getElem?_eq_getElem hi, e], by simp⟩
    | some r' =>
      rw [ha] at hr
      obtain ⟨i, e1, e2, e3⟩ := v.held a r' ha
      have e2 : (F.la a)[i]? = some r' := e2
      obtain ⟨j, hj, e⟩ := List.getElem_of_mem hr
      have hj' : j < (F.la a).idxOf r' := by
        rw [List.length_take] at hj
        omega
      have hjr : (F.la a)[j]? = some r := by
        have : ((F.la a).take ((F.la a).idxOf r'))[j]? = some r := by rw [List.getElem?_eq_getElem hj, e]
        rw [List.getElem?_take, if_pos hj'] at this
        exact this
      have hidx : (F.la a).idxOf r' = i := by
        have hm : r' ∈ F.la a := List.mem_of_getElem? e2
        refine nodup_inj (la_nd nd a) ?_ e2
        rw [List.getElem?_eq_getElem (List.idxOf_lt_length_iff.mpr hm)]
        exact congrArg some (List.getElem_idxOf _)
      refine ⟨j, by omega, hjr, fun z => ?_⟩
      have hz : r' = r := Option.some.inj z
      rw [hz] at e2
      have := nodup_inj (la_nd nd a) hjr e2
      omega
  obtain ⟨i, hi, e, hne⟩ := key
  rcases v.gone a i r hi e hne with g | g
  · have g : F.acc a r = false := g
    rw [hacc] at g
    cases g
  · exact g
def pBlocked (B : Bs) : Pre := fun vs H S P => ∃ (d1 d2 d3 : Addr) (F : FSt) (h : Str → Option Str) (n : Str → Nat), vs = [.ref d1, .ref d2, .ref d3] ∧ d1 ≠ d2 ∧ d1 ≠ d3 ∧ AskD H d1 (mkA F) ∧ RomD B.K H d2 F.R ∧ H d3 = some (.dK (F.asks.map fun a => (Sum.inr a, osV (h a)))) ∧ F.Ok ∧ F.Nd ∧ F.A.length ≤ 20 ∧ F.R.length ≤ 20 ∧ Val (FM F) h n ∧ Fin (FM F) h n ∧ S = [] ∧ P = fun v _ => v = .bl false
theorem pBlocked_ex {B : Bs} : PreEx B.G (pBlocked B) := fun vs H H' S P k ⟨d1, d2, d3, F, h, n, h1, h2, h3, h4, h5, h6, h7⟩ => ⟨d1, d2, d3, F, h, n, h1, h2, h3, h4.ex k, h5.ex k, k.xat h6, h7⟩
section
variable {B : Bs} (TL : LawC B)
include TL
theorem ok_blocked {f : Addr} {fd : FuncData} {cdv : Value} (Fn : FunC B.K "_law_blocked" "_law_blocked" (top 43) f fd cdv) : FnOk B.P B.w B.K B.mg B.base CX0 1 f fd ["askers", "rooms", "found"] (spM B.G (pBlocked B)) := by
  refine def_ok Fn sc43 (fun vs H SS P ⟨d1, d2, d3, F, h, n, e, _⟩ => by rw [e]; rfl) fun vs H SS P D ht hp hD _ => ?_
  obtain ⟨d1, d2, d3, F, h, n, rfl, n12, n13, hA, hR, h3, ok, nd, hlA, hlR, hv, fi, rfl, rfl⟩ := hp
  have hAl : F.asks.length ≤ 20 := by rw [FSt.len_asks]; exact hlA
  obtain ⟨kA, a1, a2⟩ := id hA
  obtain ⟨kR, r1, r2⟩ := id hR
  have keyA : kA.map (fun kv => kv.1) = F.asks.map Sum.inr := by
    rw [paired_keys (P := fun (p : Str × List Str) (v : V) => ∃ l, v = .ref l ∧ H l = some (.lst (p.2.map V.str))) a2]
    unfold mkA FSt.asks
    rw [List.map_map, List.map_map]
    rfl
  have hin : ∀ {a r : Str}, h a = some r → a ∈ F.asks ∧ r ∈ F.la a ∧ F.acc a r = true := fun {a r} e => by
    obtain ⟨i, _, h2, h3⟩ := hv.held a r e
    exact ⟨la_asks (List.mem_of_getElem? h2), List.mem_of_getElem? h2, h3⟩
  have kl : ∀ od, Kp B.G [d1] H (L2.upd H d1 (.frz od (.dK kA))) := fun od => Kp.put1 a1
  have hRl : ∀ od, RomD B.K (L2.upd H d1 (.frz od (.dK kA))) d2 F.R := fun od => ⟨kR, (kl od).at r1 (by simpa using Ne.symm n12), paired_imp r2 fun p kv ⟨e, t, l, e2, ht, hl⟩ => ⟨e, t, l, e2, kp_t1 (kl od) a1 ht (by simp) (by simp), (kl od).at1 a1 hl (by simp)⟩⟩
  refine s_forKeys (d := d1) (kvs := kA) (fun od i σ1 H1 => ∃ (o3 o4 o5 o6 o7 o8 o9 : Option V), σ1 = [some (.ref d1), some (.ref d2), some (.ref d3), o3, o4, o5, o6, o7, o8, o9, none] ∧ Ex B.G (L2.upd H d1 (.frz od (.dK kA))) H1)
    a1 (fun od => ev 0) (fun od => ⟨none, none, none, none, none, none, none, rfl, Kp.refl⟩) (fun od i σ1 H1 ⟨_, _, _, _, _, _, _, _, k⟩ => k.xat upd_same) (fun od i kv σ1 H1 hkv ⟨o3, o4, o5, o6, o7, o8, o9, e, k1⟩ => ?_) fun od σ1 H1 ⟨o3, o4, o5, o6, o7, o8, o9, e, k1⟩ => ?_
  · subst e
    obtain ⟨one, hai, ek⟩ := keys_at keyA hkv
    have hone : one ∈ F.asks := List.mem_of_getElem? hai
    refine ⟨_, eg_name 3, ?_⟩
    rw [ek]
    obtain ⟨l, ga, hla⟩ := hA.get hone
    have hla1 : H1 l = some (.lst ((F.la one).map V.str)) := k1.xat ((kl od).at1 a1 hla (by simp))
    have ga1 : DGet H1 d1 (.str one) (some (.ref l)) := by
      rcases paired_look (P := fun (p : Str × List Str) (v : V) => ∃ l, v = .ref l ∧ H l = some (.lst (p.2.map V.str))) one a2 with ⟨e, _⟩ | ⟨r, w, e, e2, l', e3, h3'⟩
      · obtain ⟨x, hx⟩ := lookup_of_mem hone
        rw [look_mkA, hx] at e
        cases e
      · have : valV kA (Sum.inr one) = some (.ref l) := by
          rcases ga with ⟨kvs, key, hrd, e4, e5⟩ | ⟨kvs, key, p, hrd, e4, _⟩
          · have hk : key = Sum.inr one := by
              cases key with
              | inl i => cases e4
              | inr s =>
                have e4 : V.str one = V.str s := e4
                rw [V.str.inj e4]
            subst hk
            cases rd_inj hrd (.inl a1)
            exact e5.symm
          · cases e4
        exact .inl ⟨kA, Sum.inr one, .inr ⟨od, k1.xat upd_same⟩, rfl, this.symm⟩
    have h31 : H1 d3 = some (.dK (F.asks.map fun a => (Sum.inr a, osV (h a)))) := k1.xat ((kl od).at h3 (by simpa using Ne.symm n13))
    have gf : ∀ {a : Str}, a ∈ F.asks → valV (F.asks.map fun a => ((Sum.inr a : L2.Key), osV (h a))) (Sum.inr a) = some (osV (h a)) := fun ha => get_asks (g := fun a => osV (h a)) ha
    have ef : DGet H1 d3 (.str one) (some (osV (h one))) := .inl ⟨_, Sum.inr one, .inl h31, rfl, (gf hone).symm⟩
    have hR1 := (hRl od).ex k1
    have hlen := la_len ok one
    refine s_setV (i := 4) (e_dget (ev 0) (ev 3) ga1) ?_
    refine s_set (i := 5) (SS := []) (P := fun v H' => ∃ lb, v = .ref lb ∧ H' lb = some (.lst ((btr F h one).map V.str))) ?_ fun v H2 k2 ⟨lb, e, hlb⟩ => ?_
    · cases hh : h one with
      | none =>
        rw [hh] at ef
        have eb : btr F h one = F.la one := by unfold btr; rw [hh]
        exact e_ifT (T.is (t_k (c_isN (e_dget (ev 2) (ev 3) ef))) rfl) (EK.imp (ev 4) fun v H2 k2 e => ⟨l, e, by rw [eb]; exact k2.xat hla1⟩)
      | some r =>
        rw [hh] at ef
        have eb : btr F h one = (F.la one).take ((F.la one).idxOf r) := by unfold btr; rw [hh]
        exact e_ifF (T.is (t_k (c_isN (e_dget (ev 2) (ev 3) ef))) rfl) (EK.imp (e_slL (ev 4) (.inl (.inl hla1)) o_none (o_some (i := (((F.la one).idxOf r : Nat) : Int)) (e_listIx (ev 4) hla1 (e_dget (ev 2) (ev 3) ef) (hin hh).2.1))) fun v H2 k2 ⟨p, e, _, hp⟩ => ⟨p, e, by rw [hp, cutV_take, eb]⟩)
    subst e
    have hbl : (btr F h one).length ≤ 60 := by
      unfold btr
      split
      · exact hlen
      · exact Nat.le_trans (List.length_take_le' ..) hlen
    have hR2 := hR1.ex k2
    refine s_forLB (e_lc [("room", 6)] (lc_V (as := btr F h one) (ei_list (ev := V.str) (ev 5) (.inl (.inl hlb))) (fun H3 k => .inl (.inl (k.xat hlb))) (fun r => F.acc one r) V.str (by omega) fun r H3 hr k3 => ⟨_, eg_name 6, rfl, ts_one ?_, fun _ => ev 6⟩)) fun v H3 k3 ⟨lc, e, _, hlc⟩ => ⟨lc, (btr F h one).filter fun r => F.acc one r, V.str, fun i σ2 H4 => ∃ (o6 o7 o8 o9 : Option V), σ2 = [some (.ref d1), some (.ref d2), some (.ref d3), some (.str one), some (.ref l), some (.ref lb), o6, o7, o8, o9, none] ∧ Ex B.G H3 H4, e, .inl (.inl hlc), ⟨o6, o7, o8, o9, rfl, Kp.refl⟩, fun i σ2 H4 ⟨_, _, _, _, _, k⟩ => .inl (.inl (k.xat hlc)), fun i r σ2 H4 hri ⟨o6, o7, o8, o9, e, k4⟩ => ?_, fun σ2 H4 ⟨o6, o7, o8, o9, e, k4⟩ => ?_⟩
    · rcases (hR2.ex k3).get r with ⟨e1, e2⟩ | ⟨y, t, lo, e1, e2, e3, e4⟩
      · have : F.acc one r = (false && false) := by unfold FSt.acc; rw [e1]; rfl
        rw [this]
        exact t_and (s := false) (t := false) (t_k (c_din (ev 6) (ev 1) e2)) fun z => nomatch z
      · have : F.acc one r = (true && decide (one ∈ y.o)) := by rw [(seats_of e1).2.2]; simp
        rw [this]
        exact t_and (t_k (c_din (ev 6) (ev 1) e2)) fun _ => t_k (CM.is (c_inSeq (ev 3) (e_ixT (e_dget (ev 1) (ev 6) e2) e_int e3 rfl) (.inl (.inl (.inl e4))) rfl flat_str) inV_str)
    · subst e
      have hrm := List.mem_filter.mp (List.mem_of_getElem? hri)
      have hacc : F.acc one r = true := hrm.2
      obtain ⟨⟨S, nS, lS, hS⟩, hbet⟩ := btr_gone hv fi nd hrm.1 hacc
      have k24 := k3.t k4
      rcases (hR2.ex k24).get r with ⟨e1, e2⟩ | ⟨y, t, lo, hy, e2, e3, e4⟩
      · unfold FSt.acc at hacc
        rw [e1] at hacc
        cases hacc
      obtain ⟨es, elo, eacc⟩ := seats_of hy
      rw [elo] at hbet
      rw [es] at lS
      have hyo : ∀ s, F.acc s r = true → s ∈ y.o := fun s hs => by
        rw [eacc] at hs
        simpa using hs
      refine ⟨_, eg_name 6, ?_⟩
      refine s_asg (e_dget (ev 1) (ev 6) e2) fun v5 H5 k5 e => ?_
      subst e
      refine ⟨_, eg_tup2 8 9 (ex_t k5 e3), ?_⟩
      have h35 : H5 d3 = some (.dK (F.asks.map fun a => (Sum.inr a, osV (h a)))) := k5.xat (k24.xat (k2.xat h31))
      have e45 := k5.xat e4
      have kd : ∀ od2, Kp B.G [d3] H5 (L2.upd H5 d3 (.frz od2 (.dK (F.asks.map fun a => (Sum.inr a, osV (h a)))))) := fun od2 => Kp.put1 h35
      refine s_setLcK (i := 7) [("other", 10)] (fun od2 v H' => ∃ lt, v = .ref lt ∧ lt ≠ d3 ∧ H' lt = some (.lst ((F.asks.filter fun a => decide (h a = some r)).map V.str))) h35 (fun od2 => LC.imp (lc_Vp (as := F.asks) (ev := V.str) ?_ (fun a => decide (h a = some r)) V.str (by omega) fun a H6 ha k6 => ⟨_, eg_name 10, rfl, ts_one (t_k (CM.is (c_eq (osV_scal (h a) r) (e_dget (ev 2) (ev 10) (.inl ⟨_, Sum.inr a, .inr ⟨od2, k6.xat upd_same⟩, rfl, (gf ha).symm⟩)) (ev 6)) (osV_eq _ _))), fun _ => ev 10⟩) fun v H6 k6 ⟨lt, e, n6, h6⟩ => ⟨lt, e, fun z => ?_, h6⟩) fun od2 v H6 k6 ⟨lt, e, hne, h6⟩ => ?_
      · intro H6 k6 R hR'
        refine ei_keys (ev 2) upd_same H6 k6 R fun J H7 Gp Y k7 w hG hY => hR' J H7 Gp Y k7 (by rw [List.length_map] at w; exact w) (fun Ha ka => hG _ Ha (k7.xat (k6.xat upd_same)) ka) fun i Ha x Ha' hi ka hy => ?_
        obtain ⟨q1, kv, q2, q3⟩ := hY i Ha x Ha' (by rw [List.length_map]; exact hi) hy
        rw [List.getElem?_map, List.getElem?_eq_getElem hi] at q2
        refine ⟨q1, _, List.getElem?_eq_getElem hi, ?_⟩
        rw [q3, ← Option.some.inj q2]
        rfl
      · rw [z, upd_same] at n6
        cases n6
      subst e
      have h6' : (L2.upd H6 d3 (.dK (F.asks.map fun a => (Sum.inr a, osV (h a))))) lt = some (.lst ((F.asks.filter fun a => decide (h a = some r)).map V.str)) := by
        rw [upd_ne hne]
        exact h6
      have ku : Ex B.G H5 (L2.upd H6 d3 (.dK (F.asks.map fun a => (Sum.inr a, osV (h a))))) := Ex.unlock k6 h35 rfl
      have e46 := ku.xat e45
      generalize L2.upd H6 d3 (.dK (F.asks.map fun a => (Sum.inr a, osV (h a)))) = H7 at h6' ku e46
      have hlot : y.c ≤ (F.asks.filter fun a => decide (h a = some r)).length := by
        rw [← lS]
        exact nodup_sub_len nS fun s hs => List.mem_filter.mpr ⟨(hin (hS s hs)).1, by simpa using hS s hs⟩
      have hlt : (F.asks.filter fun a => decide (h a = some r)).length ≤ 20 := Nat.le_trans (List.length_filter_le ..) hAl
      refine s_if (b := false) (T.is (t_or (s := false) (t := false) (t_k (CM.is (c_lt (i := (F.asks.filter fun a => decide (h a = some r)).length) (j := y.c) (EK.is (e_lenSeq TL.len (ev 7) (.inl (.inl (.inl h6')))) (by rw [List.length_map])) (ev 9)) (by simpa using hlot))) fun _ => t_k (c_neD (d1 := .list []) (d2 := .list []) (n := 1) (m := 1) (Pb := fun _ _ v H' => ∃ p, v = .ref p ∧ H' p = some (.lst [])) (e_lc [("other", 10)] (lc_V (as := F.asks.filter fun a => decide (h a = some r)) (ei_list (ev := V.str) (ev 7) (.inl (.inl h6'))) (fun H8 k => .inl (.inl (k.xat h6'))) (fun _ => false) V.str (by omega) fun a H8 ha k8 => ⟨_, eg_name 10, rfl, ts_one (t_k ?_), fun z => nomatch z⟩)) (fun x H8 k8 ⟨p, e, _, hp⟩ => EK.imp (e_lst a_nil) fun v H9 k9 ⟨p2, e2, _, hp2⟩ => ⟨p2, e2, hp2⟩) (fun x H8 y' H9 k8 ⟨p, e, _, hp⟩ k9 ⟨p2, e2, hp2⟩ => ⟨by
          rw [e]
          refine .lst (.inl (.inl (k9.xat hp))) ?_
          have : (F.asks.filter fun a => decide (h a = some r)).filter (fun _ => false) = [] := List.filter_eq_nil_iff.mpr (fun _ _ => by simp)
          rw [this]
          exact .nil, by rw [e2]; exact .lst (.inl (.inl hp2)) .nil⟩) (.lst fun d hd => nomatch hd) (.lst fun d hd => nomatch hd) (hs := by simp))) rfl) (fun z => nomatch z) fun _ => s_next (s_lp ⟨_, _, _, _, rfl, k4.t (k5.t ku)⟩)
      have har := List.mem_filter.mp ha
      have hh : h a = some r := by simpa using har.2
      refine CM.is (c_gt (i := (y.o.idxOf a : Nat)) (j := (y.o.idxOf one : Nat)) (e_listIx (ev 8) (k8.xat e46) (ev 10) (hyo a (hin hh).2.2)) (e_listIx (ev 8) (k8.xat e46) (ev 3) (hyo one hacc))) ?_
      have := hbet a hh
      simp
      omega
    · subst e
      exact s_lk ⟨_, _, _, _, _, _, _, rfl, k1.t (k2.t (k3.t k4))⟩
  · subst e
    exact s_ret e_bl fun v H2 k2 e => hD _ _ ((Ex.unlock k1 a1 rfl).t k2) e
end
end Pm
end
/-! ## Kv -/
section
set_option Elab.async false
set_option linter.all false
set_option maxRecDepth 100000
set_option maxHeartbeats 2000000
namespace Pm
open PySem L2
section
variable {C : Ctx} {σ : L2.St} {H : Hp} {e x y : Expr} {pos p1 p2 p3 p4 p5 p6 p7 apos cpos : Pos}
theorem ext_ex {G : Gt} {H H' : Hp} (h : ∀ b o, H b = some o → H' b = some o) : Ex G H H' := by
  refine ⟨fun b o e _ _ => h b o e, fun b hb => ?_, fun t => tok_ext t h⟩
  cases z : H b with
  | none => rfl
  | some o =>
    rw [h b o z] at hb
    cases hb
theorem e_listItems {d : Addr} {kvs : List (L2.Key × V)} (hm : C.mg "list" = none) (he : EV C σ H e (.ref d)) (hd : H d = some (.dK kvs)) (hg : C.sc.names.lookup ("list" : Str) = some .globalImplicit := by rfl) (hbase : ∀ X, Good C X → attributeBase e "items" X.env (eval e X.env) = eval e X.env := by exact fun _ _ => rfl) (hline : (apos.endLine == cpos.line) = true := by rfl)
    (hs : ∀ X, Good C X → starEach [.Call (.Attribute e "items" apos) [] [] cpos] X.env = (false, eval (.Call (.Attribute e "items" apos) [] [] cpos) X.env) :: starEach [] X.env := by exact fun _ _ => rfl) :
    E C σ H (.Call (.Name "list" p1) [.Call (.Attribute e "items" apos) [] [] cpos] [] pos) fun v H' => ∃ (p : Addr) (ts : List Addr), v = .ref p ∧ H p = none ∧ H' p = some (.lst (ts.map V.ref)) ∧ Paired (fun (t : Addr) (q : L2.Key × V) => H' t = some (.tup [kV q.1, q.2])) ts kvs :=
  ek_of (t := LiI.tListItems (wE C e)) (fun X g => LiI.pe_listItems g.calm (pe_w g) (g.gl hg) (by rw [g.mg]; exact hm) (by decide +kernel) (hbase X g) hline (hs X g)) fun H1 k Q q => he H1 k _ fun u H2 k2 p2 => ⟨d, kvs, p2, (k.t k2).xat hd, fun H' p ts h1 h2 h3 h4 h5 h6 => q _ H' (k2.t (ext_ex h1)) ⟨p, ts, rfl, (k.t k2).free h2, h5, h6⟩⟩
/-- dict(list(d.items()) + [(k, v)]) where k is new -/
theorem e_dictAdd {x1 : Nat} {d : Addr} {kvs : List (L2.Key × V)} {key : L2.Key} {W : V ⊕ HO} (hm : C.mg "dict" = none) (hml : C.mg "list" = none) (he : EV C σ H e (.ref d)) (hd : H d = some (.dK kvs)) (hnd : (kvs.map fun kv => kv.1).Nodup) (hkey : valV kvs key = none) (hlen : kvs.length ≤ 10000) (hk : EV C σ H x (kV key)) (hW : ∀ o, W = .inr o → isTbl o = false) (hv : ∀ H1, Ex C.G H H1 → E C σ H1 y fun v H' => ValX H1 W v H')
    (hg : C.sc.names.lookup ("list" : Str) = some .globalImplicit := by rfl) (hg2 : C.sc.names.lookup ("dict" : Str) = some .globalImplicit := by rfl) (hbase : ∀ X, Good C X → attributeBase e "items" X.env (eval e X.env) = eval e X.env := by exact fun _ _ => rfl) (hline : (apos.endLine == cpos.line) = true := by rfl)
    (hs : ∀ X, Good C X → starEach [.Call (.Attribute e "items" apos) [] [] cpos] X.env = (false, eval (.Call (.Attribute e "items" apos) [] [] cpos) X.env) :: starEach [] X.env := by exact fun _ _ => rfl)
    (hs1 : ∀ X, Good C X → starEach [x, y] X.env = (false, eval x X.env) :: starEach [y] X.env := by exact fun _ _ => rfl) (hs2 : ∀ X, Good C X → starEach [y] X.env = (false, eval y X.env) :: starEach [] X.env := by exact fun _ _ => rfl) :
    E C σ H (.Call (.Name "dict" p2) [.BinOp (.Call (.Name "list" p1) [.Call (.Attribute e "items" apos) [] [] cpos] [] p3) .Add (.List [.Tuple [x, y] x1 p4] p5) p6] [] pos) fun u H' => ∃ l v, u = .ref l ∧ H l = none ∧ H' l = some (.dK (kvs ++ [(key, v)])) ∧ ValX H W v H' := by
  have hmg : ∀ v, mergeK [] (kvs ++ [(key, v)]) = kvs ++ [(key, v)] := fun v => by
    rw [mergeK_nodup, List.nil_append]
    rw [List.nil_append, List.map_append, List.nodup_append]
    refine ⟨hnd, by simp, fun a ha b hb => ?_⟩
    have hb : b = key := by simpa using hb
    rw [hb]
    rintro rfl
    obtain ⟨kv, h1, h2⟩ := List.mem_map.mp ha
    have : (kvs.any fun kv => decide (kv.1 = a)) = true := List.any_eq_true.mpr ⟨kv, h1, by simpa using h2⟩
    rw [valV_any, hkey] at this
    cases this
  refine EK.imp (e_dictPX (R := fun kvs' H' => ∃ v, kvs' = kvs ++ [(key, v)] ∧ ValX H W v H') (Pa := fun u H' => ∃ (q : Addr) (ps : List Addr) (v : V), u = .ref q ∧ H' q = some (.lst (ps.map V.ref)) ∧ Paired (fun p kv => SqT C.K H' p [kV kv.1, kv.2]) ps (kvs ++ [(key, v)]) ∧ ValX H W v H') hm (e_opB (r := rCat) (Pb := fun _ u H' => ∃ (l t : Addr) (v : V), u = .ref l ∧ H' l = some (.lst [.ref t]) ∧ H' t = some (.tup [kV key, v]) ∧ ValX H W v H') (fun X g => op_cat) (e_listItems hml he hd hg hbase hline hs) (fun u H1 k1 _ => ?_) fun u w H1 H2 k1 ⟨p, ts, e1, _, h1, h2⟩ k2 ⟨l, t, v, e2, h3, h4, h5⟩ => ?_) (fun u H1 k ⟨q, ps, v, e, h1, h2, h3⟩ => ⟨q, ps, _, e, h1, h2, fun H2 k2 => ⟨v, rfl, h3.ex k2 hW⟩⟩) hg2 (fun _ _ => rfl)) fun u H1 k ⟨l, kvs', e, n, h1, v, e2, h2⟩ => ⟨l, v, e, n, by rw [h1, e2, hmg], h2⟩
  · refine EK.imp (e_lstB (PA := fun vs H' => ∃ (t : Addr) (v : V), vs = [.ref t] ∧ H' t = some (.tup [kV key, v]) ∧ ValX H W v H') (fun H2 k2 Q q => a_1B (e_tupB (PA := fun vs H' => ∃ v, vs = [kV key, v] ∧ ValX H W v H') (a_consV (hk.mono k1) (PA' := fun vs H' => ∃ v, vs = [v] ∧ ValX H W v H') (fun H3 k3 Q q => a_1B (hv H1 k1) hs2 H3 k3 Q fun vs H4 k4 ⟨v, e, h⟩ => q vs H4 k4 ⟨v, e, ?_⟩) (fun vs H3 ⟨v, e, h⟩ => ⟨v, by rw [e], h⟩) hs1) (fun vs H3 ⟨v, e, _⟩ => by rw [e]; exact Nat.le_of_ble_eq_true rfl)) (fun _ _ => rfl) H2 k2 Q fun vs H3 k3 ⟨u, e, t, us, Hx, e2, _, _, ht, ⟨v, e3, h⟩, _, kx⟩ => q vs H3 k3 ⟨t, v, by rw [e, e2], by rw [ht, e3], h.ex kx hW⟩) (fun vs H3 ⟨t, v, e, _⟩ => by rw [e]; exact Nat.le_of_ble_eq_true rfl)) fun u H2 k2 ⟨l, vs, Hx, e, _, _, hl, ⟨t, v, e2, ht, hv⟩, _, kx⟩ => ⟨l, t, v, e, by rw [hl, e2], kx.xat ht, hv.ex kx hW⟩
    revert h
    cases W with
    | inl v0 => exact fun h => h
    | inr o =>
      rintro ⟨q', e', n, h⟩
      exact ⟨q', e', k1.free n, h⟩
  · subst e1 e2
    have hts : ts.length ≤ 10000 := by rw [paired_len h2]; exact hlen
    refine fun H3 k3 Q q => ⟨p, l, _, _, rfl, rfl, (k2.t k3).xat h1, k3.xat h3, by simp; exact sz_of (by omega), fun p' hp' => q _ _ (Ex.new hp') ⟨p', ts ++ [t], v, rfl, by rw [upd_same, List.map_append]; rfl, ?_, (h5.ex k3 hW).ex (Ex.new (G := C.G) hp') hW⟩⟩
    exact paired_append (paired_imp h2 fun t q ht => .inl (.inl ((Ex.new (G := C.G) hp').xat ((k2.t k3).xat ht)))) (.cons (.inl (.inl ((Ex.new (G := C.G) hp').xat (k3.xat h4)))) .nil)
end
end Pm
end
/-! ## V6 -/
section
set_option Elab.async false
set_option linter.all false
set_option maxRecDepth 100000
set_option maxHeartbeats 4000000
namespace Pm
open PySem L2
/-! ### the law's own view of the fair -/
theorem dice_ne {H : Hp} {l D : Addr} {xs : List Str} (h : H l = some (.lst (xs.map V.str))) (hd : DiceAt H D) : l ≠ D := fun z => by
  obtain ⟨a, b, c, h2⟩ := hd
  rw [z, h2] at h
  cases xs with
  | nil => simp at h
  | cons x r => simp at h
/-- what may change is no list of texts, no tuple -/
def OffS (H : Hp) (S : List Addr) : Prop := ∀ s ∈ S, ∃ u, H s = some u ∧ (∀ xs : List Str, u ≠ .lst (xs.map V.str)) ∧ (∀ xs, u ≠ .tup xs) ∧ ∀ o xs, u ≠ .frz o (.tup xs)
theorem AskD.at {G : Gt} {H H' : Hp} {S : List Addr} {d : Addr} {LA : List (Str × List Str)} (h : AskD H d LA) (k : Kp G S H H') (hd : d ∉ S) (hS : OffS H S) : AskD H' d LA := by
  obtain ⟨kvs, h1, h2⟩ := h
  exact ⟨kvs, k.at h1 hd, paired_imp h2 fun p kv ⟨e, l, e2, h⟩ => ⟨e, l, e2, k.at h fun hm => by
    obtain ⟨u, hu, n1, _⟩ := hS l hm
    rw [h] at hu
    exact n1 _ (Option.some.inj hu).symm⟩⟩
theorem sqt_off {G : Gt} {K : PySem.W.Frag} {H H' : Hp} {S : List Addr} {t : Addr} {xs : List V} (h : SqT K H t xs) (k : Kp G S H H') (hS : OffS H S) : SqT K H' t xs := by
  rcases h with (z | ⟨o, z⟩) | z
  · refine .inl (.inl (k.at z fun hm => ?_))
    obtain ⟨u, hu, _, n2, _⟩ := hS t hm
    rw [z] at hu
    exact n2 _ (Option.some.inj hu).symm
  · refine .inl (.inr ⟨o, k.at z fun hm => ?_⟩)
    obtain ⟨u, hu, _, _, n3⟩ := hS t hm
    rw [z] at hu
    exact n3 _ _ (Option.some.inj hu).symm
  · exact .inr z
theorem RomD.at {G : Gt} {K : PySem.W.Frag} {H H' : Hp} {S : List Addr} {d : Addr} {LR : List (Str × RRow)} (h : RomD K H d LR) (k : Kp G S H H') (hd : d ∉ S) (hS : OffS H S) : RomD K H' d LR := by
  obtain ⟨kvs, h1, h2⟩ := h
  exact ⟨kvs, k.at h1 hd, paired_imp h2 fun p kv ⟨e, t, l, e2, ht, h⟩ => ⟨e, t, l, e2, sqt_off ht k hS, k.at h fun hm => by
    obtain ⟨u, hu, n1, _⟩ := hS l hm
    rw [h] at hu
    exact n1 _ (Option.some.inj hu).symm⟩⟩
theorem dice_off {H : Hp} {D : Addr} (h : DiceAt H D) : OffS H [D] := fun s hs => by
  obtain ⟨a, b, c, h⟩ := h
  rw [List.mem_singleton.mp hs]
  refine ⟨_, h, fun xs z => ?_, by simp, by simp⟩
  cases xs with
  | nil => simp at z
  | cons x r => simp at z
theorem FairU.off {B : Bs} {Cf f d1 d2 d3 d4 d5 : Addr} {H : Hp} {F : FSt} (h : FairU B Cf H f d1 d2 d3 d4 d5 F) : OffS H [f, d1, d2, d3, d4, d5] := by
  obtain ⟨dx, n, o1⟩ := h.fa.ob
  obtain ⟨k1, h1⟩ := h.u1
  obtain ⟨k2, h2⟩ := h.u2
  intro s hs
  simp only [List.mem_cons, List.not_mem_nil, or_false] at hs
  rcases hs with rfl | rfl | rfl | rfl | rfl | rfl
  · exact ⟨_, o1, by simp, by simp, by simp⟩
  · exact ⟨_, h1, by simp, by simp, by simp⟩
  · exact ⟨_, h2, by simp, by simp, by simp⟩
  · exact ⟨_, h.fa.s, by simp, by simp, by simp⟩
  · exact ⟨_, h.fa.h, by simp, by simp, by simp⟩
  · exact ⟨_, h.fa.n, by simp, by simp, by simp⟩
theorem FairU.some {B : Bs} {Cf f d1 d2 d3 d4 d5 : Addr} {H : Hp} {F : FSt} (h : FairU B Cf H f d1 d2 d3 d4 d5 F) {x : Addr} (hx : H x = none) : x ∉ [f, d1, d2, d3, d4, d5] := fun hm => by
  obtain ⟨u, hu, _⟩ := h.off x hm
  rw [hx] at hu
  cases hu
theorem FairU.dice {B : Bs} {Cf f d1 d2 d3 d4 d5 : Addr} {H : Hp} {F : FSt} {D : Addr} (h : FairU B Cf H f d1 d2 d3 d4 d5 F) (hd : DiceAt H D) : D ∉ [f, d1, d2, d3, d4, d5] := by
  obtain ⟨dx, n, o1⟩ := h.fa.ob
  obtain ⟨k1, h1⟩ := h.u1
  obtain ⟨k2, h2⟩ := h.u2
  obtain ⟨a, b, c, hd⟩ := hd
  have h3 := h.fa.s
  have h4 := h.fa.h
  have h5 := h.fa.n
  intro hs
  simp only [List.mem_cons, List.not_mem_nil, or_false] at hs
  rcases hs with rfl | rfl | rfl | rfl | rfl | rfl
  · rw [hd] at o1; cases o1
  · rw [hd] at h1; cases h1
  · rw [hd] at h2; cases h2
  · rw [hd] at h3; cases h3
  · rw [hd] at h4; cases h4
  · rw [hd] at h5; cases h5
structure LawS (B : Bs) (Cf : Addr) (H : Hp) (f d1 d2 d3 d4 d5 : Addr) (F : FSt) (a r : Addr) : Prop where
  fu : FairU B Cf H f d1 d2 d3 d4 d5 F
  gs : GS F
  ad : AskD H a (mkA F)
  rd : RomD B.K H r F.R
  na : a ∉ [f, d1, d2, d3, d4, d5]
  nr : r ∉ [f, d1, d2, d3, d4, d5]
  ne : a ≠ r
  mA : ∀ x ∈ F.asks, x ∈ lawAskers
  mR : ∀ x ∈ F.rooms, x ∈ lawRooms
theorem LawS.ex {B : Bs} {Cf f d1 d2 d3 d4 d5 a r : Addr} {H H' : Hp} {F : FSt} (h : LawS B Cf H f d1 d2 d3 d4 d5 F a r) (k : Ex B.G H H') : LawS B Cf H' f d1 d2 d3 d4 d5 F a r := ⟨h.fu.ex k, h.gs, h.ad.ex k, h.rd.ex k, h.na, h.nr, h.ne, h.mA, h.mR⟩
theorem LawS.lA {B : Bs} {Cf f d1 d2 d3 d4 d5 a r : Addr} {H : Hp} {F : FSt} (h : LawS B Cf H f d1 d2 d3 d4 d5 F a r) : F.A.length ≤ 12 := by
  have := nodup_sub_len h.gs.ok.kA (T := lawAskers) h.mA
  rw [List.length_map] at this
  exact this
theorem LawS.lR {B : Bs} {Cf f d1 d2 d3 d4 d5 a r : Addr} {H : Hp} {F : FSt} (h : LawS B Cf H f d1 d2 d3 d4 d5 F a r) : F.R.length ≤ 8 := by
  have := nodup_sub_len h.gs.ok.kR (T := lawRooms) h.mR
  rw [List.length_map] at this
  exact this
theorem LawS.dk {B : Bs} {Cf f d1 d2 d3 d4 d5 a r : Addr} {H : Hp} {F : FSt} (h : LawS B Cf H f d1 d2 d3 d4 d5 F a r) {D : Addr} (hd : DiceAt H D) : a ≠ D ∧ r ≠ D := by
  obtain ⟨x, y, z, hd⟩ := hd
  obtain ⟨k1, h1, _⟩ := h.ad
  obtain ⟨k2, h2, _⟩ := h.rd
  exact ⟨ne_kind h1 hd (by simp), ne_kind h2 hd (by simp)⟩
theorem LawS.at {B : Bs} {Cf f d1 d2 d3 d4 d5 a r : Addr} {H H' : Hp} {F : FSt} {D : Addr} (h : LawS B Cf H f d1 d2 d3 d4 d5 F a r) (hd : DiceAt H D) (k : Kp B.G [D] H H') : LawS B Cf H' f d1 d2 d3 d4 d5 F a r := by
  obtain ⟨n1, n2⟩ := h.dk hd
  have ho := dice_off hd
  obtain ⟨x, y, z, hd⟩ := hd
  exact ⟨h.fu.off1 k hd, h.gs, h.ad.at k (by simpa using n1) ho, h.rd.at k (by simpa using n2) ho, h.na, h.nr, h.ne, h.mA, h.mR⟩
section
variable {C : Ctx} {σ : L2.St} {H : Hp} {Cf f d1 d2 d3 d4 d5 a r : Addr} {F : FSt} {LA : List (Str × List Str)} {LR : List (Str × RRow)} {D : Ends} {e1 e2 e3 e4 : Expr} {x1 : Nat} {pos p2 : Pos} {rest : List Stmt} {due : Str} {Out : FSt → V → Hp → Prop}
/-- what a deed returns -/
theorem s_deed (hs : LawS C.toBs Cf H f d1 d2 d3 d4 d5 F a r) (hOut : ∀ F' v H1 H2, Ex C.G H1 H2 → Out F' v H1 → Out F' v H2)
    (h1 : EK C [f, d1, d2, d3, d4, d5] σ H e1 (fun v H' => ∃ F', FairU C.toBs Cf H' f d1 d2 d3 d4 d5 F' ∧ GS F' ∧ mkA F' = LA ∧ F'.R = LR ∧ Out F' v H'))
    (h2 : ∀ H1, AskD H1 a (mkA F) → RomD C.K H1 r F.R → EV C σ H1 e2 (.str due))
    (h3 : ∀ H1, AskD H1 a (mkA F) → Kp C.G [f, d1, d2, d3, d4, d5] H H1 → E C σ H1 e3 fun v H' => ∃ a', v = .ref a' ∧ AskD H' a' LA ∧ (a' = a ∨ H1 a' = none))
    (h4 : ∀ H1, RomD C.K H1 r F.R → Kp C.G [f, d1, d2, d3, d4, d5] H H1 → E C σ H1 e4 fun v H' => ∃ r', v = .ref r' ∧ RomD C.K H' r' LR ∧ (r' = r ∨ H1 r' = none))
    (mA : ∀ p ∈ LA, p.1 ∈ lawAskers) (mR : ∀ p ∈ LR, p.1 ∈ lawRooms)
    (hr : ∀ v H', Kp C.G [f, d1, d2, d3, d4, d5] H H' → (∃ t told a' r' F', v = .ref t ∧ SqT C.K H' t [told, .str due, .ref a', .ref r'] ∧ LawS C.toBs Cf H' f d1 d2 d3 d4 d5 F' a' r' ∧ Out F' told H') → D.rt v H')
    (s1 : ∀ X, Good C X → starEach [e1, e2, e3, e4] X.env = (false, eval e1 X.env) :: starEach [e2, e3, e4] X.env := by exact fun _ _ => rfl) (s2 : ∀ X, Good C X → starEach [e2, e3, e4] X.env = (false, eval e2 X.env) :: starEach [e3, e4] X.env := by exact fun _ _ => rfl)
    (s3 : ∀ X, Good C X → starEach [e3, e4] X.env = (false, eval e3 X.env) :: starEach [e4] X.env := by exact fun _ _ => rfl) (s4 : ∀ X, Good C X → starEach [e4] X.env = (false, eval e4 X.env) :: starEach [] X.env := by exact fun _ _ => rfl) :
    S C D σ H (.Return (some (.Tuple [e1, e2, e3, e4] x1 pos)) p2 :: rest) := by
  refine s_ret (e_tupK (PA := fun vs H' => ∃ told a' r' F', vs = [told, .str due, .ref a', .ref r'] ∧ LawS C.toBs Cf H' f d1 d2 d3 d4 d5 F' a' r' ∧ Out F' told H') (ak_cons h1 (fun told H1 k1 ⟨F', hF, gs, eA, eR, ho⟩ => ?_) s1) (fun vs H1 ⟨_, _, _, _, e, _⟩ => by rw [e]; exact Nat.le_of_ble_eq_true rfl)) fun v H2 k2 ⟨t, vs, Hx, e, _, _, ht, ⟨told, a', r', F', e2, hl, ho⟩, _, kx⟩ => hr v H2 k2 ⟨t, told, a', r', F', e, .inl (.inl (by rw [ht, e2])), hl.ex kx, hOut _ _ _ _ kx ho⟩
  have hA1 := hs.ad.at k1 hs.na hs.fu.off
  have hR1 := hs.rd.at k1 hs.nr hs.fu.off
  refine ak_of (a_consV (h2 H1 hA1 hR1) (PA' := fun vs H' => ∃ a' r', vs = [.ref a', .ref r'] ∧ LawS C.toBs Cf H' f d1 d2 d3 d4 d5 F' a' r' ∧ Out F' told H') ?_ (fun vs H2 ⟨a', r', e, h⟩ => ⟨told, a', r', F', by rw [e], h⟩) s2)
  refine a_consB (h3 H1 hA1 k1) (fun x H2 k2 ⟨a', e, hA', ha'⟩ => ?_) s3
  subst e
  refine fun H3 k3 Q q => a_1B (h4 H2 (hR1.ex k2) (k1.then k2)) s4 H3 k3 Q fun vs H4 k4 ⟨y, e, r', e2, hR', hr'⟩ => q vs H4 k4 ⟨a', r', by rw [e, e2], ⟨hF.ex (k2.t (k3.t k4)), gs, by rw [eA]; exact hA'.ex (k3.t k4), by rw [eR]; exact hR', ?_, ?_, ?_, fun x hx => ?_, fun x hx => ?_⟩, hOut _ _ _ _ (k2.t (k3.t k4)) ho⟩
  · rcases ha' with rfl | n
    · exact hs.na
    · exact hF.some n
  · rcases hr' with rfl | n
    · exact hs.nr
    · exact (hF.ex k2).some n
  · rintro rfl
    obtain ⟨kva, g1, _⟩ := hA'
    obtain ⟨kvr, g2, _⟩ := hR1.ex k2
    rcases hr' with e | n
    · rcases ha' with e' | n'
      · exact hs.ne (e'.symm.trans e)
      · obtain ⟨kvr', g2', _⟩ := hR1
        rw [e] at n'
        rw [g2'] at n'
        cases n'
    · rw [g1] at n
      cases n
  · obtain ⟨p, hp, rfl⟩ := List.mem_map.mp hx
    have : (p.1, p.2.l) ∈ LA := by
      rw [← eA]
      exact List.mem_map.mpr ⟨p, hp, rfl⟩
    exact mA _ this
  · obtain ⟨p, hp, rfl⟩ := List.mem_map.mp hx
    exact mR p (by rw [← eR]; exact hp)
end
end Pm
end
/-! ## V7 -/
section
set_option Elab.async false
set_option linter.all false
set_option maxRecDepth 100000
set_option maxHeartbeats 8000000
namespace Pm
open PySem L2
/-! ### _law_deed -/
theorem paired_filter {α β : Type} {R : α → β → Prop} {q : α → Bool} {p : β → Bool} : ∀ {as : List α} {bs : List β}, Paired R as bs → (∀ a b, R a b → q a = p b) → Paired R (as.filter q) (bs.filter p)
  | _, _, .nil, _ => .nil
  | a :: as, b :: bs, .cons h t, e => by
    rw [List.filter_cons, List.filter_cons, e a b h]
    split
    · exact .cons h (paired_filter t e)
    · exact paired_filter t e
theorem paired_map2 {α β α' β' : Type} {R : α → β → Prop} {R' : α' → β' → Prop} {f : α → α'} {g : β → β'} : ∀ {as : List α} {bs : List β}, Paired R as bs → (∀ a b, R a b → R' (f a) (g b)) → Paired R' (as.map f) (bs.map g)
  | _, _, .nil, _ => .nil
  | _, _, .cons h t, e => .cons (e _ _ h) (paired_map2 t e)
theorem valV_mem {kvs : List (L2.Key × V)} (nd : (kvs.map fun kv => kv.1).Nodup) {kv : L2.Key × V} (h : kv ∈ kvs) : valV kvs kv.1 = some kv.2 := by
  induction kvs with
  | nil => cases h
  | cons p r ih =>
    rw [List.map_cons] at nd
    obtain ⟨h1, h2⟩ := List.nodup_cons.mp nd
    rcases List.mem_cons.mp h with e | e
    · rw [e]
      exact valV_pos rfl
    · rw [valV_neg (fun z => h1 (z ▸ List.mem_map.mpr ⟨kv, e, rfl⟩))]
      exact ih h2 e
theorem mergeK_self {kvs : List (L2.Key × V)} (nd : (kvs.map fun kv => kv.1).Nodup) : mergeK [] kvs = kvs := by
  rw [mergeK_nodup, List.nil_append]
  rw [List.nil_append]
  exact nd
theorem lst_off {G : Gt} {H H' : Hp} {S : List Addr} {l : Addr} {xs : List Str} (h : H l = some (.lst (xs.map V.str))) (k : Kp G S H H') (hS : OffS H S) : H' l = some (.lst (xs.map V.str)) := k.at h fun hm => by
  obtain ⟨u, hu, n1, _⟩ := hS l hm
  rw [h] at hu
  exact n1 _ (Option.some.inj hu).symm
theorem AskD.kvs {H : Hp} {a : Addr} {F : FSt} (h : AskD H a (mkA F)) (ok : F.Ok) : ∃ kvs, H a = some (.dK kvs) ∧ Paired (fun (p : Str × List Str) (kv : L2.Key × V) => kv.1 = Sum.inr p.1 ∧ ∃ l, kv.2 = .ref l ∧ H l = some (.lst (p.2.map V.str))) (mkA F) kvs ∧ kvs.map (fun kv => kv.1) = F.asks.map Sum.inr ∧ (kvs.map fun kv => kv.1).Nodup ∧ kvs.length = F.A.length ∧ ∀ x, (valV kvs (Sum.inr x)).isSome = decide (x ∈ F.asks) := by
  obtain ⟨kvs, h1, h2⟩ := h
  have e : kvs.map (fun kv => kv.1) = F.asks.map Sum.inr := by
    rw [paired_keys (P := fun (p : Str × List Str) (v : V) => ∃ l, v = .ref l ∧ H l = some (.lst (p.2.map V.str))) h2]
    unfold mkA FSt.asks
    rw [List.map_map, List.map_map]
    rfl
  refine ⟨kvs, h1, h2, e, ?_, ?_, fun x => ?_⟩
  · rw [e]
    exact List.Pairwise.map _ (fun a b hab z => hab (Sum.inr.inj z)) ok.kA
  · rw [← paired_len h2]
    unfold mkA
    rw [List.length_map]
  · rw [← valV_any, Bool.eq_iff_iff, List.any_eq_true, decide_eq_true_iff]
    have : (∃ kv ∈ kvs, decide (kv.1 = Sum.inr x) = true) ↔ (Sum.inr x : L2.Key) ∈ kvs.map fun kv => kv.1 := by
      rw [List.mem_map]
      simp
    rw [this, e, List.mem_map]
    constructor
    · rintro ⟨y, hy, z⟩
      cases z
      exact hy
    · exact fun hx => ⟨x, hx, rfl⟩
theorem RomD.kvs {K : PySem.W.Frag} {H : Hp} {a : Addr} {F : FSt} (h : RomD K H a F.R) (ok : F.Ok) : ∃ kvs, H a = some (.dK kvs) ∧ Paired (fun (p : Str × RRow) (kv : L2.Key × V) => kv.1 = Sum.inr p.1 ∧ ∃ t l, kv.2 = .ref t ∧ SqT K H t [.ref l, nI p.2.c] ∧ H l = some (.lst (p.2.o.map V.str))) F.R kvs ∧ kvs.map (fun kv => kv.1) = F.rooms.map Sum.inr ∧ (kvs.map fun kv => kv.1).Nodup ∧ kvs.length = F.R.length ∧ ∀ x, (valV kvs (Sum.inr x)).isSome = decide (x ∈ F.rooms) := by
  obtain ⟨kvs, h1, h2⟩ := h
  have e : kvs.map (fun kv => kv.1) = F.rooms.map Sum.inr := by
    rw [paired_keys (P := fun (p : Str × RRow) (v : V) => ∃ t l, v = .ref t ∧ SqT K H t [.ref l, nI p.2.c] ∧ H l = some (.lst (p.2.o.map V.str))) h2]
    unfold FSt.rooms
    rw [List.map_map]
    rfl
  refine ⟨kvs, h1, h2, e, ?_, (paired_len h2).symm, fun x => ?_⟩
  · rw [e]
    exact List.Pairwise.map _ (fun a b hab z => hab (Sum.inr.inj z)) ok.kR
  · rw [← valV_any, Bool.eq_iff_iff, List.any_eq_true, decide_eq_true_iff]
    have : (∃ kv ∈ kvs, decide (kv.1 = Sum.inr x) = true) ↔ (Sum.inr x : L2.Key) ∈ kvs.map fun kv => kv.1 := by
      rw [List.mem_map]
      simp
    rw [this, e, List.mem_map]
    constructor
    · rintro ⟨y, hy, z⟩
      cases z
      exact hy
    · exact fun hx => ⟨x, hx, rfl⟩
theorem kv_inr {ks : List Str} {kvs : List (L2.Key × V)} (h : kvs.map (fun kv => kv.1) = ks.map Sum.inr) {kv : L2.Key × V} (hk : kv ∈ kvs) : ∃ x, kv.1 = Sum.inr x := by
  have : kv.1 ∈ kvs.map fun kv => kv.1 := List.mem_map.mpr ⟨kv, hk, rfl⟩
  rw [h] at this
  obtain ⟨x, _, e⟩ := List.mem_map.mp this
  exact ⟨x, e.symm⟩
theorem key_dec {k : L2.Key} {one : Str} (h : ∃ x, k = Sum.inr x) : scal (kV k) (.str one) = true ∧ decide (kV k = V.str one) = decide (k = Sum.inr one) := by
  obtain ⟨x, rfl⟩ := h
  refine ⟨rfl, ?_⟩
  by_cases e : x = one
  · subst e
    simp [kV]
  · have h1 : ¬ kV (Sum.inr x : L2.Key) = V.str one := fun z => e (V.str.inj z)
    have h2 : ¬ (Sum.inr x : L2.Key) = Sum.inr one := fun z => e (Sum.inr.inj z)
    rw [decide_eq_false h1, decide_eq_false h2]
theorem mrg_filter {kvs : List (L2.Key × V)} {p : L2.Key × V → Bool} (nd : (kvs.map fun kv => kv.1).Nodup) : mergeK [] ((kvs.filter p).map fun kv => (kv.1, kv.2)) = kvs.filter p := by
  have e : ((kvs.filter p).map fun kv => (kv.1, kv.2)) = kvs.filter p := by
    conv => rhs; rw [← List.map_id (kvs.filter p)]
    rfl
  rw [e]
  exact mergeK_self (nd.sublist (List.Sublist.map _ List.filter_sublist))
theorem mrg_map {kvs : List (L2.Key × V)} {g : L2.Key × V → V} (nd : (kvs.map fun kv => kv.1).Nodup) : mergeK [] ((kvs.filter fun _ => true).map fun kv => (kv.1, g kv)) = kvs.map fun kv => (kv.1, g kv) := by
  rw [List.filter_eq_self.mpr (fun _ _ => rfl)]
  refine mergeK_self ?_
  rw [List.map_map]
  exact nd
structure ToldF (B : Bs) (Cd Cp Cn Cf : Addr) : Prop where
  t1 : Tells B.K (TlC.l Cd Cp Cn Cf) (.ref Cd) "deed"
  t2 : Tells B.K (TlC.l Cd Cp Cn Cf) (.ref Cp) "paper"
  t3 : Tells B.K (TlC.l Cd Cp Cn Cf) (.ref Cn) "no such"
  t4 : Tells B.K (TlC.l Cd Cp Cn Cf) (.ref Cf) "fault"
theorem ToldAt.ex {B : Bs} {H H' : Hp} {v : V} {bs : List (Str × Option Str)} {F : FSt} (h : ToldAt B H v bs F) (k : Ex B.G H H') : ToldAt B H' v bs F := TupsAt.ex h k
def pDeed (B : Bs) (Cf : Addr) : Pre := fun vs H S P => ∃ (D f d1 d2 d3 d4 d5 : Addr) (F : FSt) (a r : Addr), vs = [.ref D, .ref f, .ref a, .ref r] ∧ DiceAt H D ∧ LawS B Cf H f d1 d2 d3 d4 d5 F a r ∧ S = [D, f, d1, d2, d3, d4, d5] ∧ P = fun v H' => ∃ (t : Addr) (told : V) (due : Str) (a' r' : Addr) (F' : FSt), v = .ref t ∧ SqT B.K H' t [told, .str due, .ref a', .ref r'] ∧ DiceAt H' D ∧ LawS B Cf H' f d1 d2 d3 d4 d5 F' a' r' ∧ ((due ≠ "" ∧ sOk due ∧ F' = F ∧ told = .str due) ∨ (due = "" ∧ ToldAt B H' told F.heldL F'))
theorem pDeed_ex {B : Bs} {Cf : Addr} : PreEx B.G (pDeed B Cf) := fun vs H H' S P k ⟨D, f, d1, d2, d3, d4, d5, F, a, r, h1, h2, h3, h4⟩ => ⟨D, f, d1, d2, d3, d4, d5, F, a, r, h1, h2.ex k, h3.ex k, h4⟩
section
variable {B : Bs} {Cf : Addr} (TL : LawC B)
include TL
theorem ok_deed {Cd Cp Cn Cm ff : Addr} {fd : FuncData} {P c : Addr} (Fn : FunC B.K "_law_deed" "_law_deed" (top 44) ff fd (.ref c)) (TB : LamX.TabB B.base B.mg c P) (hmT : (P, ("_law_deed.<locals>.<lambda>" : Str)) ∈ B.G) (hu : ∀ p ∈ B.G, p.1 = P → p.2 = ("_law_deed.<locals>.<lambda>" : Str))
    (TT : TlC B Cd Cp Cn Cm) (TF : ToldF B Cd Cp Cn Cm) (GR : GF B 1 "_law_roll" pRoll) (GA : GF B 1 "_law_askers" pAskers) (GO : GF B 1 "_law_rooms" pRooms) (GL : GF B 2 "_law_list" pList)
    (MC : GMX B 4 Cf "come" (pCome B Cf Cd)) (ML : GMX B 5 Cf "leave" (pLeave B Cf Cn)) (MW : GMX B 5 Cf "wish" (pWish B Cf Cn)) (MO : GMX B 5 Cf "open_room" (pOpen B Cf Cd)) (MH : GMX B 5 Cf "change_room" (pChange B Cf Cn)) (MS : GMX B 5 Cf "shut_room" (pShut B Cf Cn)) :
    FnOk B.P B.w B.K B.mg B.base CX0 8 ff fd ["dice", "fair", "askers", "rooms"] (spM B.G (pDeed B Cf)) := by
  refine def_ok Fn sc44 (fun vs H SS P ⟨D, f, d1, d2, d3, d4, d5, F, a, r, e, _⟩ => by rw [e]; rfl) fun vs H SS P D ht hp hD _ => ?_
  obtain ⟨Dd, f, d1, d2, d3, d4, d5, F, a, r, rfl, hd, hL, rfl, rfl⟩ := hp
  refine s_asg (SS := [Dd]) (e_tupK (PA := fun vs H' => ∃ (s : Nat) (one room : Str), vs = [nI s, .str one, .str room] ∧ one ∈ lawAskers ∧ room ∈ lawRooms ∧ DiceAt H' Dd) (ak_cons (e_roll (m := 9) GR (by show 1 ≤ 7; decide) ht hd (by decide) (by decide) (ev 0) e_int) fun x H1 k1 ⟨s, _, e, hd1⟩ => ?_) (fun vs H1 ⟨_, _, _, e, _⟩ => by rw [e]; exact Nat.le_of_ble_eq_true rfl)) (hw := fun X g => swapN3 g .local .cell rfl rfl rfl) fun v H1 k1 ⟨tp, vs, Hx, ep, _, _, hp2, ⟨s, one, room, e, hone, hroom, hdx⟩, kx1, kx2⟩ => ?_
  · have ht1 := k1.tok ht
    refine AK.imp (PA := fun vs H' => ∃ (one room : Str), vs = [.str one, .str room] ∧ one ∈ lawAskers ∧ room ∈ lawRooms ∧ DiceAt H' Dd) (ak_cons (Pa := fun v H' => ∃ one : Str, v = .str one ∧ one ∈ lawAskers ∧ DiceAt H' Dd) (e_ixK (Pa := fun v H' => ∃ l, v = .ref l ∧ H' l = some (.lst (lawAskers.map V.str)) ∧ DiceAt H' Dd) (Pb := fun _ _ y H' => ∃ k : Nat, k < 12 ∧ y = nI k ∧ DiceAt H' Dd) (EK.big (EK.imp (e_call0 GA (by show 1 ≤ 7; decide) ht1 ⟨rfl, rfl, rfl⟩) fun v H2 k2 ⟨l, e, h⟩ => ⟨l, e, h, hd1.ex k2⟩)) (fun x H2 k2 ⟨l, e, h, hd2⟩ => e_roll (m := 12) GR (by show 1 ≤ 7; decide) (k2.tok ht1) hd2 (by decide) (by decide) (ev 0) e_int) fun x y H2 H3 k2 ⟨l, e, h, hd2⟩ k3 ⟨i, hi, e2, hd3⟩ => ?_) fun y H2 k2 ⟨one, e1, h1, hd2⟩ => ?_) fun vs H2 k2 ⟨one, room, e1, h1, h2, h3⟩ => ⟨s, one, room, by rw [e, e1], h1, h2, h3⟩
    · have h3 := k3.at h (by simpa using dice_ne h hd2)
      have hi' : i < lawAskers.length := hi
      exact ⟨l, _, (i : Int), .str lawAskers[i], e, e2, .inl (.inl h3), atI_nat (by rw [List.getElem?_map, List.getElem?_eq_getElem hi']; rfl), _, rfl, List.getElem_mem hi', hd3⟩
    · have ht2 := k2.tok ht1
      refine AK.imp (ak_1 (e_ixK (P := fun v H' => ∃ room : Str, v = .str room ∧ room ∈ lawRooms ∧ DiceAt H' Dd) (Pa := fun v H' => ∃ l, v = .ref l ∧ H' l = some (.lst (lawRooms.map V.str)) ∧ DiceAt H' Dd) (Pb := fun _ _ y H' => ∃ k : Nat, k < 8 ∧ y = nI k ∧ DiceAt H' Dd) (EK.big (EK.imp (e_call0 GO (by show 1 ≤ 7; decide) ht2 ⟨rfl, rfl, rfl⟩) fun v H3 k3 ⟨l, e, h⟩ => ⟨l, e, h, hd2.ex k3⟩)) (fun x H3 k3 ⟨l, e, h, hd3⟩ => e_roll (m := 8) GR (by show 1 ≤ 7; decide) (k3.tok ht2) hd3 (by decide) (by decide) (ev 0) e_int) fun x y H3 H4 k3 ⟨l, e, h, hd3⟩ k4 ⟨i, hi, e2, hd4⟩ => ?_)) fun vs H3 k3 ⟨z, e3, room, e4, h2, h3⟩ => ⟨one, room, by rw [e1, e3, e4], h1, h2, h3⟩
      have h4 := k4.at h (by simpa using dice_ne h hd3)
      have hi' : i < lawRooms.length := hi
      exact ⟨l, _, (i : Int), .str lawRooms[i], e, e2, .inl (.inl h4), atI_nat (by rw [List.getElem?_map, List.getElem?_eq_getElem hi']; rfl), _, rfl, List.getElem_mem hi', hd4⟩
  subst e ep
  refine ⟨_, eg_tup3 5 6 7 (.inl (.inl hp2)), ?_⟩
  have hd1 := hdx.ex kx2
  have ht1 := k1.tok ht
  have hL1 := hL.at hd k1
  refine s_asg (SS := [Dd]) (e_tupK (PA := fun vs H' => ∃ (wl ol : Addr) (ws os : List Str), vs = [.ref wl, .ref ol] ∧ H' wl = some (.lst (ws.map V.str)) ∧ H' ol = some (.lst (os.map V.str)) ∧ ws.Nodup ∧ os.Nodup ∧ (∀ x ∈ ws, x ∈ lawRooms) ∧ (∀ x ∈ os, x ∈ lawAskers) ∧ DiceAt H' Dd) (ak_cons (Pa := fun v H' => ∃ (l : Addr) (xs : List Str), v = .ref l ∧ H' l = some (.lst (xs.map V.str)) ∧ xs.Nodup ∧ (∀ x ∈ xs, x ∈ lawRooms) ∧ DiceAt H' Dd) (e_callW (PA := fun vs H' => ∃ q, vs = [.ref Dd, .ref q] ∧ H' q = some (.lst (lawRooms.map V.str))) GL (by show 2 ≤ 7; decide) ht1 (a_consV (ev 0) (PA' := fun vs H' => ∃ q, vs = [.ref q] ∧ H' q = some (.lst (lawRooms.map V.str))) (fun H2 k2 Q q => a_1B (e_call0 (SS := []) (P := fun v H' => ∃ l, v = .ref l ∧ H' l = some (.lst (lawRooms.map V.str))) GO (by show 1 ≤ 7; decide) ht1 ⟨rfl, rfl, rfl⟩) (fun _ _ => rfl) H2 k2 Q fun vs H3 k3 ⟨x, e, l, e2, h⟩ => q vs H3 k3 ⟨l, by rw [e, e2], h⟩) fun vs H2 ⟨q, e, h⟩ => ⟨q, by rw [e], h⟩) fun vs H2 k2 ⟨q, e, h⟩ => ⟨[Dd], _, ⟨Dd, q, lawRooms, e, hd1.ex k2, h, by decide, by decide, rooms_nd, rfl, fun v H' l xs e n h nd hs hd => ⟨l, xs, e, h, nd, hs, hd⟩⟩, fun _ z => z, fun v H' _ z => z⟩) fun x H2 k2 ⟨wl, ws, e, hwl, nws, hws, hd2⟩ => ?_) (fun vs H1 ⟨_, _, _, _, e, _⟩ => by rw [e]; exact Nat.le_of_ble_eq_true rfl)) (hw := fun X g => swapN2 g .cell rfl rfl) fun v H2 k2 ⟨tp, vs, Hx, ep, _, _, hp2, ⟨wl, ol, ws, os, e, hwl, hol, nws, nos, hws, hos, hdx⟩, kx1, kx2⟩ => ?_
  · have ht2 := k2.tok ht1
    refine AK.imp (ak_1 (e_callW (PA := fun vs H' => ∃ q, vs = [.ref Dd, .ref q] ∧ H' q = some (.lst (lawAskers.map V.str)) ∧ H' wl = some (.lst (ws.map V.str))) (P := fun v H' => ∃ (l : Addr) (xs : List Str), v = .ref l ∧ H' l = some (.lst (xs.map V.str)) ∧ xs.Nodup ∧ (∀ x ∈ xs, x ∈ lawAskers) ∧ DiceAt H' Dd ∧ H' wl = some (.lst (ws.map V.str))) GL (by show 2 ≤ 7; decide) ht2 (a_consV (ev 0) (PA' := fun vs H' => ∃ q, vs = [.ref q] ∧ H' q = some (.lst (lawAskers.map V.str)) ∧ H' wl = some (.lst (ws.map V.str))) (fun H3 k3 Q q => a_1B (e_call0 (SS := []) (P := fun v H' => ∃ l, v = .ref l ∧ H' l = some (.lst (lawAskers.map V.str))) GA (by show 1 ≤ 7; decide) ht2 ⟨rfl, rfl, rfl⟩) (fun _ _ => rfl) H3 k3 Q fun vs H4 k4 ⟨x, e, l, e2, h⟩ => q vs H4 k4 ⟨l, by rw [e, e2], h, (k3.t k4).xat hwl⟩) fun vs H3 ⟨q, e, h⟩ => ⟨q, by rw [e], h⟩) fun vs H3 k3 ⟨q, e, h, hw3⟩ => ⟨[Dd], fun v H' => ∃ (l : Addr) (xs : List Str), v = .ref l ∧ H' l = some (.lst (xs.map V.str)) ∧ xs.Nodup ∧ (∀ x ∈ xs, x ∈ lawAskers) ∧ DiceAt H' Dd, ⟨Dd, q, lawAskers, e, hd2.ex k3, h, by decide, by decide, askers_nd, rfl, fun v H' l xs e n h nd hs hd => ⟨l, xs, e, h, nd, hs, hd⟩⟩, fun _ z => z, fun v H' kk ⟨l, xs, z1, z2, z3, z4, z5⟩ => ⟨l, xs, z1, z2, z3, z4, z5, kk.at hw3 (by simpa using dice_ne hw3 (hd2.ex k3))⟩⟩)) fun vs H3 k3 ⟨y, e2, l, xs, e3, h1, h2, h3, h4, h5⟩ => ⟨wl, l, ws, xs, by rw [e, e2, e3], h5, h1, nws, h2, hws, h3, h4⟩
  subst e ep
  refine ⟨_, eg_tup2 8 9 (.inl (.inl hp2)), ?_⟩
  have hd2 := hdx.ex kx2
  have ht2 := k2.tok ht1
  have hL2 := hL1.at hd1 k2
  have hwl2 := kx2.xat hwl
  have hol2 := kx2.xat hol
  refine s_set (i := 4) (SS := [Dd]) (P := fun v H' => ∃ c : Nat, v = nI c ∧ DiceAt H' Dd) (e_ixK (Pa := fun v H' => ∃ l, v = .ref l ∧ H' l = some (.lst ([0, 1, 2, 3, 5, 999999].map nI)) ∧ l ≠ Dd ∧ DiceAt H' Dd) (Pb := fun _ _ y H' => ∃ k : Nat, k < 6 ∧ y = nI k ∧ DiceAt H' Dd) (EK.big (EK.imp (e_lst (a_cons e_int (a_cons e_int (a_cons e_int (a_cons e_int (a_cons e_int (a_1 e_int))))))) fun v H3 k3 ⟨p, e, n, h⟩ => ⟨p, e, h, fun z => ?_, hd2.ex k3⟩)) (fun x H3 k3 ⟨l, e, h, hne, hd3⟩ => e_roll (m := 6) GR (by show 1 ≤ 7; decide) (k3.tok ht2) hd3 (by decide) (by decide) (ev 0) e_int) fun x y H3 H4 k3 ⟨l, e, h, hne, hd3⟩ k4 ⟨i, hi, e2, hd4⟩ => ?_) fun v H3 k3 ⟨c, e, hd3⟩ => ?_
  · obtain ⟨x, y, z', hz⟩ := hd2
    rw [z, hz] at n
    cases n
  · have h4 := k4.at h (by simpa using hne)
    have hi' : i < ([0, 1, 2, 3, 5, 999999] : List Nat).length := hi
    exact ⟨l, _, (i : Int), nI ([0, 1, 2, 3, 5, 999999] : List Nat)[i], e, e2, .inl (.inl h4), atI_nat (by rw [List.getElem?_map, List.getElem?_eq_getElem hi']; rfl), _, rfl, hd4⟩
  subst e
  have ht3 := k3.tok ht2
  have hL3 := hL2.at hd2 k3
  have hwl3 := k3.at hwl2 (by simpa using dice_ne hwl2 hd2)
  have hol3 := k3.at hol2 (by simpa using dice_ne hol2 hd2)
  have kD : Kp B.G [Dd] H H3 := (k1.trans k2).trans k3
  have hF := hL3.fu
  have g := hL3.gs
  have lA := hL3.lA
  have lR := hL3.lR
  have lws : ws.length ≤ 60 := Nat.le_trans (nodup_sub_len nws hws) (by decide)
  have los : os.length ≤ 60 := Nat.le_trans (nodup_sub_len nos hos) (by decide)
  have hend : ∀ {v : V} {H' : Hp} {due : Str} {Out : FSt → V → Hp → Prop}, Kp B.G [f, d1, d2, d3, d4, d5] H3 H' → (∃ t told a' r' F', v = .ref t ∧ SqT B.K H' t [told, .str due, .ref a', .ref r'] ∧ LawS B Cf H' f d1 d2 d3 d4 d5 F' a' r' ∧ Out F' told H') → (∀ F' told, Out F' told H' → (due ≠ "" ∧ sOk due ∧ F' = F ∧ told = .str due) ∨ (due = "" ∧ ToldAt B H' told F.heldL F')) → D.rt v H' := fun {v H' due Out} k4 ⟨t, told, a', r', F', e, h1, h2, h3⟩ ho => hD _ _ ((kD.mono (by simp)).trans (k4.mono (by simp))) ⟨t, told, due, a', r', F', e, h1, hd3.at k4 (hF.dice hd3), h2, ho F' told h3⟩
  obtain ⟨dxF, nF, oF⟩ := hF.fa.ob
  have ho := hF.off
  have hone' := hone
  refine s_if (b := decide ((s : Int) < 3)) (t_k (c_lt (ev 5) e_int)) (fun _ => ?_) (fun _ => s_next ?_)
  · -- come
    refine s_deed (LA := if one ∈ F.asks then mkA F else mkA F ++ [(one, ws)]) (LR := F.R) (due := if one ∈ F.asks then "deed" else "") (Out := fun F' v H' => (one ∈ F.asks ∧ F' = F ∧ v = .str "deed") ∨ (one ∉ F.asks ∧ ToldAt B H' v F.heldL F')) hL3 (fun F' v Ha Hb k h => h.imp id fun z => ⟨z.1, z.2.ex k⟩)
      (EK.imp (e_told (P := fun v H' => (one ∈ F.asks ∧ v = .str "deed" ∧ FairU B Cf H' f d1 d2 d3 d4 d5 F) ∨ (one ∉ F.asks ∧ ∃ F', FRuns (F.come one ws) F' ∧ FEnd F' ∧ FairU B Cf H' f d1 d2 d3 d4 d5 F' ∧ ToldAt B H' v F.heldL F')) (PX := fun cc H' => cc = .ref Cd ∧ one ∈ F.asks ∧ FairU B Cf H' f d1 d2 d3 d4 d5 F) TT ⟨TB, rfl, rfl, hmT, hu⟩ 5 (by show 7 ≤ 7; decide) ht3
        (fun H4 E' k4 hX => EK.imp (e_methX (P := fun v H' => one ∉ F.asks ∧ ∃ F', FRuns (F.come one ws) F' ∧ FEnd F' ∧ FairU B Cf H' f d1 d2 d3 d4 d5 F' ∧ ToldAt B H' v F.heldL F') (PA := fun vs _ => vs = [.str one, .ref wl]) MC (by show 4 ≤ 5; decide) (k4.tok ht3) (ev 1) (k4.xat oF) rfl (a_cons (ev 6) (a_1 (ev 8))) (fun vs H5 k5 e => ⟨f, d1, d2, d3, d4, d5, F, one, wl, ws, by rw [e], (hF.ex k4).ex k5, by omega, .inl (.inl ((k4.t k5).xat hwl3)), nws, lws, fun x hx => rooms_ok x (hws x hx), askers_ok one hone, rfl, rfl, rfl⟩) rfl hX) fun v H5 k5 p => .inr p)
        (fun cc H4 k4 ⟨e, hm, hFx⟩ => ⟨"deed", by rw [e]; exact TF.t1, .inl ⟨hm, rfl, hFx⟩⟩)) fun v H4 k4 hp => ?_) (fun H4 hA hR => ?_) (fun H4 hA k4 => ?_) (fun H4 hR k4 => EK.imp (ev 3) fun v H5 k5 e => ⟨r, e, hR.ex k5, .inl rfl⟩) ?_ (fun p hp => hL3.mR _ (List.mem_map.mpr ⟨p, hp, rfl⟩)) fun v H' k4 h => hend (due := if one ∈ F.asks then "deed" else "") (Out := fun F' v H' => (one ∈ F.asks ∧ F' = F ∧ v = .str "deed") ∨ (one ∉ F.asks ∧ ToldAt B H' v F.heldL F')) k4 h fun F' told ho => ?_
    · rcases hp with ⟨hm, e, hFx⟩ | ⟨hm, F', hrun, he, hFx, htold⟩
      · exact ⟨F, hFx, g, by rw [if_pos hm], rfl, .inl ⟨hm, rfl, e⟩⟩
      · obtain ⟨g1, g2, g3⟩ := gs_come g hm nws hrun he hFx.fa.ok
        exact ⟨F', hFx, g1, by rw [if_neg hm]; exact g2, g3, .inr ⟨hm, htold⟩⟩
    · obtain ⟨kvs, q1, q2, q3, q4, q5, q6⟩ := hA.kvs g.ok
      by_cases hm : one ∈ F.asks
      · rw [if_pos hm]
        exact e_ifT (T.is (t_k (c_din (ev 6) (ev 2) (.inl ⟨kvs, Sum.inr one, .inl q1, rfl, rfl⟩))) (by rw [q6]; exact decide_eq_true hm)) e_str
      · rw [if_neg hm]
        exact e_ifF (T.is (t_k (c_din (ev 6) (ev 2) (.inl ⟨kvs, Sum.inr one, .inl q1, rfl, rfl⟩))) (by rw [q6]; exact decide_eq_false hm)) e_str
    · obtain ⟨kvs, q1, q2, q3, q4, q5, q6⟩ := hA.kvs g.ok
      by_cases hm : one ∈ F.asks
      · rw [if_pos hm]
        exact e_ifT (T.is (t_k (c_din (ev 6) (ev 2) (.inl ⟨kvs, Sum.inr one, .inl q1, rfl, rfl⟩))) (by rw [q6]; exact decide_eq_true hm)) (EK.imp (ev 2) fun v H5 k5 e => ⟨a, e, hA.ex k5, .inl rfl⟩)
      · rw [if_neg hm]
        have hno : valV kvs (Sum.inr one) = none := by
          have := q6 one
          rw [decide_eq_false hm] at this
          exact Option.isNone_iff_eq_none.mp (by simpa using this)
        exact e_ifF (T.is (t_k (c_din (ev 6) (ev 2) (.inl ⟨kvs, Sum.inr one, .inl q1, rfl, rfl⟩))) (by rw [q6]; exact decide_eq_false hm)) (EK.imp (e_dictAdd (key := Sum.inr one) (W := .inl (.ref wl)) TL.dict TL.list (ev 2) q1 q4 hno (by omega) (ev 6) (fun o z => nomatch z) fun H5 k5 => ev 8) fun v H5 k5 ⟨l, w, e, n, h, hw⟩ => ⟨l, e, ⟨_, h, paired_append (paired_imp q2 fun p kv ⟨e1, l1, e2, h1⟩ => ⟨e1, l1, e2, k5.xat h1⟩) (.cons ⟨rfl, wl, hw, k5.xat (lst_off hwl3 k4 ho)⟩ .nil)⟩, .inr n⟩)
    · intro p hp
      have old : p ∈ mkA F → p.1 ∈ lawAskers := fun h => by
        obtain ⟨q, hq, rfl⟩ := List.mem_map.mp h
        exact hL3.mA _ (List.mem_map.mpr ⟨q, hq, rfl⟩)
      by_cases hm : one ∈ F.asks
      · rw [if_pos hm] at hp
        exact old hp
      · rw [if_neg hm] at hp
        rcases List.mem_append.mp hp with z | z
        · exact old z
        · rw [List.mem_singleton.mp z]
          exact hone
    · rcases ho with ⟨hm, e1, e2⟩ | ⟨hm, h⟩
      · rw [if_pos hm]
        exact .inl ⟨by decide, by decide +kernel, e1, e2⟩
      · rw [if_neg hm]
        exact .inr ⟨rfl, h⟩
  have oldA : ∀ {q : Str × List Str}, q ∈ mkA F → q.1 ∈ lawAskers := fun h => by
    obtain ⟨q, hq, rfl⟩ := List.mem_map.mp h
    exact hL3.mA _ (List.mem_map.mpr ⟨q, hq, rfl⟩)
  have oldR : ∀ {q : Str × RRow}, q ∈ F.R → q.1 ∈ lawRooms := fun h => hL3.mR _ (List.mem_map.mpr ⟨_, h, rfl⟩)
  refine s_if (b := decide (V.int (s : Int) = V.int 3)) (t_k (c_eq rfl (ev 5) e_int)) (fun _ => ?_) (fun _ => s_next ?_)
  · -- leave
    have hfilt : one ∉ F.asks → (mkA F).filter (fun p => decide (p.1 ≠ one)) = mkA F := fun hm => List.filter_eq_self.mpr fun p hp => by
      obtain ⟨q, hq, rfl⟩ := List.mem_map.mp hp
      simp only [decide_eq_true_eq]
      exact fun z => hm (List.mem_map.mpr ⟨q, hq, z⟩)
    refine s_deed (LA := (mkA F).filter fun p => decide (p.1 ≠ one)) (LR := F.R) (due := if one ∈ F.asks then "" else "no such") (Out := fun F' v H' => (one ∉ F.asks ∧ F' = F ∧ v = .str "no such") ∨ (one ∈ F.asks ∧ ToldAt B H' v F.heldL F')) hL3 (fun F' v Ha Hb k h => h.imp id fun z => ⟨z.1, z.2.ex k⟩)
      (EK.imp (e_told (P := fun v H' => (one ∉ F.asks ∧ v = .str "no such" ∧ FairU B Cf H' f d1 d2 d3 d4 d5 F) ∨ (one ∈ F.asks ∧ ∃ (X Y as : List Str) (F' : FSt), one ∈ X ∧ Closed F X Y ∧ (∀ b, b ∈ as ↔ b ∈ F.asks ∧ b ∈ X ∧ b ≠ one) ∧ FRuns ((F.del one).fresh as) F' ∧ FEnd F' ∧ FairU B Cf H' f d1 d2 d3 d4 d5 F' ∧ ToldAt B H' v F.heldL F')) (PX := fun cc H' => cc = .ref Cn ∧ one ∉ F.asks ∧ FairU B Cf H' f d1 d2 d3 d4 d5 F) TT ⟨TB, rfl, rfl, hmT, hu⟩ 5 (by show 7 ≤ 7; decide) ht3
        (fun H4 E' k4 hX => EK.imp (e_methX (P := fun v H' => one ∈ F.asks ∧ ∃ (X Y as : List Str) (F' : FSt), one ∈ X ∧ Closed F X Y ∧ (∀ b, b ∈ as ↔ b ∈ F.asks ∧ b ∈ X ∧ b ≠ one) ∧ FRuns ((F.del one).fresh as) F' ∧ FEnd F' ∧ FairU B Cf H' f d1 d2 d3 d4 d5 F' ∧ ToldAt B H' v F.heldL F') (PA := fun vs _ => vs = [.str one]) ML (by show 5 ≤ 5; decide) (k4.tok ht3) (ev 1) (k4.xat oF) rfl (a_1 (ev 6)) (fun vs H5 k5 e => ⟨f, d1, d2, d3, d4, d5, F, one, by rw [e], (hF.ex k4).ex k5, by omega, rfl, rfl, rfl⟩) rfl hX) fun v H5 k5 p => .inr p)
        (fun cc H4 k4 ⟨e, hm, hFx⟩ => ⟨"no such", by rw [e]; exact TF.t3, .inl ⟨hm, rfl, hFx⟩⟩)) fun v H4 k4 hp => ?_) (fun H4 hA hR => ?_) (fun H4 hA k4 => ?_) (fun H4 hR k4 => EK.imp (ev 3) fun v H5 k5 e => ⟨r, e, hR.ex k5, .inl rfl⟩) (fun p hp => oldA (List.mem_filter.mp hp).1) (fun p hp => oldR hp) fun v H' k4 h => hend (due := if one ∈ F.asks then "" else "no such") (Out := fun F' v H' => (one ∉ F.asks ∧ F' = F ∧ v = .str "no such") ∨ (one ∈ F.asks ∧ ToldAt B H' v F.heldL F')) k4 h fun F' told ho => ?_
    · rcases hp with ⟨hm, e, hFx⟩ | ⟨hm, X, Y, as, F', hX, hc, has, hrun, he, hFx, htold⟩
      · exact ⟨F, hFx, g, (hfilt hm).symm, rfl, .inl ⟨hm, rfl, e⟩⟩
      · obtain ⟨g1, g2, g3⟩ := gs_leave g hX hc has hrun he hFx.fa.ok
        exact ⟨F', hFx, g1, g2, g3, .inr ⟨hm, htold⟩⟩
    · obtain ⟨kvs, q1, q2, q3, q4, q5, q6⟩ := hA.kvs g.ok
      by_cases hm : one ∈ F.asks
      · rw [if_pos hm]
        exact e_ifF (T.is (t_k (c_dnotin (ev 6) (ev 2) (.inl ⟨kvs, Sum.inr one, .inl q1, rfl, rfl⟩))) (by rw [q6, decide_eq_true hm]; rfl)) e_str
      · rw [if_neg hm]
        exact e_ifT (T.is (t_k (c_dnotin (ev 6) (ev 2) (.inl ⟨kvs, Sum.inr one, .inl q1, rfl, rfl⟩))) (by rw [q6, decide_eq_false hm]; rfl)) e_str
    · obtain ⟨kvs, q1, q2, q3, q4, q5, q6⟩ := hA.kvs g.ok
      refine EK.imp (e_dictK [("each", 10)] TL.dict q1 (fun od => ev 2) (fun kv => !decide (kv.1 = Sum.inr one)) (fun kv => kv.1) (fun kv => kv.2) (by omega) fun od kv H5 hk k5 => ⟨_, eg_name 10, rfl, ts_one (t_k (CM.is (c_ne (key_dec (one := one) (kv_inr q3 hk)).1 (ev 10) (ev 6)) (by rw [(key_dec (one := one) (kv_inr q3 hk)).2]))), fun _ => ⟨ev 10, e_dget (ev 2) (ev 10) (.inl ⟨kvs, kv.1, .inr ⟨od, k5.xat upd_same⟩, rfl, (valV_mem q4 hk).symm⟩)⟩⟩) fun v H5 k5 ⟨l, e, n, h⟩ => ⟨l, e, ⟨_, by rw [h, mrg_filter q4], paired_filter (paired_imp q2 fun p kv ⟨e1, l1, e2, h1⟩ => ⟨e1, l1, e2, k5.xat h1⟩) fun p kv ⟨e1, _⟩ => ?_⟩, .inr n⟩
      rw [e1]
      by_cases e : p.1 = one <;> simp [e]
    · rcases ho with ⟨hm, e1, e2⟩ | ⟨hm, h⟩
      · rw [if_neg hm]
        exact .inl ⟨by decide, by decide +kernel, e1, e2⟩
      · rw [if_pos hm]
        exact .inr ⟨rfl, h⟩
  refine s_if (b := decide (V.int (s : Int) = V.int 4)) (t_k (c_eq rfl (ev 5) e_int)) (fun _ => ?_) (fun _ => s_next ?_)
  · -- wish
    have hmap : one ∉ F.asks → (mkA F).map (fun p => (p.1, if p.1 = one then ws else p.2)) = mkA F := fun hm => by
      conv => rhs; rw [← List.map_id (mkA F)]
      refine List.map_congr_left fun p hp => ?_
      obtain ⟨q, hq, rfl⟩ := List.mem_map.mp hp
      rw [if_neg (fun z => hm (List.mem_map.mpr ⟨q, hq, z⟩))]
      rfl
    refine s_deed (LA := (mkA F).map fun p => (p.1, if p.1 = one then ws else p.2)) (LR := F.R) (due := if one ∈ F.asks then "" else "no such") (Out := fun F' v H' => (one ∉ F.asks ∧ F' = F ∧ v = .str "no such") ∨ (one ∈ F.asks ∧ ToldAt B H' v F.heldL F')) hL3 (fun F' v Ha Hb k h => h.imp id fun z => ⟨z.1, z.2.ex k⟩)
      (EK.imp (e_told (P := fun v H' => (one ∉ F.asks ∧ v = .str "no such" ∧ FairU B Cf H' f d1 d2 d3 d4 d5 F) ∨ (one ∈ F.asks ∧ ∃ F' : FSt, GS F' ∧ mkA F' = (mkA F).map (fun p => (p.1, if p.1 = one then ws else p.2)) ∧ F'.R = F.R ∧ FairU B Cf H' f d1 d2 d3 d4 d5 F' ∧ ToldAt B H' v F.heldL F')) (PX := fun cc H' => cc = .ref Cn ∧ one ∉ F.asks ∧ FairU B Cf H' f d1 d2 d3 d4 d5 F) TT ⟨TB, rfl, rfl, hmT, hu⟩ 5 (by show 7 ≤ 7; decide) ht3
        (fun H4 E' k4 hX => EK.imp (e_methX (P := fun v H' => ∃ x, F.A.lookup one = some x ∧ ((x.h ≠ none ∧ ws.take x.n = x.l.take x.n ∧ FairU B Cf H' f d1 d2 d3 d4 d5 (F.setL one ws) ∧ ToldAt B H' v F.heldL (F.setL one ws)) ∨ ∃ (X1 Y1 X2 Y2 as : List Str) (F' : FSt), one ∈ X1 ∧ Closed F X1 Y1 ∧ one ∈ X2 ∧ Closed (F.setL one ws) X2 Y2 ∧ (∀ b, b ∈ as ↔ b ∈ F.asks ∧ (b ∈ X1 ∨ b ∈ X2)) ∧ FRuns ((F.setL one ws).fresh as) F' ∧ FEnd F' ∧ FairU B Cf H' f d1 d2 d3 d4 d5 F' ∧ ToldAt B H' v F.heldL F')) (PA := fun vs _ => vs = [.str one, .ref wl]) MW (by show 5 ≤ 5; decide) (k4.tok ht3) (ev 1) (k4.xat oF) rfl (a_cons (ev 6) (a_1 (ev 8))) (fun vs H5 k5 e => ⟨f, d1, d2, d3, d4, d5, F, one, wl, ws, by rw [e], (hF.ex k4).ex k5, by omega, .inl (.inl ((k4.t k5).xat hwl3)), nws, lws, fun x hx => rooms_ok x (hws x hx), rfl, rfl, rfl⟩) rfl hX) fun v H5 k5 ⟨x, hx, p⟩ => .inr ⟨mem_asks hx, by
          rcases p with ⟨p1, p2, p3, p4⟩ | ⟨X1, Y1, X2, Y2, as, F', x1, c1, x2, c2, has, hrun, he, hFx, htold⟩
          · obtain ⟨g1, g2, g3⟩ := gs_wish1 g hx p1 nws p2 p3.fa.ok
            exact ⟨_, g1, g2, g3, p3, p4⟩
          · obtain ⟨g1, g2, g3⟩ := gs_wish2 g (mem_asks hx) nws x1 c1 x2 c2 has hrun he hFx.fa.ok
            exact ⟨F', g1, g2, g3, hFx, htold⟩⟩)
        (fun cc H4 k4 ⟨e, hm, hFx⟩ => ⟨"no such", by rw [e]; exact TF.t3, .inl ⟨hm, rfl, hFx⟩⟩)) fun v H4 k4 hp => ?_) (fun H4 hA hR => ?_) (fun H4 hA k4 => ?_) (fun H4 hR k4 => EK.imp (ev 3) fun v H5 k5 e => ⟨r, e, hR.ex k5, .inl rfl⟩) (fun p hp => by
        obtain ⟨q, hq, rfl⟩ := List.mem_map.mp hp
        have := oldA hq
        exact this) (fun p hp => oldR hp) fun v H' k4 h => hend (due := if one ∈ F.asks then "" else "no such") (Out := fun F' v H' => (one ∉ F.asks ∧ F' = F ∧ v = .str "no such") ∨ (one ∈ F.asks ∧ ToldAt B H' v F.heldL F')) k4 h fun F' told ho => ?_
    · rcases hp with ⟨hm, e, hFx⟩ | ⟨hm, F', g1, g2, g3, hFx, htold⟩
      · exact ⟨F, hFx, g, (hmap hm).symm, rfl, .inl ⟨hm, rfl, e⟩⟩
      · exact ⟨F', hFx, g1, g2, g3, .inr ⟨hm, htold⟩⟩
    · obtain ⟨kvs, q1, q2, q3, q4, q5, q6⟩ := hA.kvs g.ok
      by_cases hm : one ∈ F.asks
      · rw [if_pos hm]
        exact e_ifF (T.is (t_k (c_dnotin (ev 6) (ev 2) (.inl ⟨kvs, Sum.inr one, .inl q1, rfl, rfl⟩))) (by rw [q6, decide_eq_true hm]; rfl)) e_str
      · rw [if_neg hm]
        exact e_ifT (T.is (t_k (c_dnotin (ev 6) (ev 2) (.inl ⟨kvs, Sum.inr one, .inl q1, rfl, rfl⟩))) (by rw [q6, decide_eq_false hm]; rfl)) e_str
    · obtain ⟨kvs, q1, q2, q3, q4, q5, q6⟩ := hA.kvs g.ok
      have hw4 := lst_off hwl3 k4 ho
      refine EK.imp (e_dictK [("each", 10)] TL.dict q1 (fun od => ev 2) (fun _ => true) (fun kv => kv.1) (fun kv => if kv.1 = Sum.inr one then .ref wl else kv.2) (by omega) fun od kv H5 hk k5 => ⟨_, eg_name 10, rfl, ts_nil, fun _ => ⟨ev 10, ?_⟩⟩) fun v H5 k5 ⟨l, e, n, h⟩ => ⟨l, e, ⟨kvs.map fun (kv : L2.Key × V) => (kv.1, if kv.1 = Sum.inr one then V.ref wl else kv.2), by rw [h, mrg_map (g := fun (kv : L2.Key × V) => if kv.1 = Sum.inr one then V.ref wl else kv.2) q4], paired_map2 (R' := fun (p : Str × List Str) (kv : L2.Key × V) => kv.1 = Sum.inr p.1 ∧ ∃ l, kv.2 = .ref l ∧ H5 l = some (.lst (p.2.map V.str))) q2 fun p kv ⟨e1, l1, e2, h1⟩ => ⟨e1, ?_⟩⟩, .inr n⟩
      · have hkd := key_dec (one := one) (kv_inr q3 hk)
        by_cases e : kv.1 = Sum.inr one
        · rw [if_pos e]
          exact e_ifT (T.is (t_k (c_eq hkd.1 (ev 10) (ev 6))) (by rw [hkd.2]; exact decide_eq_true e)) (ev 8)
        · rw [if_neg e]
          exact e_ifF (T.is (t_k (c_eq hkd.1 (ev 10) (ev 6))) (by rw [hkd.2]; exact decide_eq_false e)) (e_dget (ev 2) (ev 10) (.inl ⟨kvs, kv.1, .inr ⟨od, k5.xat upd_same⟩, rfl, (valV_mem q4 hk).symm⟩))
      · show ∃ l, (if kv.1 = Sum.inr one then V.ref wl else kv.2) = .ref l ∧ H5 l = some (.lst ((if p.1 = one then ws else p.2).map V.str))
        by_cases e : p.1 = one
        · rw [if_pos (by rw [e1, e]), if_pos e]
          exact ⟨wl, rfl, k5.xat hw4⟩
        · rw [if_neg (by rw [e1]; simpa using e), if_neg e]
          exact ⟨l1, e2, k5.xat h1⟩
    · rcases ho with ⟨hm, e1, e2⟩ | ⟨hm, h⟩
      · rw [if_neg hm]
        exact .inl ⟨by decide, by decide +kernel, e1, e2⟩
      · rw [if_pos hm]
        exact .inr ⟨rfl, h⟩
  have lol := dice_ne hol3 hd3
  refine s_if (b := decide ((s : Int) < 7)) (t_k (c_lt (ev 5) e_int)) (fun _ => ?_) (fun _ => s_next ?_)
  · -- open_room
    refine s_deed (LA := mkA F) (LR := if room ∈ F.rooms then F.R else F.R ++ [(room, ⟨os, c⟩)]) (due := if room ∈ F.rooms then "deed" else "") (Out := fun F' v H' => (room ∈ F.rooms ∧ F' = F ∧ v = .str "deed") ∨ (room ∉ F.rooms ∧ ToldAt B H' v F.heldL F')) hL3 (fun F' v Ha Hb k h => h.imp id fun z => ⟨z.1, z.2.ex k⟩)
      (EK.imp (e_told (P := fun v H' => (room ∈ F.rooms ∧ v = .str "deed" ∧ FairU B Cf H' f d1 d2 d3 d4 d5 F) ∨ (room ∉ F.rooms ∧ ∃ F' : FSt, GS F' ∧ mkA F' = mkA F ∧ F'.R = F.R ++ [(room, ⟨os, c⟩)] ∧ FairU B Cf H' f d1 d2 d3 d4 d5 F' ∧ ToldAt B H' v F.heldL F')) (PX := fun cc H' => cc = .ref Cd ∧ room ∈ F.rooms ∧ FairU B Cf H' f d1 d2 d3 d4 d5 F) TT ⟨TB, rfl, rfl, hmT, hu⟩ 5 (by show 7 ≤ 7; decide) ht3
        (fun H4 E' k4 hX => EK.imp (e_methX (P := fun v H' => room ∉ F.rooms ∧ ∃ (X Y as : List Str) (F' : FSt), room ∈ Y ∧ Closed (F.putR room os c) X Y ∧ (∀ b, b ∈ as ↔ b ∈ F.asks ∧ b ∈ X) ∧ FRuns ((F.putR room os c).fresh as) F' ∧ FEnd F' ∧ FairU B Cf H' f d1 d2 d3 d4 d5 F' ∧ ToldAt B H' v F.heldL F') (PA := fun vs _ => vs = [.str room, .ref ol, nI c]) MO (by show 5 ≤ 5; decide) (k4.tok ht3) (ev 1) (k4.xat oF) rfl (a_cons (ev 7) (a_cons (ev 9) (a_1 (ev 4)))) (fun vs H5 k5 e => ⟨f, d1, d2, d3, d4, d5, F, room, ol, os, c, by rw [e], (hF.ex k4).ex k5, by omega, by omega, .inl (.inl ((k4.t k5).xat hol3)), nos, los, fun x hx => askers_ok x (hos x hx), rooms_ok room hroom, rfl, rfl, rfl⟩) rfl hX) fun v H5 k5 ⟨hm, X, Y, as, F', hY, hc, has, hrun, he, hFx, htold⟩ => .inr ⟨hm, by
          obtain ⟨g1, g2, g3⟩ := gs_open g hm nos hY hc has hrun he hFx.fa.ok
          exact ⟨F', g1, g2, g3, hFx, htold⟩⟩)
        (fun cc H4 k4 ⟨e, hm, hFx⟩ => ⟨"deed", by rw [e]; exact TF.t1, .inl ⟨hm, rfl, hFx⟩⟩)) fun v H4 k4 hp => ?_) (fun H4 hA hR => ?_) (fun H4 hA k4 => EK.imp (ev 2) fun v H5 k5 e => ⟨a, e, hA.ex k5, .inl rfl⟩) (fun H4 hR k4 => ?_) (fun p hp => oldA hp) ?_ fun v H' k4 h => hend (due := if room ∈ F.rooms then "deed" else "") (Out := fun F' v H' => (room ∈ F.rooms ∧ F' = F ∧ v = .str "deed") ∨ (room ∉ F.rooms ∧ ToldAt B H' v F.heldL F')) k4 h fun F' told ho => ?_
    · rcases hp with ⟨hm, e, hFx⟩ | ⟨hm, F', g1, g2, g3, hFx, htold⟩
      · exact ⟨F, hFx, g, rfl, by rw [if_pos hm], .inl ⟨hm, rfl, e⟩⟩
      · exact ⟨F', hFx, g1, g2, by rw [if_neg hm]; exact g3, .inr ⟨hm, htold⟩⟩
    · obtain ⟨kvs, q1, q2, q3, q4, q5, q6⟩ := hR.kvs g.ok
      by_cases hm : room ∈ F.rooms
      · rw [if_pos hm]
        exact e_ifT (T.is (t_k (c_din (ev 7) (ev 3) (.inl ⟨kvs, Sum.inr room, .inl q1, rfl, rfl⟩))) (by rw [q6]; exact decide_eq_true hm)) e_str
      · rw [if_neg hm]
        exact e_ifF (T.is (t_k (c_din (ev 7) (ev 3) (.inl ⟨kvs, Sum.inr room, .inl q1, rfl, rfl⟩))) (by rw [q6]; exact decide_eq_false hm)) e_str
    · obtain ⟨kvs, q1, q2, q3, q4, q5, q6⟩ := hR.kvs g.ok
      by_cases hm : room ∈ F.rooms
      · rw [if_pos hm]
        exact e_ifT (T.is (t_k (c_din (ev 7) (ev 3) (.inl ⟨kvs, Sum.inr room, .inl q1, rfl, rfl⟩))) (by rw [q6]; exact decide_eq_true hm)) (EK.imp (ev 3) fun v H5 k5 e => ⟨r, e, hR.ex k5, .inl rfl⟩)
      · rw [if_neg hm]
        have hno : valV kvs (Sum.inr room) = none := by
          have := q6 room
          rw [decide_eq_false hm] at this
          exact Option.isNone_iff_eq_none.mp (by simpa using this)
        have hol4 := lst_off hol3 k4 ho
        exact e_ifF (T.is (t_k (c_din (ev 7) (ev 3) (.inl ⟨kvs, Sum.inr room, .inl q1, rfl, rfl⟩))) (by rw [q6]; exact decide_eq_false hm)) (EK.imp (e_dictAdd (key := Sum.inr room) (W := .inr (.tup [.ref ol, nI c])) TL.dict TL.list (ev 3) q1 q4 hno (by omega) (ev 7) (fun o z => by cases z; rfl) fun H5 k5 => e_tup (a_cons (ev 9) (a_1 (ev 4)))) fun v H5 k5 ⟨l, w, e, n, h, q, eq, nq, hq⟩ => ⟨l, e, ⟨_, h, paired_append (paired_imp q2 fun p kv ⟨e1, t1, l1, e2, h1, h2⟩ => ⟨e1, t1, l1, e2, ex_t k5 h1, k5.xat h2⟩) (.cons ⟨rfl, q, ol, eq, .inl (.inl hq), k5.xat hol4⟩ .nil)⟩, .inr n⟩)
    · intro p hp
      by_cases hm : room ∈ F.rooms
      · rw [if_pos hm] at hp
        exact oldR hp
      · rw [if_neg hm] at hp
        rcases List.mem_append.mp hp with z | z
        · exact oldR z
        · rw [List.mem_singleton.mp z]
          exact hroom
    · rcases ho with ⟨hm, e1, e2⟩ | ⟨hm, h⟩
      · rw [if_pos hm]
        exact .inl ⟨by decide, by decide +kernel, e1, e2⟩
      · rw [if_neg hm]
        exact .inr ⟨rfl, h⟩
  refine s_if (b := decide (V.int (s : Int) = V.int 7)) (t_k (c_eq rfl (ev 5) e_int)) (fun _ => ?_) (fun _ => s_next ?_)
  · -- change_room
    have hmap : room ∉ F.rooms → F.R.map (fun p => (p.1, if p.1 = room then (⟨os, c⟩ : RRow) else p.2)) = F.R := fun hm => by
      conv => rhs; rw [← List.map_id F.R]
      refine List.map_congr_left fun p hp => ?_
      rw [if_neg (fun z => hm (List.mem_map.mpr ⟨p, hp, z⟩))]
      rfl
    refine s_deed (LA := mkA F) (LR := F.R.map fun p => (p.1, if p.1 = room then ⟨os, c⟩ else p.2)) (due := if room ∈ F.rooms then "" else "no such") (Out := fun F' v H' => (room ∉ F.rooms ∧ F' = F ∧ v = .str "no such") ∨ (room ∈ F.rooms ∧ ToldAt B H' v F.heldL F')) hL3 (fun F' v Ha Hb k h => h.imp id fun z => ⟨z.1, z.2.ex k⟩)
      (EK.imp (e_told (P := fun v H' => (room ∉ F.rooms ∧ v = .str "no such" ∧ FairU B Cf H' f d1 d2 d3 d4 d5 F) ∨ (room ∈ F.rooms ∧ ∃ F' : FSt, GS F' ∧ mkA F' = mkA F ∧ F'.R = F.R.map (fun p => (p.1, if p.1 = room then (⟨os, c⟩ : RRow) else p.2)) ∧ FairU B Cf H' f d1 d2 d3 d4 d5 F' ∧ ToldAt B H' v F.heldL F')) (PX := fun cc H' => cc = .ref Cn ∧ room ∉ F.rooms ∧ FairU B Cf H' f d1 d2 d3 d4 d5 F) TT ⟨TB, rfl, rfl, hmT, hu⟩ 5 (by show 7 ≤ 7; decide) ht3
        (fun H4 E' k4 hX => EK.imp (e_methX (P := fun v H' => room ∈ F.rooms ∧ ∃ (X1 Y1 X2 Y2 as : List Str) (F' : FSt), room ∈ Y1 ∧ Closed F X1 Y1 ∧ room ∈ Y2 ∧ Closed (F.putR room os c) X2 Y2 ∧ (∀ b, b ∈ as ↔ b ∈ F.asks ∧ (b ∈ X1 ∨ b ∈ X2)) ∧ FRuns ((F.putR room os c).fresh as) F' ∧ FEnd F' ∧ FairU B Cf H' f d1 d2 d3 d4 d5 F' ∧ ToldAt B H' v F.heldL F') (PA := fun vs _ => vs = [.str room, .ref ol, nI c]) MH (by show 5 ≤ 5; decide) (k4.tok ht3) (ev 1) (k4.xat oF) rfl (a_cons (ev 7) (a_cons (ev 9) (a_1 (ev 4)))) (fun vs H5 k5 e => ⟨f, d1, d2, d3, d4, d5, F, room, ol, os, c, by rw [e], (hF.ex k4).ex k5, by omega, by omega, .inl (.inl ((k4.t k5).xat hol3)), nos, los, fun x hx => askers_ok x (hos x hx), rooms_ok room hroom, rfl, rfl, rfl⟩) rfl hX) fun v H5 k5 ⟨hm, X1, Y1, X2, Y2, as, F', hY1, hc1, hY2, hc2, has, hrun, he, hFx, htold⟩ => .inr ⟨hm, by
          obtain ⟨g1, g2, g3⟩ := gs_change g hm nos hY1 hc1 hY2 hc2 has hrun he hFx.fa.ok
          exact ⟨F', g1, g2, g3, hFx, htold⟩⟩)
        (fun cc H4 k4 ⟨e, hm, hFx⟩ => ⟨"no such", by rw [e]; exact TF.t3, .inl ⟨hm, rfl, hFx⟩⟩)) fun v H4 k4 hp => ?_) (fun H4 hA hR => ?_) (fun H4 hA k4 => EK.imp (ev 2) fun v H5 k5 e => ⟨a, e, hA.ex k5, .inl rfl⟩) (fun H4 hR k4 => ?_) (fun p hp => oldA hp) (fun p hp => by
        obtain ⟨q, hq, rfl⟩ := List.mem_map.mp hp
        have := oldR hq
        exact this) fun v H' k4 h => hend (due := if room ∈ F.rooms then "" else "no such") (Out := fun F' v H' => (room ∉ F.rooms ∧ F' = F ∧ v = .str "no such") ∨ (room ∈ F.rooms ∧ ToldAt B H' v F.heldL F')) k4 h fun F' told ho => ?_
    · rcases hp with ⟨hm, e, hFx⟩ | ⟨hm, F', g1, g2, g3, hFx, htold⟩
      · exact ⟨F, hFx, g, rfl, (hmap hm).symm, .inl ⟨hm, rfl, e⟩⟩
      · exact ⟨F', hFx, g1, g2, g3, .inr ⟨hm, htold⟩⟩
    · obtain ⟨kvs, q1, q2, q3, q4, q5, q6⟩ := hR.kvs g.ok
      by_cases hm : room ∈ F.rooms
      · rw [if_pos hm]
        exact e_ifF (T.is (t_k (c_dnotin (ev 7) (ev 3) (.inl ⟨kvs, Sum.inr room, .inl q1, rfl, rfl⟩))) (by rw [q6, decide_eq_true hm]; rfl)) e_str
      · rw [if_neg hm]
        exact e_ifT (T.is (t_k (c_dnotin (ev 7) (ev 3) (.inl ⟨kvs, Sum.inr room, .inl q1, rfl, rfl⟩))) (by rw [q6, decide_eq_false hm]; rfl)) e_str
    · obtain ⟨kvs, q1, q2, q3, q4, q5, q6⟩ := hR.kvs g.ok
      have hol4 := lst_off hol3 k4 ho
      refine EK.imp (e_dictKR [("each", 10)] TL.dict q1 (fun od => ev 3) (fun _ => true) (fun kv => kv.1) (fun kv => if kv.1 = Sum.inr room then .inr (.tup [.ref ol, nI c]) else .inl kv.2) (fun kv o z => ?_) (by omega) fun od kv H5 hk k5 => ⟨_, eg_name 10, rfl, ts_nil, fun _ => ⟨ev 10, ?_⟩⟩) fun v H5 k5 ⟨l, kvs', e, n, h, hP⟩ => ?_
      · by_cases e : kv.1 = Sum.inr room
        · rw [if_pos e] at z
          cases z
          rfl
        · rw [if_neg e] at z
          cases z
      · have hkd := key_dec (one := room) (kv_inr q3 hk)
        by_cases e : kv.1 = Sum.inr room
        · rw [if_pos e]
          exact e_ifT (T.is (t_k (c_eq hkd.1 (ev 10) (ev 7))) (by rw [hkd.2]; exact decide_eq_true e)) (e_tup (a_cons (ev 9) (a_1 (ev 4))))
        · rw [if_neg e]
          exact e_ifF (T.is (t_k (c_eq hkd.1 (ev 10) (ev 7))) (by rw [hkd.2]; exact decide_eq_false e)) (e_dget (ev 3) (ev 10) (.inl ⟨kvs, kv.1, .inr ⟨od, k5.xat upd_same⟩, rfl, (valV_mem q4 hk).symm⟩))
      · rw [List.filter_eq_self.mpr (fun _ _ => rfl)] at hP
        have hkeys : kvs'.map (fun kv => kv.1) = kvs.map fun kv => kv.1 := by
          have : ∀ {as bs : List (L2.Key × V)} {W : L2.Key × V → V ⊕ HO}, Paired (fun (kv kv' : L2.Key × V) => kv'.1 = kv.1 ∧ ValX H4 (W kv) kv'.2 H5) as bs → bs.map (fun kv => kv.1) = as.map fun kv => kv.1 := by
            intro as bs W h
            induction h with
            | nil => rfl
            | cons g _ ih => rw [List.map_cons, List.map_cons, ih, g.1]
          exact this hP
        refine ⟨l, e, ⟨kvs', by rw [h, mergeK_self (by rw [hkeys]; exact q4)], paired_map (paired_imp (paired_comp q2 hP) fun p kv' ⟨kv, ⟨e1, t1, l1, e2, h1, h2⟩, e3, hv⟩ => ⟨e3.trans e1, ?_⟩)⟩, .inr n⟩
        show ∃ t l, kv'.2 = .ref t ∧ SqT B.K H5 t [.ref l, nI (if p.1 = room then (⟨os, c⟩ : RRow) else p.2).c] ∧ H5 l = some (.lst ((if p.1 = room then (⟨os, c⟩ : RRow) else p.2).o.map V.str))
        by_cases e : p.1 = room
        · rw [if_pos (by rw [e1, e])] at hv
          obtain ⟨q, eq, nq, hq⟩ := hv
          rw [if_pos e]
          exact ⟨q, ol, eq, .inl (.inl hq), k5.xat hol4⟩
        · rw [if_neg (by rw [e1]; simpa using e)] at hv
          rw [if_neg e]
          have hv : kv'.2 = kv.2 := hv
          exact ⟨t1, l1, by rw [hv, e2], ex_t k5 h1, k5.xat h2⟩
    · rcases ho with ⟨hm, e1, e2⟩ | ⟨hm, h⟩
      · rw [if_neg hm]
        exact .inl ⟨by decide, by decide +kernel, e1, e2⟩
      · rw [if_pos hm]
        exact .inr ⟨rfl, h⟩
  · -- shut_room
    have hfilt : room ∉ F.rooms → F.R.filter (fun p => decide (p.1 ≠ room)) = F.R := fun hm => List.filter_eq_self.mpr fun p hp => by
      simp only [decide_eq_true_eq]
      exact fun z => hm (List.mem_map.mpr ⟨p, hp, z⟩)
    refine s_deed (LA := mkA F) (LR := F.R.filter fun p => decide (p.1 ≠ room)) (due := if room ∈ F.rooms then "" else "no such") (Out := fun F' v H' => (room ∉ F.rooms ∧ F' = F ∧ v = .str "no such") ∨ (room ∈ F.rooms ∧ ToldAt B H' v F.heldL F')) hL3 (fun F' v Ha Hb k h => h.imp id fun z => ⟨z.1, z.2.ex k⟩)
      (EK.imp (e_told (P := fun v H' => (room ∉ F.rooms ∧ v = .str "no such" ∧ FairU B Cf H' f d1 d2 d3 d4 d5 F) ∨ (room ∈ F.rooms ∧ ∃ F' : FSt, GS F' ∧ mkA F' = mkA F ∧ F'.R = F.R.filter (fun p => decide (p.1 ≠ room)) ∧ FairU B Cf H' f d1 d2 d3 d4 d5 F' ∧ ToldAt B H' v F.heldL F')) (PX := fun cc H' => cc = .ref Cn ∧ room ∉ F.rooms ∧ FairU B Cf H' f d1 d2 d3 d4 d5 F) TT ⟨TB, rfl, rfl, hmT, hu⟩ 5 (by show 7 ≤ 7; decide) ht3
        (fun H4 E' k4 hX => EK.imp (e_methX (P := fun v H' => room ∈ F.rooms ∧ ∃ (X Y as : List Str) (F' : FSt), room ∈ Y ∧ Closed F X Y ∧ (∀ b, b ∈ as ↔ b ∈ F.asks ∧ b ∈ X) ∧ FRuns ((F.delR room).fresh as) F' ∧ FEnd F' ∧ FairU B Cf H' f d1 d2 d3 d4 d5 F' ∧ ToldAt B H' v F.heldL F') (PA := fun vs _ => vs = [.str room]) MS (by show 5 ≤ 5; decide) (k4.tok ht3) (ev 1) (k4.xat oF) rfl (a_1 (ev 7)) (fun vs H5 k5 e => ⟨f, d1, d2, d3, d4, d5, F, room, by rw [e], (hF.ex k4).ex k5, by omega, rfl, rfl, rfl⟩) rfl hX) fun v H5 k5 ⟨hm, X, Y, as, F', hY, hc, has, hrun, he, hFx, htold⟩ => .inr ⟨hm, by
          obtain ⟨g1, g2, g3⟩ := gs_shut g hY hc has hrun he hFx.fa.ok
          exact ⟨F', g1, g2, g3, hFx, htold⟩⟩)
        (fun cc H4 k4 ⟨e, hm, hFx⟩ => ⟨"no such", by rw [e]; exact TF.t3, .inl ⟨hm, rfl, hFx⟩⟩)) fun v H4 k4 hp => ?_) (fun H4 hA hR => ?_) (fun H4 hA k4 => EK.imp (ev 2) fun v H5 k5 e => ⟨a, e, hA.ex k5, .inl rfl⟩) (fun H4 hR k4 => ?_) (fun p hp => oldA hp) (fun p hp => oldR (List.mem_filter.mp hp).1) fun v H' k4 h => hend (due := if room ∈ F.rooms then "" else "no such") (Out := fun F' v H' => (room ∉ F.rooms ∧ F' = F ∧ v = .str "no such") ∨ (room ∈ F.rooms ∧ ToldAt B H' v F.heldL F')) k4 h fun F' told ho => ?_
    · rcases hp with ⟨hm, e, hFx⟩ | ⟨hm, F', g1, g2, g3, hFx, htold⟩
      · exact ⟨F, hFx, g, rfl, (hfilt hm).symm, .inl ⟨hm, rfl, e⟩⟩
      · exact ⟨F', hFx, g1, g2, g3, .inr ⟨hm, htold⟩⟩
    · obtain ⟨kvs, q1, q2, q3, q4, q5, q6⟩ := hR.kvs g.ok
      by_cases hm : room ∈ F.rooms
      · rw [if_pos hm]
        exact e_ifF (T.is (t_k (c_dnotin (ev 7) (ev 3) (.inl ⟨kvs, Sum.inr room, .inl q1, rfl, rfl⟩))) (by rw [q6, decide_eq_true hm]; rfl)) e_str
      · rw [if_neg hm]
        exact e_ifT (T.is (t_k (c_dnotin (ev 7) (ev 3) (.inl ⟨kvs, Sum.inr room, .inl q1, rfl, rfl⟩))) (by rw [q6, decide_eq_false hm]; rfl)) e_str
    · obtain ⟨kvs, q1, q2, q3, q4, q5, q6⟩ := hR.kvs g.ok
      refine EK.imp (e_dictK [("each", 10)] TL.dict q1 (fun od => ev 3) (fun kv => !decide (kv.1 = Sum.inr room)) (fun kv => kv.1) (fun kv => kv.2) (by omega) fun od kv H5 hk k5 => ⟨_, eg_name 10, rfl, ts_one (t_k (CM.is (c_ne (key_dec (one := room) (kv_inr q3 hk)).1 (ev 10) (ev 7)) (by rw [(key_dec (one := room) (kv_inr q3 hk)).2]))), fun _ => ⟨ev 10, e_dget (ev 3) (ev 10) (.inl ⟨kvs, kv.1, .inr ⟨od, k5.xat upd_same⟩, rfl, (valV_mem q4 hk).symm⟩)⟩⟩) fun v H5 k5 ⟨l, e, n, h⟩ => ⟨l, e, ⟨_, by rw [h, mrg_filter q4], paired_filter (paired_imp q2 fun p kv ⟨e1, t1, l1, e2, h1, h2⟩ => ⟨e1, t1, l1, e2, ex_t k5 h1, k5.xat h2⟩) fun p kv ⟨e1, _⟩ => ?_⟩, .inr n⟩
      rw [e1]
      by_cases e : p.1 = room <;> simp [e]
    · rcases ho with ⟨hm, e1, e2⟩ | ⟨hm, h⟩
      · rw [if_neg hm]
        exact .inl ⟨by decide, by decide +kernel, e1, e2⟩
      · rw [if_pos hm]
        exact .inr ⟨rfl, h⟩
end
end Pm
end
/-! ## M5 -/
section
set_option Elab.async false
set_option linter.all false
set_option maxRecDepth 100000
set_option maxHeartbeats 4000000
namespace Pm
/-! ### the same asking, by numbers -/
section
variable {ρ : Type} {p : ρ → Bool}
theorem filt_inv : ∀ {l : List ρ} {i : Nat} {r : ρ}, (l.filter p)[i]? = some r → ∃ j, l[j]? = some r ∧ p r = true ∧ ((l.take j).filter p).length = i
  | [], i, r, h => by simp at h
  | x :: l, i, r, h => by
    rw [List.filter_cons] at h
    cases hx : p x with
    | true =>
      rw [hx, if_pos rfl] at h
      cases i with
      | zero =>
        have : x = r := by simpa using h
        subst this
        exact ⟨0, rfl, hx, rfl⟩
      | succ i =>
        obtain ⟨j, h1, h2, h3⟩ := filt_inv (l := l) (i := i) (r := r) (by simpa using h)
        exact ⟨j + 1, by simpa using h1, h2, by rw [List.take_succ_cons, List.filter_cons, hx, if_pos rfl, List.length_cons, h3]⟩
    | false =>
      rw [hx] at h
      obtain ⟨j, h1, h2, h3⟩ := filt_inv (l := l) (i := i) (r := r) (by simpa using h)
      exact ⟨j + 1, by simpa using h1, h2, by rw [List.take_succ_cons, List.filter_cons, hx]; simpa using h3⟩
theorem filt_ix : ∀ {l : List ρ} {j : Nat} {r : ρ}, l[j]? = some r → p r = true → (l.filter p)[((l.take j).filter p).length]? = some r
  | [], j, r, h, _ => by simp at h
  | x :: l, 0, r, h, hp => by
    have : x = r := by simpa using h
    subst this
    rw [List.filter_cons, hp]
    simp
  | x :: l, j + 1, r, h, hp => by
    have ih := filt_ix (l := l) (j := j) (r := r) (by simpa using h) hp
    rw [List.take_succ_cons, List.filter_cons, List.filter_cons]
    cases hx : p x with
    | true => simpa using ih
    | false => simpa using ih
theorem cnt_mono {l : List ρ} {m n : Nat} (h : m ≤ n) : ((l.take m).filter p).length ≤ ((l.take n).filter p).length := by
  have : l.take m = (l.take n).take m := by rw [List.take_take, Nat.min_eq_left h]
  rw [this]
  exact List.Sublist.length_le (List.Sublist.filter p (List.take_sublist m _))
theorem cnt_lt {l : List ρ} {j n : Nat} {r : ρ} (h : l[j]? = some r) (hp : p r = true) : ((l.take j).filter p).length < ((l.take n).filter p).length ↔ j < n := by
  constructor
  · intro hl
    refine Nat.lt_of_not_le fun z => ?_
    have := cnt_mono (p := p) (l := l) z
    omega
  · intro hl
    have h1 := cnt_mono (p := p) (l := l) (show j + 1 ≤ n from hl)
    have h2 : ((l.take (j + 1)).filter p).length = ((l.take j).filter p).length + 1 := by
      rw [List.take_add_one, h, List.filter_append]
      simp [hp]
    omega
theorem idx_filter {ρ : Type} [DecidableEq ρ] {p : ρ → Bool} {x y : ρ} : ∀ {l : List ρ}, x ∈ l → p x = true → p y = true → ((l.filter p).idxOf x < (l.filter p).idxOf y ↔ l.idxOf x < l.idxOf y)
  | [], h, _, _ => by cases h
  | z :: l, h, hx, hy => by
    rw [List.filter_cons]
    have e : ∀ (w : ρ) (l : List ρ), (z :: l).idxOf w = if z = w then 0 else l.idxOf w + 1 := fun w l => by
      rw [List.idxOf_cons]
      by_cases h : z = w
      · simp [h]
      · have : (z == w) = false := by simpa using h
        rw [this]
        simp [h]
    cases hz : p z with
    | true =>
      rw [if_pos rfl, e x, e y, e x, e y]
      by_cases h1 : z = x
      · rw [if_pos h1, if_pos h1]
        by_cases h2 : z = y
        · rw [if_pos h2, if_pos h2]
        · rw [if_neg h2, if_neg h2]
          omega
      · rw [if_neg h1, if_neg h1]
        have hx' : x ∈ l := (List.mem_cons.mp h).resolve_left (Ne.symm h1)
        by_cases h2 : z = y
        · rw [if_pos h2, if_pos h2]
          omega
        · rw [if_neg h2, if_neg h2]
          have := idx_filter (l := l) hx' hx hy
          omega
    | false =>
      have h1 : ¬ z = x := fun w => by rw [w, hx] at hz; cases hz
      have h2 : ¬ z = y := fun w => by rw [w, hy] at hz; cases hz
      rw [e x, e y, if_neg h1, if_neg h2]
      have hx' : x ∈ l := (List.mem_cons.mp h).resolve_left (Ne.symm h1)
      have := idx_filter (l := l) hx' hx hy
      simpa using this
end
section
variable {α ρ : Type} [DecidableEq α] [DecidableEq ρ]
theorem idxOf_at {xs : List α} (nd : xs.Nodup) {i : Nat} {x : α} (h : xs[i]? = some x) : xs.idxOf x = i := by
  have hm : x ∈ xs := List.mem_of_getElem? h
  refine nodup_inj nd ?_ h
  rw [List.getElem?_eq_getElem (List.idxOf_lt_length_iff.mpr hm)]
  exact congrArg some (List.getElem_idxOf _)
theorem at_idxOf {xs : List α} {x : α} (h : x ∈ xs) : xs[xs.idxOf x]? = some x := by
  rw [List.getElem?_eq_getElem (List.idxOf_lt_length_iff.mpr h)]
  exact congrArg some (List.getElem_idxOf _)
/-- M' is M by the places in As, Rs -/
structure Iso (M : DM α ρ) (M' : DM Nat Nat) (As : List α) (Rs : List ρ) : Prop where
  nA : As.Nodup
  nR : Rs.Nodup
  L : ∀ i a, As[i]? = some a → M'.L i = ((M.L a).filter fun r => decide (r ∈ Rs)).map Rs.idxOf
  L0 : ∀ i, As[i]? = none → M'.L i = []
  out : ∀ a, a ∉ As → M.L a = []
  open_ : ∀ a r, M.acc a r = true → r ∈ Rs
  acc : ∀ i a k r, As[i]? = some a → Rs[k]? = some r → M'.acc i k = M.acc a r
  rk : ∀ i a j b k r, As[i]? = some a → As[j]? = some b → Rs[k]? = some r → M.acc a r = true → M.acc b r = true → (M'.rk k i < M'.rk k j ↔ M.rk r a < M.rk r b)
  q : ∀ k r, Rs[k]? = some r → M'.q k = M.q r
def isoH (h : α → Option ρ) (As : List α) (Rs : List ρ) : Nat → Option Nat := fun i => match As[i]? with
  | some a => (h a).map Rs.idxOf
  | none => none
def isoN (M : DM α ρ) (n : α → Nat) (As : List α) (Rs : List ρ) : Nat → Nat := fun i => match As[i]? with
  | some a => (((M.L a).take (n a)).filter fun r => decide (r ∈ Rs)).length
  | none => 0
variable {M : DM α ρ} {M' : DM Nat Nat} {As : List α} {Rs : List ρ} {h : α → Option ρ} {n : α → Nat}
theorem Iso.at (I : Iso M M' As Rs) {i k : Nat} {a : α} {m : Nat} (ha : As[i]? = some a) (h : (M'.L i)[m]? = some k) : ∃ j r, (M.L a)[j]? = some r ∧ Rs[k]? = some r ∧ r ∈ Rs ∧ (((M.L a).take j).filter fun r => decide (r ∈ Rs)).length = m := by
  rw [I.L i a ha, List.getElem?_map] at h
  cases hx : ((M.L a).filter fun r => decide (r ∈ Rs))[m]? with
  | none => rw [hx] at h; cases h
  | some r =>
    rw [hx] at h
    have hk : Rs.idxOf r = k := Option.some.inj h
    obtain ⟨j, h1, h2, h3⟩ := filt_inv hx
    have hr : r ∈ Rs := of_decide_eq_true h2
    exact ⟨j, r, h1, by rw [← hk]; exact at_idxOf hr, hr, h3⟩
theorem Iso.to (I : Iso M M' As Rs) {i : Nat} {a : α} {j : Nat} {r : ρ} (ha : As[i]? = some a) (hj : (M.L a)[j]? = some r) (hr : r ∈ Rs) : (M'.L i)[(((M.L a).take j).filter fun r => decide (r ∈ Rs)).length]? = some (Rs.idxOf r) := by
  rw [I.L i a ha, List.getElem?_map, filt_ix hj (decide_eq_true hr)]
  rfl
theorem isoH_some (h : α → Option ρ) (nR : Rs.Nodup) {i k : Nat} {a : α} {r : ρ} (ha : As[i]? = some a) (hk : Rs[k]? = some r) (hh : ∀ x, h a = some x → x ∈ Rs) : isoH h As Rs i = some k ↔ h a = some r := by
  unfold isoH
  rw [ha]
  show (h a).map Rs.idxOf = some k ↔ _
  cases e : h a with
  | none => simp
  | some x =>
    constructor
    · intro z
      have z : Rs.idxOf x = k := Option.some.inj z
      have := at_idxOf (hh x e)
      rw [z, hk] at this
      rw [Option.some.inj this]
    · intro z
      cases z
      exact congrArg some (idxOf_at nR hk)
theorem Val.iso (v : Val M h n) (nd : ∀ a, (M.L a).Nodup) (I : Iso M M' As Rs) : Val M' (isoH h As Rs) (isoN M n As Rs) := by
  have hRs : ∀ a x, h a = some x → x ∈ Rs := fun a x e => by
    obtain ⟨_, _, _, h3⟩ := v.held a x e
    exact I.open_ a x h3
  have hAs : ∀ a x, h a = some x → a ∈ As := fun a x e => by
    obtain ⟨_, _, h2, _⟩ := v.held a x e
    refine Classical.byContradiction fun z => ?_
    rw [I.out a z] at h2
    simp at h2
  have nAt : ∀ {i a}, As[i]? = some a → isoN M n As Rs i = (((M.L a).take (n a)).filter fun r => decide (r ∈ Rs)).length := fun {i a} ha => by
    unfold isoN
    rw [ha]
  have memL : ∀ {s r}, r ∈ M.L s → s ∈ As := fun {s r} hr => by
    refine Classical.byContradiction fun z => ?_
    rw [I.out s z] at hr
    cases hr
  have rj : ∀ {a r}, Rej (fun b => (M.L b).take (n b)) M.acc M.rk M.q a r → ∀ {i k}, As[i]? = some a → Rs[k]? = some r → Rej (fun i => (M'.L i).take (isoN M n As Rs i)) M'.acc M'.rk M'.q i k := fun {a r} hr => by
    induction hr with
    | no h1 =>
      intro i k hi hk
      exact .no (by rw [I.acc i _ k _ hi hk]; exact h1)
    | @full a r S j nS lS hS hE ih =>
      intro i k hi hk
      cases hac : M.acc a r with
      | false => exact .no (by rw [I.acc i a k r hi hk]; exact hac)
      | true =>
        have hrR : r ∈ Rs := List.mem_of_getElem? hk
        have sA : ∀ s ∈ S, s ∈ As := fun s hs => memL (List.mem_of_mem_take (List.mem_of_getElem? (hS s hs).2.2))
        have full : ∀ s ∈ S, j s < n s ∧ (M.L s)[j s]? = some r := fun s hs => by
          have := (hS s hs).2.2
          rw [List.getElem?_take] at this
          split at this
          · exact ⟨‹_›, this⟩
          · cases this
        refine .full (S.map As.idxOf) (fun i => match As[i]? with
          | some s => (((M.L s).take (j s)).filter fun r => decide (r ∈ Rs)).length
          | none => 0) ?_ (by rw [List.length_map, lS, I.q k r hk]) (fun i' hi' => ?_) fun i' hi' m k' hm hk' => ?_
        · refine List.pairwise_map.mpr (List.Pairwise.imp_of_mem (fun {x y} hx hy ne e => ne ?_) nS)
          have e1 := at_idxOf (sA x hx)
          rw [e, at_idxOf (sA y hy)] at e1
          exact (Option.some.inj e1).symm
        · obtain ⟨s, hs, rfl⟩ := List.mem_map.mp hi'
          have hat := at_idxOf (sA s hs)
          obtain ⟨f1, f2⟩ := full s hs
          refine ⟨by rw [I.acc _ s k r hat hk]; exact (hS s hs).1, (I.rk _ s i a k r hat hi hk (hS s hs).1 hac).mpr (hS s hs).2.1, ?_⟩
          show ((M'.L (As.idxOf s)).take (isoN M n As Rs (As.idxOf s)))[(match As[As.idxOf s]? with
            | some s => (((M.L s).take (j s)).filter fun r => decide (r ∈ Rs)).length
            | none => 0)]? = some k
          rw [hat, nAt hat, List.getElem?_take, if_pos ((cnt_lt f2 (decide_eq_true hrR)).mpr f1), I.to hat f2 hrR, idxOf_at I.nR hk]
        · obtain ⟨s, hs, rfl⟩ := List.mem_map.mp hi'
          have hat := at_idxOf (sA s hs)
          obtain ⟨f1, f2⟩ := full s hs
          have hm : m < (((M.L s).take (j s)).filter fun r => decide (r ∈ Rs)).length := by
            have hm : m < (match As[As.idxOf s]? with
              | some s => (((M.L s).take (j s)).filter fun r => decide (r ∈ Rs)).length
              | none => 0) := hm
            rw [hat] at hm
            exact hm
          have hk'' : (M'.L (As.idxOf s))[m]? = some k' := by
            have hk' : ((M'.L (As.idxOf s)).take (isoN M n As Rs (As.idxOf s)))[m]? = some k' := hk'
            rw [List.getElem?_take] at hk'
            split at hk'
            · exact hk'
            · cases hk'
          obtain ⟨m', r', g1, g2, g3, g4⟩ := I.at hat hk''
          have hlt : m' < j s := (cnt_lt g1 (decide_eq_true g3)).mp (by rw [g4]; exact hm)
          exact ih s hs m' r' hlt (by rw [List.getElem?_take, if_pos (by omega)]; exact g1) hat g2
  have old : ∀ {i m k a}, As[i]? = some a → m < isoN M n As Rs i → (M'.L i)[m]? = some k → isoH h As Rs i ≠ some k → ∃ j r, (M.L a)[j]? = some r ∧ Rs[k]? = some r ∧ j < n a ∧ h a ≠ some r := fun {i m k a} ha hm hk hne => by
    obtain ⟨j, r, g1, g2, g3, g4⟩ := I.at ha hk
    rw [nAt ha] at hm
    refine ⟨j, r, g1, g2, (cnt_lt g1 (decide_eq_true g3)).mp (by rw [g4]; exact hm), fun z => hne ?_⟩
    exact (isoH_some h I.nR ha g2 (hRs a)).mpr z
  have some_of : ∀ {i k}, isoH h As Rs i = some k → ∃ a r, As[i]? = some a ∧ Rs[k]? = some r ∧ h a = some r := fun {i k} e => by
    have e0 := e
    unfold isoH at e
    cases ha : As[i]? with
    | none => rw [ha] at e; cases e
    | some a =>
      rw [ha] at e
      cases hx : h a with
      | none =>
        have e : (h a).map Rs.idxOf = some k := e
        rw [hx] at e
        cases e
      | some x =>
        have e : (h a).map Rs.idxOf = some k := e
        rw [hx] at e
        have e : Rs.idxOf x = k := Option.some.inj e
        exact ⟨a, x, rfl, by rw [← e]; exact at_idxOf (hRs a x hx), hx⟩
  refine ⟨fun i => ?_, fun i k e => ?_, fun k S nS hS => ?_, fun i m k hm hk hne => ?_, fun i m k hm hk hne => ?_⟩
  · cases ha : As[i]? with
    | none =>
      unfold isoN
      rw [ha]
      exact Nat.zero_le _
    | some a =>
      rw [nAt ha, I.L i a ha, List.length_map]
      have := cnt_mono (p := fun r => decide (r ∈ Rs)) (l := M.L a) (v.le a)
      rwa [List.take_length] at this
  · obtain ⟨a, r, ha, hk, hh⟩ := some_of e
    obtain ⟨j, h1, h2, h3⟩ := v.held a r hh
    have hr : r ∈ Rs := List.mem_of_getElem? hk
    refine ⟨(((M.L a).take j).filter fun r => decide (r ∈ Rs)).length, ?_, ?_, by rw [I.acc i a k r ha hk]; exact h3⟩
    · rw [nAt ha, h1, List.take_add_one, h2, List.filter_append]
      simp [hr]
    · rw [I.to ha h2 hr, idxOf_at I.nR hk]
  · cases hkR : Rs[k]? with
    | none =>
      cases S with
      | nil => exact Nat.zero_le _
      | cons i S =>
        obtain ⟨a, r, _, hk, _⟩ := some_of (hS i (by simp))
        rw [hkR] at hk
        cases hk
    | some r =>
      rw [I.q k r hkR]
      have key : ∀ i ∈ S, ∃ a, As[i]? = some a ∧ h a = some r := fun i hi => by
        obtain ⟨a, r', ha, hk, hh⟩ := some_of (hS i hi)
        rw [hkR] at hk
        cases hk
        exact ⟨a, ha, hh⟩
      have := v.cap r (S.filterMap fun i => As[i]?) (by
        refine List.Pairwise.filterMap _ (fun i j hij a ha b hb e => ?_) nS
        subst e
        exact hij (nodup_inj I.nA ha hb)) fun s hs => by
        obtain ⟨i, hi, e⟩ := List.mem_filterMap.mp hs
        obtain ⟨a, ha, hh⟩ := key i hi
        rw [ha] at e
        cases e
        exact hh
      have hl : (S.filterMap fun i => As[i]?).length = S.length := by
        clear this nS hS
        induction S with
        | nil => rfl
        | cons i S ih =>
          obtain ⟨a, ha, _⟩ := key i (by simp)
          rw [List.filterMap_cons, ha]
          simp only [List.length_cons]
          rw [ih fun i hi => key i (List.mem_cons_of_mem _ hi)]
      omega
  · cases ha : As[i]? with
    | none =>
      unfold isoN at hm
      rw [ha] at hm
      cases hm
    | some a =>
      obtain ⟨j, r, g1, g2, g3, g4⟩ := old ha hm hk hne
      exact rj (v.rej a j r g3 g1 g4) ha g2
  · cases ha : As[i]? with
    | none =>
      unfold isoN at hm
      rw [ha] at hm
      cases hm
    | some a =>
      obtain ⟨j, r, g1, g2, g3, g4⟩ := old ha hm hk hne
      rw [I.acc i a k r ha g2]
      cases hac : M.acc a r with
      | false => exact .inl rfl
      | true =>
        rcases v.gone a j r g3 g1 g4 with g | ⟨⟨S, nS, lS, hS⟩, g⟩
        · rw [hac] at g
          cases g
        · refine .inr ⟨⟨S.map As.idxOf, ?_, by rw [List.length_map, lS, I.q k r g2], fun i' hi' => ?_⟩, fun i' hi' => ?_⟩
          · refine List.pairwise_map.mpr (List.Pairwise.imp_of_mem (fun {x y} hx hy ne e => ne ?_) nS)
            have e1 := at_idxOf (hAs x r (hS x hx))
            rw [e, at_idxOf (hAs y r (hS y hy))] at e1
            exact (Option.some.inj e1).symm
          · obtain ⟨s, hs, rfl⟩ := List.mem_map.mp hi'
            exact (isoH_some h I.nR (at_idxOf (hAs s r (hS s hs))) g2 (hRs s)).mpr (hS s hs)
          · obtain ⟨s, r', hs, hk', hh⟩ := some_of hi'
            rw [g2] at hk'
            cases hk'
            obtain ⟨_, _, _, h3⟩ := v.held s r hh
            exact (I.rk i' s i a k r hs ha g2 h3 hac).mpr (g s hh)
theorem Fin.iso (f : Fin M h n) (I : Iso M M' As Rs) (hle : ∀ a, n a ≤ (M.L a).length) (hRs : ∀ a x, h a = some x → x ∈ Rs) : Fin M' (isoH h As Rs) (isoN M n As Rs) := fun i hi => by
  unfold isoH at hi
  unfold isoN
  cases ha : As[i]? with
  | none =>
    rw [I.L0 i ha]
    rfl
  | some a =>
    rw [ha] at hi
    have hi : (h a).map Rs.idxOf = none := hi
    have hn : h a = none := by
      cases hx : h a with
      | none => rfl
      | some x => rw [hx] at hi; cases hi
    show (((M.L a).take (n a)).filter _).length = _
    rw [I.L i a ha, f a hn, List.take_length, List.length_map]
end
end Pm
end
/-! ## M6 -/
section
set_option Elab.async false
set_option linter.all false
set_option maxRecDepth 100000
set_option maxHeartbeats 4000000
namespace Pm
open PySem L2
/-! ### the numbered market: runs, rows -/
def NM (M : Mkt) : DM Nat Nat := ⟨M.La, fun a r => decide (a ∈ M.Lr r), fun r a => (M.Lr r).idxOf a, M.qs⟩
def hN (s : ASt) : Nat → Option Nat := fun a => s.hd.getD a none
def nN (s : ASt) : Nat → Nat := fun a => s.nx.getD a 0
theorem mem_inN {mt : List (Option Nat)} {r w : Nat} : w ∈ inN mt r ↔ mt[w]? = some (some r) := by
  unfold inN
  rw [List.mem_map]
  constructor
  · rintro ⟨p, hp, rfl⟩
    obtain ⟨h1, h2⟩ := List.mem_filter.mp hp
    have := List.mem_zipIdx_iff_getElem?.mp h1
    rw [of_decide_eq_true h2] at this
    simpa using this
  · intro h
    exact ⟨(some r, w), List.mem_filter.mpr ⟨List.mem_zipIdx_iff_getElem?.mpr (by simpa using h), by simp⟩, rfl⟩
theorem nd_inN {mt : List (Option Nat)} {r : Nat} : (inN mt r).Nodup := by
  unfold inN
  have h : (mt.zipIdx.map fun p => p.2).Nodup := by
    have e : (mt.zipIdx.map fun p => p.2) = List.range mt.length := by
      rw [List.zipIdx_map_snd 0 mt]
      exact (List.range_eq_range' ..).symm
    rw [e]
    exact List.nodup_range
  exact h.sublist (List.Sublist.map _ List.filter_sublist)
theorem inN_hN {s : ASt} {r w : Nat} : w ∈ inN s.hd r ↔ hN s w = some r := by
  rw [mem_inN]
  unfold hN
  rw [List.getD_eq_getElem?_getD]
  cases s.hd[w]? with
  | none => simp
  | some o => simp
theorem La_nd {M : Mkt} (ok : M.Ok) (a : Nat) : (M.La a).Nodup := by
  unfold Mkt.La
  rw [List.getD_eq_getElem?_getD]
  cases h : M.A[a]? with
  | none => simp
  | some l => exact (ok.an l (List.mem_of_getElem? h)).1
theorem La_lt {M : Mkt} (ok : M.Ok) {a r : Nat} (hr : r ∈ M.La a) : a < M.A.length ∧ r < M.R.length := by
  unfold Mkt.La at hr
  rw [List.getD_eq_getElem?_getD] at hr
  cases h : M.A[a]? with
  | none => rw [h] at hr; cases hr
  | some l =>
    rw [h] at hr
    exact ⟨(List.getElem?_eq_some_iff.mp h).1, (ok.an l (List.mem_of_getElem? h)).2.1 r hr⟩
theorem Lr_lt {M : Mkt} (ok : M.Ok) {a r : Nat} (hr : a ∈ M.Lr r) : a < M.A.length := by
  unfold Mkt.Lr at hr
  rw [List.getD_eq_getElem?_getD] at hr
  cases h : M.R[r]? with
  | none => rw [h] at hr; cases hr
  | some l =>
    rw [h] at hr
    exact (ok.rn l (List.mem_of_getElem? h)).2.1 a hr
theorem getD_set {α : Type} {xs : List α} {i j : Nat} {x d : α} (h : i < xs.length) : (xs.set i x).getD j d = if j = i then x else xs.getD j d := by
  rw [List.getD_eq_getElem?_getD, List.getD_eq_getElem?_getD]
  by_cases e : j = i
  · subst e
    rw [List.getElem?_set_self h, if_pos rfl]
    rfl
  · rw [List.getElem?_set_ne (Ne.symm e), if_neg e]
/-- what the steps tell: the refusals, one by one -/
structure RInv (M : Mkt) (s : ASt) (rows : List (Nat × Nat × List Nat)) : Prop where
  v : Val (NM M) (hN s) (nN s)
  rp : replay M.A.length s.st = (s.hd, rows)
  ok : ∀ i x, rows[i]? = some x → RowOk M (kys (rows.take i)) x
  a : ∀ a i r, i < nN s a → (M.La a)[i]? = some r → hN s a ≠ some r → (a, r) ∈ kys rows
  b : ∀ a r, (a, r) ∈ kys rows → ∃ i, i < nN s a ∧ (M.La a)[i]? = some r ∧ hN s a ≠ some r
  nd : (kys rows).Nodup
theorem ahead_mem {M : Mkt} {a r o : Nat} (nd : (M.La a).Nodup) {j : Nat} (hj : (M.La a)[j]? = some r) : o ∈ aheadW (M.La a) (some r) ↔ ∃ i, i < j ∧ (M.La a)[i]? = some o := by
  have hm : r ∈ M.La a := List.mem_of_getElem? hj
  have he : aheadW (M.La a) (some r) = (M.La a).take j := by
    unfold aheadW rkW
    simp only [hm, if_true]
    rw [idxOf_at nd hj]
  rw [he]
  constructor
  · intro h
    obtain ⟨i, hi, e⟩ := List.getElem_of_mem h
    have hi' : i < j := by
      rw [List.length_take] at hi
      omega
    refine ⟨i, hi', ?_⟩
    have : ((M.La a).take j)[i]? = some o := by rw [List.getElem?_eq_getElem hi, e]
    rw [List.getElem?_take, if_pos hi'] at this
    exact this
  · rintro ⟨i, hi, e⟩
    refine List.mem_of_getElem? (i := i) ?_
    rw [List.getElem?_take, if_pos hi]
    exact e
/-- a row of holders by right -/
theorem row_ok {M : Mkt} (ok : M.Ok) {gs : List (Nat × Nat)} {u r : Nat} {Hs : List Nat} (hr : r < M.R.length) (hu : u < M.A.length) (hHs : ∀ s ∈ Hs, ∃ j : Nat, (M.La s)[j]? = some r ∧ s ∈ M.Lr r ∧ ∀ (i o : Nat), i < j → (M.La s)[i]? = some o → (s, o) ∈ gs)
    (hlen : Hs.length ≤ 1000) (hq : u ∈ M.Lr r → Hs.length = M.qs r ∧ Hs.Nodup ∧ ∀ s ∈ Hs, (M.Lr r).idxOf s < (M.Lr r).idxOf u) : RowOk M gs (u, r, Hs) := by
  refine ⟨hu, hr, fun s hs => ?_, hlen, fun hm => ?_⟩
  · obtain ⟨j, h1, h2, _⟩ := hHs s hs
    exact Lr_lt ok h2
  · obtain ⟨q1, q2, q3⟩ := hq hm
    refine ⟨q1, q2, fun s hs => ?_⟩
    obtain ⟨j, h1, h2, h3⟩ := hHs s hs
    have hm : u ∈ M.Lr r := hm
    show hbr M gs s r u = true
    unfold hbr
    simp only [Bool.and_eq_true, List.all_eq_true, decide_eq_true_eq]
    refine ⟨⟨?_, ?_⟩, fun o ho => ?_⟩
    · unfold Mkt.likes
      simp [List.mem_of_getElem? h1, h2]
    · unfold betterW rkW
      simp only [h2, hm, if_true]
      simpa using q3 s hs
    · obtain ⟨i, hi, e⟩ := (ahead_mem (La_nd ok s) h1).mp ho
      exact h3 i o hi e
theorem kys_app {rows : List (Nat × Nat × List Nat)} {x : Nat × Nat × List Nat} : kys (rows ++ [x]) = kys rows ++ [(x.1, x.2.1)] := by
  unfold kys
  rw [List.map_append]
  rfl
theorem rows_app {M : Mkt} {rows : List (Nat × Nat × List Nat)} {x : Nat × Nat × List Nat} (h : ∀ i y, rows[i]? = some y → RowOk M (kys (rows.take i)) y) (hx : RowOk M (kys rows) x) : ∀ i y, (rows ++ [x])[i]? = some y → RowOk M (kys ((rows ++ [x]).take i)) y := fun i y hy => by
  by_cases hi : i < rows.length
  · rw [List.getElem?_append_left hi] at hy
    rw [List.take_append_of_le_length (Nat.le_of_lt hi)]
    exact h i y hy
  · have he : i = rows.length := by
      have := (List.getElem?_eq_some_iff.mp hy).1
      rw [List.length_append, List.length_singleton] at this
      omega
    subst he
    rw [List.getElem?_append_right (Nat.le_refl _)] at hy
    have : x = y := by simpa using hy
    rw [← this, List.take_left']
    · exact hx
    · rfl
theorem RInv.init {M : Mkt} : RInv M (ASt.init M) [] := by
  have h1 : hN (ASt.init M) = fun _ => none := funext fun a => by
    show (List.replicate M.A.length none).getD a none = none
    rw [List.getD_eq_getElem?_getD, List.getElem?_replicate]
    split <;> rfl
  have h2 : nN (ASt.init M) = fun _ => 0 := funext fun a => by
    show (List.replicate M.A.length 0).getD a 0 = 0
    rw [List.getD_eq_getElem?_getD, List.getElem?_replicate]
    split <;> rfl
  refine ⟨?_, rfl, fun i x h => by simp at h, fun a i r hi => ?_, fun a r h => (nomatch h), List.nodup_nil⟩
  · rw [h1, h2]
    exact ⟨fun a => Nat.zero_le _, fun a r h => (nomatch h), fun r S nS hS => by
      cases S with
      | nil => exact Nat.zero_le _
      | cons s S => exact absurd (hS s (by simp)) (by intro h; cases h), fun a i r hi => absurd hi (Nat.not_lt_zero _), fun a i r hi => absurd hi (Nat.not_lt_zero _)⟩
  · rw [h2] at hi
    exact absurd hi (Nat.not_lt_zero _)
theorem RInv.add {M : Mkt} {s s' : ASt} {rows : List (Nat × Nat × List Nat)} {a u r : Nat} (I : RInv M s rows) (v' : Val (NM M) (hN s') (nN s')) (est : s'.st = s.st ++ [(a, r, some u)]) (ehd : s'.hd = heldAfter s.hd a r (some u)) (hu1 : ∃ i, i < nN s' u ∧ (M.La u)[i]? = some r ∧ hN s' u ≠ some r)
    (hnew : ∀ b i x, i < nN s' b → (M.La b)[i]? = some x → hN s' b ≠ some x → (b = u ∧ x = r) ∨ (i < nN s b ∧ hN s b ≠ some x)) (hold : ∀ b i x, i < nN s b → (M.La b)[i]? = some x → hN s b ≠ some x → hN s' b ≠ some x ∧ i < nN s' b) (hnot : (u, r) ∉ kys rows) (hrow : RowOk M (kys rows) (u, r, inN s'.hd r)) : RInv M s' (rows ++ [(u, r, inN s'.hd r)]) := by
  refine ⟨v', ?_, rows_app I.ok hrow, fun b i x hi hx hb => ?_, fun b x hb => ?_, ?_⟩
  · unfold replay
    rw [est, List.foldl_append]
    have : List.foldl repl1 (List.replicate M.A.length none, []) s.st = (s.hd, rows) := I.rp
    rw [this]
    show repl1 (s.hd, rows) (a, r, some u) = _
    unfold repl1
    simp only
    rw [← ehd]
  · rw [kys_app, List.mem_append]
    rcases hnew b i x hi hx hb with ⟨e1, e2⟩ | ⟨e1, e2⟩
    · right
      rw [e1, e2]
      simp
    · exact .inl (I.a b i x e1 hx e2)
  · rw [kys_app, List.mem_append] at hb
    rcases hb with z | z
    · obtain ⟨i, h1, h2, h3⟩ := I.b b x z
      obtain ⟨h4, h5⟩ := hold b i x h1 h2 h3
      exact ⟨i, h5, h2, h4⟩
    · have z : (b, x) = (u, r) := List.mem_singleton.mp z
      cases z
      exact hu1
  · rw [kys_app, List.nodup_append]
    refine ⟨I.nd, by simp, fun y hy z hz => ?_⟩
    have hz : z = (u, r) := List.mem_singleton.mp hz
    rw [hz]
    exact fun e => hnot (e ▸ hy)
theorem RInv.step {M : Mkt} (ok : M.Ok) {s s' : ASt} {rows : List (Nat × Nat × List Nat)} {a : Nat} (I : RInv M s rows) (hl1 : s.hd.length = M.A.length) (hl2 : s.nx.length = M.A.length) (st : AskStep M s a s') : ∃ rows', RInv M s' rows' := by
  obtain ⟨r, f, i, ⟨ha, hnone, i', hi', hr⟩, hi, hf, e1, e2, e3⟩ := st
  rw [hi] at hi'
  cases hi'
  have hnd : ∀ b, ((NM M).L b).Nodup := fun b => La_nd ok b
  have hah : a < s.hd.length := by omega
  have han : a < s.nx.length := by omega
  have hnN : nN s a = i := by
    unfold nN
    rw [List.getD_eq_getElem?_getD, hi]
    rfl
  have hhN : hN s a = none := by
    unfold hN
    rw [List.getD_eq_getElem?_getD, hnone]
    rfl
  have hr' : ((NM M).L a)[nN s a]? = some r := by rw [hnN]; exact hr
  obtain ⟨_, hrR⟩ := La_lt ok (List.mem_of_getElem? hr)
  have nB : nN s' = bump (nN s) a := funext fun b => by
    unfold nN bump
    rw [e1, getD_set han]
    by_cases e : b = a
    · rw [if_pos e, if_pos e]
      show i + 1 = nN s a + 1
      rw [hnN]
    · rw [if_neg e, if_neg e]
  have hdm : ∀ x, x ∈ inN s.hd r ↔ hN s x = some r := fun x => inN_hN
  have hcap : (inN s.hd r).length ≤ M.qs r := I.v.cap r _ nd_inN fun x hx => (hdm x).mp hx
  have hheld : ∀ x, hN s x = some r → ∃ j, nN s x = j + 1 ∧ (M.La x)[j]? = some r ∧ x ∈ M.Lr r := fun x hx => by
    obtain ⟨j, h1, h2, h3⟩ := I.v.held x r hx
    exact ⟨j, h1, h2, of_decide_eq_true h3⟩
  have hl1000 : ∀ {Hs : List Nat}, Hs.Nodup → (∀ x ∈ Hs, x < M.A.length) → Hs.length ≤ 1000 := fun {Hs} n h => by
    have := nodup_sub_len (T := List.range M.A.length) n fun x hx => List.mem_range.mpr (h x hx)
    rw [List.length_range] at this
    have := ok.sa
    omega
  have hna : (a, r) ∉ kys rows := fun h => by
    obtain ⟨j, h1, h2, _⟩ := I.b a r h
    have := nodup_inj (hnd a) h2 hr
    omega
  -- where a itself is refused
  have selfRow : s'.st = s.st ++ [(a, r, some a)] → s'.hd = s.hd → Val (NM M) (hN s) (bump (nN s) a) → (a ∈ M.Lr r → (inN s.hd r).length = M.qs r ∧ ∀ x ∈ inN s.hd r, (M.Lr r).idxOf x < (M.Lr r).idxOf a) → ∃ rows', RInv M s' rows' := fun est ehd v' hq => by
    have eh : hN s' = hN s := funext fun b => by unfold hN; rw [ehd]
    have eH : heldAfter s.hd a r (some a) = s.hd := by unfold heldAfter; rw [if_pos rfl]
    refine ⟨_, RInv.add (a := a) (u := a) I (by rw [eh, nB]; exact v') est (by rw [ehd, eH]) ⟨i, by rw [nB, bump_self, hnN]; omega, hr, by rw [eh, hhN]; simp⟩ (fun b j x hj hx hb => ?_) (fun b j x hj hx hb => ⟨by rw [eh]; exact hb, Nat.lt_of_lt_of_le hj (by rw [nB]; exact le_bump)⟩) hna ?_⟩
    · rw [eh] at hb
      rw [nB] at hj
      by_cases e : b = a
      · subst e
        rw [bump_self] at hj
        by_cases hlt : j < nN s b
        · exact .inr ⟨hlt, hb⟩
        · have : j = nN s b := by omega
          rw [this, hnN, hr] at hx
          exact .inl ⟨rfl, (Option.some.inj hx).symm⟩
      · rw [bump_ne e] at hj
        exact .inr ⟨hj, hb⟩
    · rw [ehd]
      refine row_ok ok hrR ha (fun x hx => ?_) (hl1000 nd_inN fun x hx => ?_) fun hm => ⟨(hq hm).1, nd_inN, (hq hm).2⟩
      · obtain ⟨j, h1, h2, h3⟩ := hheld x ((hdm x).mp hx)
        refine ⟨j, h2, h3, fun i0 o hi0 ho => I.a x i0 o (by omega) ho fun z => ?_⟩
        rw [(hdm x).mp hx] at z
        cases z
        have := nodup_inj (hnd x) h2 ho
        omega
      · obtain ⟨j, h1, h2, h3⟩ := hheld x ((hdm x).mp hx)
        exact Lr_lt ok h3
  unfold Refused at hf
  by_cases hc : a ∈ M.Lr r ∧ 0 < M.qs r
  · rw [if_pos hc] at hf
    have hacc : (NM M).acc a r = true := decide_eq_true hc.1
    by_cases hfull : (inN s.hd r).length = M.qs r
    · rw [if_pos hfull] at hf
      obtain ⟨w, rfl, hw1, hw2, hw3⟩ := hf
      have hlt : ∀ x, (x = a ∨ hN s x = some r) → x ≠ w → (M.Lr r).idxOf x < (M.Lr r).idxOf w := fun x hx hne => by
        have hxm : x ∈ inN s.hd r ++ [a] := by
          rcases hx with rfl | hx
          · simp
          · exact List.mem_append_left _ ((hdm x).mpr hx)
        have hxL : x ∈ M.Lr r := by
          rcases hx with rfl | hx
          · exact hc.1
          · exact (hheld x hx).choose_spec.2.2
        have h1 := hw3 x hxm hxL
        have h2 : (M.Lr r).idxOf x ≠ (M.Lr r).idxOf w := fun e => hne (by
          have := at_idxOf hxL
          rw [e, at_idxOf hw2] at this
          exact (Option.some.inj this).symm)
        omega
      by_cases hwa : w = a
      · subst hwa
        refine selfRow e3 (by rw [e2]; unfold heldAfter; rw [if_pos rfl]) ?_ fun _ => ⟨hfull, fun x hx => hlt x (.inr ((hdm x).mp hx)) fun z => ?_⟩
        · refine I.v.self hnd hhN hr' hacc nd_inN hfull (fun x hx => (hdm x).mp hx) fun x hx => hlt x (.inr hx) fun z => ?_
          rw [z, hhN] at hx
          cases hx
        · have := (hdm x).mp hx
          rw [z, hhN] at this
          cases this
      · have hwr : hN s w = some r := by
          rcases List.mem_append.mp hw1 with z | z
          · exact (hdm w).mp z
          · exact absurd (List.mem_singleton.mp z) hwa
        have hwl : w < s.hd.length := by
          have := (hdm w).mpr hwr
          exact (List.getElem?_eq_some_iff.mp (mem_inN.mp this)).1
        have eH : s'.hd = (s.hd.set a (some r)).set w none := by
          rw [e2]
          unfold heldAfter
          rw [if_neg (fun z => hwa (Option.some.inj z))]
        have eh : hN s' = put (put (hN s) w none) a (some r) := funext fun b => by
          unfold hN put
          rw [eH, getD_set (by rw [List.length_set]; exact hwl), getD_set hah]
          by_cases e : b = w
          · rw [if_pos e, if_neg (fun z => hwa (e.symm.trans z)), if_pos e]
          · rw [if_neg e, if_neg e]
        have v' : Val (NM M) (hN s') (nN s') := by
          rw [eh, nB]
          exact I.v.swap hnd hhN hr' hacc hwr nd_inN hfull (fun x hx => (hdm x).mp hx) (hlt a (.inl rfl) (Ne.symm hwa)) fun x hx hne => hlt x (.inr hx) hne
        have hha : hN s' a = some r := by rw [eh, put_self]
        have hhw : hN s' w = none := by rw [eh, put_ne hwa, put_self]
        have hho : ∀ b, b ≠ a → b ≠ w → hN s' b = hN s b := fun b h1 h2 => by rw [eh, put_ne h1, put_ne h2]
        obtain ⟨jw, w1, w2, w3⟩ := hheld w hwr
        have hdm' : ∀ x, x ∈ inN s'.hd r ↔ (x = a ∨ hN s x = some r) ∧ x ≠ w := fun x => by
          rw [inN_hN]
          by_cases e1 : x = a
          · rw [e1, hha]
            simp [Ne.symm hwa]
          · by_cases e2 : x = w
            · rw [e2, hhw]
              simp
            · rw [hho x e1 e2]
              simp [e1, e2]
        have hnw : (w, r) ∉ kys rows := fun h => by
          obtain ⟨_, _, _, h3⟩ := I.b w r h
          exact h3 hwr
        have hne : ∀ j x, j < nN s a → (M.La a)[j]? = some x → x ≠ r := fun j x hj hx z => by
          rw [z] at hx
          have := nodup_inj (hnd a) hx hr'
          omega
        refine ⟨_, RInv.add (a := a) (u := w) I v' e3 e2 ⟨jw, by rw [nB, bump_ne hwa]; omega, w2, by rw [hhw]; simp⟩ (fun b j x hj hx hb => ?_) (fun b j x hj hx hb => ⟨?_, Nat.lt_of_lt_of_le hj (by rw [nB]; exact le_bump)⟩) hnw ?_⟩
        · rw [nB] at hj
          by_cases e : b = a
          · subst e
            rw [bump_self] at hj
            have hlt' : j < nN s b := by
              refine Nat.lt_of_not_le fun z => ?_
              have : j = nN s b := by omega
              rw [this, hnN, hr] at hx
              exact hb (by rw [hha, Option.some.inj hx])
            exact .inr ⟨hlt', by rw [hhN]; simp⟩
          · rw [bump_ne e] at hj
            by_cases e' : b = w
            · subst e'
              by_cases ex : x = r
              · exact .inl ⟨rfl, ex⟩
              · exact .inr ⟨hj, fun z => by rw [hwr] at z; exact ex (Option.some.inj z).symm⟩
            · rw [hho b e e'] at hb
              exact .inr ⟨hj, hb⟩
        · by_cases e : b = a
          · subst e
            rw [hha]
            exact fun z => hne j x hj hx (Option.some.inj z).symm
          · by_cases e' : b = w
            · rw [e', hhw]
              simp
            · rw [hho b e e']
              exact hb
        · refine row_ok ok hrR (Lr_lt ok w3) (fun x hx => ?_) (hl1000 nd_inN fun x hx => ?_) fun _ => ⟨?_, nd_inN, fun x hx => ?_⟩
          · obtain ⟨h1, h2⟩ := (hdm' x).mp hx
            by_cases e : x = a
            · subst e
              exact ⟨i, hr, hc.1, fun i0 o hi0 ho => I.a _ i0 o (by omega) ho (by rw [hhN]; simp)⟩
            · have hxr := h1.resolve_left e
              obtain ⟨j, g1, g2, g3⟩ := hheld x hxr
              refine ⟨j, g2, g3, fun i0 o hi0 ho => I.a x i0 o (by omega) ho fun z => ?_⟩
              rw [hxr] at z
              cases z
              have := nodup_inj (hnd x) g2 ho
              omega
          · obtain ⟨h1, h2⟩ := (hdm' x).mp hx
            rcases h1 with rfl | h1
            · exact ha
            · exact Lr_lt ok (hheld x h1).choose_spec.2.2
          · have hwd : w ∈ inN s.hd r := (hdm w).mpr hwr
            have had : a ∉ inN s.hd r := fun z => by
              have := (hdm a).mp z
              rw [hhN] at this
              cases this
            have e1 : (a :: (inN s.hd r).erase w).length = M.qs r := by
              rw [List.length_cons, List.length_erase_of_mem hwd, hfull]
              have := List.length_pos_of_mem hwd
              omega
            have m1 : ∀ x, x ∈ a :: (inN s.hd r).erase w ↔ x ∈ inN s'.hd r := fun x => by
              rw [hdm', List.mem_cons, List.Nodup.mem_erase_iff nd_inN, hdm]
              constructor
              · rintro (rfl | ⟨h1, h2⟩)
                · exact ⟨.inl rfl, Ne.symm hwa⟩
                · exact ⟨.inr h2, h1⟩
              · rintro ⟨h1 | h1, h2⟩
                · exact .inl h1
                · exact .inr ⟨h2, h1⟩
            have n1 : (a :: (inN s.hd r).erase w).Nodup := List.nodup_cons.mpr ⟨fun z => had (List.mem_of_mem_erase z), nd_inN.erase w⟩
            have l1 := nodup_sub_len nd_inN fun x hx => (m1 x).mpr hx
            have l2 := nodup_sub_len n1 fun x hx => (m1 x).mp hx
            omega
          · obtain ⟨h1, h2⟩ := (hdm' x).mp hx
            exact hlt x h1 h2
    · rw [if_neg hfull] at hf
      subst hf
      have eH : s'.hd = s.hd.set a (some r) := by
        rw [e2]
        unfold heldAfter
        rw [if_neg (by simp)]
      have eh : hN s' = put (hN s) a (some r) := funext fun b => by
        unfold hN put
        rw [eH, getD_set hah]
      have hne : ∀ j x, j < nN s a → (M.La a)[j]? = some x → x ≠ r := fun j x hj hx z => by
        rw [z] at hx
        have := nodup_inj (hnd a) hx hr'
        omega
      refine ⟨rows, ⟨?_, ?_, I.ok, fun b j x hj hx hb => ?_, fun b x hb => ?_, I.nd⟩⟩
      · rw [eh, nB]
        refine I.v.room hnd hhN hr' hacc fun S nS hS => ?_
        have := nodup_sub_len nS fun x hx => (hdm x).mpr (hS x hx)
        show S.length < M.qs r
        omega
      · unfold replay
        rw [e3, List.foldl_append]
        have : List.foldl repl1 (List.replicate M.A.length none, []) s.st = (s.hd, rows) := I.rp
        rw [this]
        show repl1 (s.hd, rows) (a, r, none) = _
        unfold repl1
        simp only
        rw [← e2]
      · rw [nB] at hj
        by_cases e : b = a
        · subst e
          rw [bump_self] at hj
          have hlt' : j < nN s b := by
            refine Nat.lt_of_not_le fun z => ?_
            have : j = nN s b := by omega
            rw [this, hnN, hr] at hx
            exact hb (by rw [eh, put_self, Option.some.inj hx])
          exact I.a b j x hlt' hx (by rw [hhN]; simp)
        · rw [bump_ne e] at hj
          rw [eh, put_ne e] at hb
          exact I.a b j x hj hx hb
      · obtain ⟨j, h1, h2, h3⟩ := I.b b x hb
        refine ⟨j, Nat.lt_of_lt_of_le h1 (by rw [nB]; exact le_bump), h2, ?_⟩
        by_cases e : b = a
        · subst e
          rw [eh, put_self]
          exact fun z => hne j x h1 h2 (Option.some.inj z).symm
        · rw [eh, put_ne e]
          exact h3
  · rw [if_neg hc] at hf
    subst hf
    refine selfRow e3 (by rw [e2]; unfold heldAfter; rw [if_pos rfl]) ?_ fun hm => ?_
    · by_cases hm : a ∈ M.Lr r
      · have hq0 : M.qs r = 0 := by
          refine Nat.eq_zero_of_not_pos fun z => hc ⟨hm, z⟩
        have hd0 : inN s.hd r = [] := List.length_eq_zero_iff.mp (by omega)
        refine I.v.self hnd hhN hr' (decide_eq_true hm) (S := []) List.nodup_nil hq0.symm (fun x hx => nomatch hx) fun x hx => ?_
        have := (hdm x).mpr hx
        rw [hd0] at this
        cases this
      · exact I.v.no hnd hhN hr' (decide_eq_false hm)
    · have hq0 : M.qs r = 0 := by
        refine Nat.eq_zero_of_not_pos fun z => hc ⟨hm, z⟩
      have hd0 : inN s.hd r = [] := List.length_eq_zero_iff.mp (by omega)
      rw [hd0]
      exact ⟨hq0.symm, fun x hx => nomatch hx⟩
theorem runs_inv {M : Mkt} (ok : M.Ok) {s' : ASt} (h : AskRuns M (ASt.init M) s') : ∃ rows, RInv M s' rows := by
  induction h with
  | refl => exact ⟨[], RInv.init⟩
  | step h1 hs ih =>
    obtain ⟨rows, I⟩ := ih
    obtain ⟨l1, l2, _⟩ := steps_ok ok h1
    exact I.step ok l1 l2 hs
end Pm
end
/-! ## M7 -/
section
set_option Elab.async false
set_option linter.all false
set_option maxRecDepth 100000
set_option maxHeartbeats 4000000
namespace Pm
open PySem L2
/-! ### what the fair's market and match answer -/
theorem acc_iff {F : FSt} {a r : Str} : F.acc a r = true ↔ a ∈ F.lo r := by
  constructor
  · exact acc_lo
  · intro h
    unfold FSt.lo at h
    unfold FSt.acc
    cases hy : F.R.lookup r with
    | none => rw [hy] at h; cases h
    | some y =>
      rw [hy] at h
      simpa using h
theorem mkt_La {F : FSt} {i : Nat} {a : Str} (h : (sortS F.asks)[i]? = some a) : (mktOf F).La i = numL (sortS F.rooms) (F.la a) := by
  show ((sortS F.asks).map fun a => numL (sortS F.rooms) (F.la a)).getD i [] = _
  rw [List.getD_eq_getElem?_getD, List.getElem?_map, h]
  rfl
theorem mkt_Lr {F : FSt} {k : Nat} {r : Str} (h : (sortS F.rooms)[k]? = some r) : (mktOf F).Lr k = numL (sortS F.asks) (F.lo r) := by
  show ((sortS F.rooms).map fun r => numL (sortS F.asks) (F.lo r)).getD k [] = _
  rw [List.getD_eq_getElem?_getD, List.getElem?_map, h]
  rfl
theorem idx_numL {rooms l : List Str} {x : Str} (hx : x ∈ rooms) : (numL rooms l).idxOf (rooms.idxOf x) = (l.filter fun r => decide (r ∈ rooms)).idxOf x := by
  unfold numL
  have : ∀ {l : List Str}, (∀ y ∈ l, y ∈ rooms) → (l.map fun r => rooms.idxOf r).idxOf (rooms.idxOf x) = l.idxOf x := by
    intro l
    induction l with
    | nil => intro _; rfl
    | cons y l ih =>
      intro h
      rw [List.map_cons, List.idxOf_cons, List.idxOf_cons, ih fun z hz => h z (List.mem_cons_of_mem _ hz)]
      by_cases e : y = x
      · subst e
        simp
      · have e2 : ¬ rooms.idxOf y = rooms.idxOf x := fun z => e (idx_inj (h y (by simp)) hx z)
        have h1 : (y == x) = false := by simpa using e
        have h2 : (rooms.idxOf y == rooms.idxOf x) = false := by simpa using e2
        rw [h1, h2]
  exact this fun y hy => by simpa using (List.mem_filter.mp hy).2
theorem mkt_iso {F : FSt} (ok : F.Ok) : Iso (FM F) (NM (mktOf F)) (sortS F.asks) (sortS F.rooms) where
  nA := (sortS_perm _).nodup_iff.mpr ok.kA
  nR := (sortS_perm _).nodup_iff.mpr ok.kR
  L := fun i a h => mkt_La h
  L0 := fun i h => by
    show ((sortS F.asks).map fun a => numL (sortS F.rooms) (F.la a)).getD i [] = []
    rw [List.getD_eq_getElem?_getD, List.getElem?_map, h]
    rfl
  out := fun a h => la_none fun z => h (mem_sortS.mpr z)
  open_ := fun a r h => mem_sortS.mpr (acc_rooms h)
  acc := fun i a k r hi hk => by
    show decide (i ∈ (mktOf F).Lr k) = F.acc a r
    have nA : (sortS F.asks).Nodup := (sortS_perm _).nodup_iff.mpr ok.kA
    rw [Bool.eq_iff_iff, decide_eq_true_iff, mkt_Lr hk, acc_iff]
    unfold numL
    rw [List.mem_map]
    constructor
    · rintro ⟨x, hx, e⟩
      obtain ⟨h1, h2⟩ := List.mem_filter.mp hx
      have := at_idxOf (of_decide_eq_true h2)
      rw [e, hi] at this
      rw [Option.some.inj this]
      exact h1
    · intro h
      exact ⟨a, List.mem_filter.mpr ⟨h, decide_eq_true (List.mem_of_getElem? hi)⟩, idxOf_at nA hi⟩
  rk := fun i a j b k r hi hj hk ha hb => by
    have nA : (sortS F.asks).Nodup := (sortS_perm _).nodup_iff.mpr ok.kA
    have ha : F.acc a r = true := ha
    show ((mktOf F).Lr k).idxOf i < ((mktOf F).Lr k).idxOf j ↔ (F.lo r).idxOf a < (F.lo r).idxOf b
    have hai := List.mem_of_getElem? hi
    have hbj := List.mem_of_getElem? hj
    rw [mkt_Lr hk, ← idxOf_at nA hi, ← idxOf_at nA hj, idx_numL hai, idx_numL hbj]
    exact idx_filter (acc_iff.mp ha) (decide_eq_true hai) (decide_eq_true hbj)
  q := fun k r hk => by
    show ((sortS F.rooms).map fun r => F.seats r).getD k 0 = F.seats r
    rw [List.getD_eq_getElem?_getD, List.getElem?_map, hk]
    rfl
theorem nums_at {F : FSt} (i : Nat) : (numsOf F).getD i none = isoH F.held (sortS F.asks) (sortS F.rooms) i := by
  unfold numsOf isoH
  rw [List.getD_eq_getElem?_getD, List.getElem?_map]
  cases (sortS F.asks)[i]? <;> rfl
theorem len_inN {mt : List (Option Nat)} {r : Nat} : (inN mt r).length = (mt.filter fun o => decide (o = some r)).length := by
  unfold inN
  have e : mt = mt.zipIdx.map fun p => p.1 := (List.zipIdx_map_fst 0 mt).symm
  conv => rhs; rw [e]
  rw [List.filter_map, List.length_map, List.length_map]
  rfl
theorem replay_len {st : List (Nat × Nat × Option Nat)} {a : List (Option Nat)} {b : List (Nat × Nat × List Nat)} : (st.foldl repl1 (a, b)).2.length ≤ b.length + st.length := by
  induction st generalizing a b with
  | nil => simp
  | cons p st ih =>
    rw [List.foldl_cons]
    have := ih (a := (repl1 (a, b) p).1) (b := (repl1 (a, b) p).2)
    have h2 : (repl1 (a, b) p).2.length ≤ b.length + 1 := by
      unfold repl1
      dsimp only
      split
      · exact Nat.le_succ _
      · simp
    rw [List.length_cons]
    have h3 : (List.foldl repl1 (repl1 (a, b) p) st).2.length ≤ (repl1 (a, b) p).2.length + st.length := this
    omega
theorem done_fin {M : Mkt} (ok : M.Ok) {s : ASt} {rows : List (Nat × Nat × List Nat)} (I : RInv M s rows) (h1 : s.hd.length = M.A.length) (h2 : s.nx.length = M.A.length) (hd : Done M s) : Fin (NM M) (hN s) (nN s) := fun a ha => by
  have hle : nN s a ≤ (M.La a).length := I.v.le a
  show nN s a = (M.La a).length
  by_cases hl : a < M.A.length
  · refine Nat.le_antisymm hle (Nat.le_of_not_lt fun z => ?_)
    have g1 : a < s.hd.length := by omega
    have g2 : a < s.nx.length := by omega
    have e1 : hN s a = s.hd[a] := by unfold hN; rw [List.getD_eq_getElem?_getD, List.getElem?_eq_getElem g1]; rfl
    have e2 : nN s a = s.nx[a] := by unfold nN; rw [List.getD_eq_getElem?_getD, List.getElem?_eq_getElem g2]; rfl
    rw [e1] at ha
    rw [e2] at z
    exact hd a (M.La a)[s.nx[a]] ⟨hl, by rw [List.getElem?_eq_getElem g1, ha], s.nx[a], List.getElem?_eq_getElem g2, List.getElem?_eq_getElem z⟩
  · have : M.La a = [] := by
      unfold Mkt.La
      rw [List.getD_eq_getElem?_getD, List.getElem?_eq_none (by omega)]
      rfl
    rw [this] at hle ⊢
    simpa using hle
structure MktF (F : FSt) : Prop where
  ok : (mktOf F).Ok
  mt : MatchOk (mktOf F) (numsOf F)
  nb : NoBlock (mktOf F) (numsOf F)
  fin : ∀ s', AskRuns (mktOf F) (ASt.init (mktOf F)) s' → Done (mktOf F) s' → RowsOk (mktOf F) (replay (mktOf F).A.length s'.st).2 ∧ FinAll (mktOf F) (numsOf F) (kys (replay (mktOf F).A.length s'.st).2)
  cut : ∀ s', AskRuns (mktOf F) (ASt.init (mktOf F)) s' → Done (mktOf F) s' → 0 < (replay (mktOf F).A.length s'.st).2.length → RowsOk (mktOf F) (replay (mktOf F).A.length s'.st).2.dropLast ∧ ¬ FinAll (mktOf F) (numsOf F) (kys (replay (mktOf F).A.length s'.st).2.dropLast)
theorem mkt_facts {F : FSt} (g : GS F) : MktF F := by
  have ok := mktOf_ok g.ok g.nd
  have I := mkt_iso g.ok
  have vN : Val (NM (mktOf F)) (isoH F.held (sortS F.asks) (sortS F.rooms)) (isoN (FM F) F.nx (sortS F.asks) (sortS F.rooms)) := g.v.iso (fun b => la_nd g.nd b) I
  have fN : Fin (NM (mktOf F)) (isoH F.held (sortS F.asks) (sortS F.rooms)) (isoN (FM F) F.nx (sortS F.asks) (sortS F.rooms)) := (fin_of g.v g.e).iso I g.v.le fun a x e => by
    obtain ⟨_, _, _, h3⟩ := g.v.held a x e
    exact I.open_ a x h3
  have hmt : ∀ i, (numsOf F).getD i none = isoH F.held (sortS F.asks) (sortS F.rooms) i := fun i => nums_at i
  have hnd : ∀ b, ((NM (mktOf F)).L b).Nodup := fun b => La_nd ok b
  have hin : ∀ {w r : Nat}, w ∈ inN (numsOf F) r ↔ isoH F.held (sortS F.asks) (sortS F.rooms) w = some r := fun {w r} => by
    rw [mem_inN, ← hmt, List.getD_eq_getElem?_getD]
    cases (numsOf F)[w]? with
    | none => simp
    | some o => simp
  have mo : MatchOk (mktOf F) (numsOf F) := by
    refine ⟨?_, fun r hr => ?_, fun r hr => ?_, fun a r h => ?_⟩
    · show ((sortS F.asks).map _).length = ((sortS F.asks).map _).length
      rw [List.length_map, List.length_map]
    · obtain ⟨a, ha, e⟩ := List.mem_map.mp hr
      cases hx : F.held a with
      | none => rw [hx] at e; cases e
      | some x =>
        rw [hx] at e
        have e : (sortS F.rooms).idxOf x = r := Option.some.inj e
        obtain ⟨_, _, _, h3⟩ := g.v.held a x hx
        have := I.open_ a x h3
        show r < ((sortS F.rooms).map _).length
        rw [List.length_map, ← e]
        exact List.idxOf_lt_length_iff.mpr this
    · rw [← len_inN]
      exact vN.cap r _ nd_inN fun s hs => hin.mp hs
    · have h0 : isoH F.held (sortS F.asks) (sortS F.rooms) a = some r := by
        rw [← hmt, List.getD_eq_getElem?_getD, h]
        rfl
      obtain ⟨i, _, h2, h3⟩ := vN.held a r h0
      unfold Mkt.likes
      have h2 : r ∈ (mktOf F).La a := List.mem_of_getElem? h2
      have h3 : decide (a ∈ (mktOf F).Lr r) = true := h3
      simp only [Bool.and_eq_true, decide_eq_true_eq]
      exact ⟨h2, of_decide_eq_true h3⟩
  have nb : NoBlock (mktOf F) (numsOf F) := fun p hp => by
    obtain ⟨h1, h2⟩ := List.mem_filter.mp hp
    obtain ⟨p1, p2, p3, p4⟩ := pairs_ok ok h1
    have hne : (numsOf F).getD p.1 none ≠ some p.2 := by simpa using h2
    rw [hmt] at hne
    obtain ⟨i, hi, e⟩ := List.getElem_of_mem p3
    have hix : ((mktOf F).La p.1)[i]? = some p.2 := by rw [List.getElem?_eq_getElem hi, e]
    by_cases hlt : i < isoN (FM F) F.nx (sortS F.asks) (sortS F.rooms) p.1
    · right
      rcases vN.gone p.1 i p.2 hlt hix hne with gg | ⟨⟨S, nS, lS, hS⟩, gg⟩
      · have gg : decide (p.1 ∈ (mktOf F).Lr p.2) = false := gg
        simp [p4] at gg
      · have hlen : (inN (numsOf F) p.2).length = (mktOf F).qs p.2 := by
          refine Nat.le_antisymm (vN.cap p.2 _ nd_inN fun s hs => hin.mp hs) ?_
          have lS : S.length = (mktOf F).qs p.2 := lS
          rw [← lS]
          exact nodup_sub_len nS fun s hs => hin.mpr (hS s hs)
        unfold fullB
        simp only [Bool.and_eq_true, decide_eq_true_eq, List.all_eq_true]
        refine ⟨hlen, fun s hs => ?_⟩
        have hs' := hin.mp hs
        obtain ⟨_, _, _, h3⟩ := vN.held s p.2 hs'
        have h3 : s ∈ (mktOf F).Lr p.2 := of_decide_eq_true h3
        unfold betterW rkW
        simp only [h3, p4, if_true]
        exact decide_eq_true (gg s hs')
    · left
      unfold hasB
      rw [hmt]
      cases hh : isoH F.held (sortS F.asks) (sortS F.rooms) p.1 with
      | none =>
        have := fN p.1 hh
        have this : isoN (FM F) F.nx (sortS F.asks) (sortS F.rooms) p.1 = ((mktOf F).La p.1).length := this
        omega
      | some r0 =>
        obtain ⟨j, j1, j2, _⟩ := vN.held p.1 r0 hh
        have j2 : ((mktOf F).La p.1)[j]? = some r0 := j2
        have hjne : j ≠ i := fun z => by
          rw [z, hix] at j2
          rw [hh] at hne
          exact hne j2.symm
        unfold betterW rkW
        have m1 : r0 ∈ (mktOf F).La p.1 := List.mem_of_getElem? j2
        simp only [m1, p3, if_true, idxOf_at (La_nd ok p.1) j2, idxOf_at (La_nd ok p.1) hix]
        simp
        omega
  have fin0 : ∀ s', AskRuns (mktOf F) (ASt.init (mktOf F)) s' → Done (mktOf F) s' → ∃ rows, RInv (mktOf F) s' rows ∧ rows.length ≤ 100000 ∧ ∀ a, (numsOf F).getD a none = hN s' a ∧ (hN s' a = none → nN s' a = ((mktOf F).La a).length) := fun s' hr hd => by
    obtain ⟨rows, R⟩ := runs_inv ok hr
    obtain ⟨l1, l2, l3, _⟩ := steps_ok ok hr
    have ff := done_fin ok R l1 l2 hd
    refine ⟨rows, R, ?_, fun a => ⟨?_, fun h => ff a h⟩⟩
    · have := replay_len (st := s'.st) (a := List.replicate (mktOf F).A.length none) (b := [])
      have e : List.foldl repl1 (List.replicate (mktOf F).A.length none, []) s'.st = (s'.hd, rows) := R.rp
      rw [e] at this
      simp only [List.length_nil] at this
      omega
    · rw [hmt]
      exact vN.uniq fN R.v ff hnd a
  refine ⟨ok, mo, nb, fun s' hr hd => ?_, fun s' hr hd hpos => ?_⟩
  · obtain ⟨rows, R, hlen, hh⟩ := fin0 s' hr hd
    rw [R.rp]
    refine ⟨⟨hlen, R.ok⟩, fun a ha r hra => ?_⟩
    rw [(hh a).1] at hra
    cases e : hN s' a with
    | none =>
      rw [e] at hra
      have hra : r ∈ (mktOf F).La a := aheadW_sub hra
      obtain ⟨i, hi, ei⟩ := List.getElem_of_mem hra
      exact R.a a i r (by rw [(hh a).2 e]; exact hi) (by rw [List.getElem?_eq_getElem hi, ei]) (by rw [e]; simp)
    | some r0 =>
      rw [e] at hra
      obtain ⟨j, j1, j2, _⟩ := R.v.held a r0 e
      obtain ⟨i, hi, ei⟩ := (ahead_mem (La_nd ok a) j2).mp hra
      refine R.a a i r (by omega) ei fun z => ?_
      rw [e] at z
      cases z
      have := nodup_inj (La_nd ok a) ei j2
      omega
  · obtain ⟨rows, R, hlen, hh⟩ := fin0 s' hr hd
    rw [R.rp] at hpos ⊢
    obtain ⟨ini, x, hx⟩ := SrtO.snoc_of (l := rows) hpos
    have hdl : rows.dropLast = ini := by rw [hx]; simp
    show RowsOk _ rows.dropLast ∧ ¬ FinAll _ _ (kys rows.dropLast)
    rw [hdl]
    refine ⟨⟨?_, fun i y hy => ?_⟩, fun hf => ?_⟩
    · have := congrArg List.length hx
      rw [List.length_append, List.length_singleton] at this
      omega
    · have hi := (List.getElem?_eq_some_iff.mp hy).1
      have := R.ok i y (by rw [hx, List.getElem?_append_left hi]; exact hy)
      rwa [hx, List.take_append_of_le_length (Nat.le_of_lt hi)] at this
    · have hk : kys rows = kys ini ++ [(x.1, x.2.1)] := by rw [hx, kys_app]
      have hm : (x.1, x.2.1) ∈ kys rows := by rw [hk]; simp
      obtain ⟨i, i1, i2, i3⟩ := R.b _ _ hm
      have hnd' := R.nd
      rw [hk] at hnd'
      obtain ⟨_, _, hdis⟩ := List.nodup_append.mp hnd'
      obtain ⟨hxA, _⟩ := La_lt ok (List.mem_of_getElem? i2)
      have := hf x.1 hxA x.2.1 (by
        rw [(hh x.1).1]
        cases e : hN s' x.1 with
        | none =>
          show x.2.1 ∈ ((mktOf F).La x.1).take ((mktOf F).La x.1).length
          rw [List.take_length]
          exact List.mem_of_getElem? i2
        | some r0 =>
          obtain ⟨j, j1, j2, _⟩ := R.v.held x.1 r0 e
          refine (ahead_mem (La_nd ok x.1) j2).mpr ⟨i, ?_, i2⟩
          have hij : i ≠ j := fun z => by
            have j2 : ((mktOf F).La x.1)[j]? = some r0 := j2
            rw [z, j2] at i2
            rw [e] at i3
            exact i3 i2
          omega)
      exact hdis _ this _ (by simp) rfl
end Pm
end
/-! ## W32 -/
section
set_option Elab.async false
set_option linter.all false
set_option maxRecDepth 100000
set_option maxHeartbeats 2000000
namespace Pm
open PySem L2
def pFInit2 (B : Bs) (Cf : Addr) : Pre := fun vs H S P => ∃ (p dx : Addr), vs = [.ref p] ∧ H p = some (.ins Cf dx []) ∧ S = [p] ∧ ∀ v H', v = .non → (∃ d1 d2 d3 d4 d5, H d1 = none ∧ H d2 = none ∧ H d3 = none ∧ H d4 = none ∧ H d5 = none ∧ FairAt B Cf H' p d1 d2 d3 d4 d5 ⟨[], []⟩ ∧ Unl H' d1 ∧ Unl H' d2) → P v H'
theorem pFInit2_ex {B : Bs} {Cf : Addr} : PreEx B.G (pFInit2 B Cf) := fun vs H H' S P k ⟨p, dx, h1, h2, h3, h4⟩ => ⟨p, dx, h1, k.xat h2, h3, fun v H'' e ⟨d1, d2, d3, d4, d5, a, b, c, d, e', h⟩ => h4 v H'' e ⟨d1, d2, d3, d4, d5, k.free a, k.free b, k.free c, k.free d, k.free e', h⟩⟩
section
variable {B : Bs} {Cf : Addr} (TF : FairC B Cf)
include TF
theorem ok_fInit2 {ff : Addr} {fd : FuncData} {cdv : Value} (Fn : FunC B.K "__init__" "Fair.__init__" (dFair 0) ff fd cdv) : FnOk B.P B.w B.K B.mg B.base CX0 1 ff fd ["self"] (spM B.G (pFInit2 B Cf)) := by
  refine def_ok Fn scFair0 (fun vs H SS P ⟨p, dx, e, _⟩ => by rw [e]; rfl) fun vs H SS P D ht hp _ hN => ?_
  obtain ⟨p, dx, rfl, hp, rfl, hP⟩ := hp
  refine s_fld e_dnew (fun v H1 k _ => ev 0) hp TF.cl TF.nL (by decide) fun v Ha Hb ka ⟨d1, e1, n1, g1⟩ kb hb => ?_
  subst e1
  have k1 : Kp B.G [p] H Hb := Kp.pre ka kb
  have g1 := kb.at1 (ka.xat hp) g1 (by simp)
  refine s_fld e_dnew (fun v H1 k _ => ev 0) hb TF.cl TF.nO (by show 1 < 1000; decide) fun v Hc Hd kc ⟨d2, e2, n2, g2⟩ kd hd => ?_
  subst e2
  have k2 : Kp B.G [p] H Hd := k1.trans (Kp.pre kc kd)
  have hb' := kc.xat hb
  have g1' := kd.at1 hb' (kc.xat g1) (by simp)
  have g2' := kd.at1 hb' g2 (by simp)
  refine s_fld e_dnew (fun v H1 k _ => ev 0) hd TF.cl TF.nS (by show 2 < 1000; decide) fun v He Hf ke ⟨d3, e3, n3, g3⟩ kf hf => ?_
  subst e3
  have k3 : Kp B.G [p] H Hf := k2.trans (Kp.pre ke kf)
  have hd' := ke.xat hd
  have g1'' := kf.at1 hd' (ke.xat g1') (by simp)
  have g2'' := kf.at1 hd' (ke.xat g2') (by simp)
  have g3'' := kf.at1 hd' g3 (by simp)
  refine s_fld e_dnew (fun v H1 k _ => ev 0) hf TF.cl TF.nH (by show 3 < 1000; decide) fun v Hg Hh kg ⟨d4, e4, n4, g4⟩ kh hh => ?_
  subst e4
  have k4 : Kp B.G [p] H Hh := k3.trans (Kp.pre kg kh)
  have hf' := kg.xat hf
  have m1 := kh.at1 hf' (kg.xat g1'') (by simp)
  have m2 := kh.at1 hf' (kg.xat g2'') (by simp)
  have m3 := kh.at1 hf' (kg.xat g3'') (by simp)
  have m4 := kh.at1 hf' g4 (by simp)
  refine s_fld e_dnew (fun v H1 k _ => ev 0) hh TF.cl TF.nN (by show 4 < 1000; decide) fun v Hi Hj ki ⟨d5, e5, n5, g5⟩ kj hj => ?_
  subst e5
  have k5 : Kp B.G [p] H Hj := k4.trans (Kp.pre ki kj)
  have hh' := ki.xat hh
  have q1 := kj.at1 hh' (ki.xat m1) (by simp)
  have q2 := kj.at1 hh' (ki.xat m2) (by simp)
  have q3 := kj.at1 hh' (ki.xat m3) (by simp)
  have q4 := kj.at1 hh' (ki.xat m4) (by simp)
  have q5 := kj.at1 hh' g5 (by simp)
  refine s_fldV e_int (ev 0) hj TF.cl TF.nA (by show 5 < 1000; decide) fun Hk kk hk => ?_
  have r1 := kk.at1 hj q1 (by simp)
  have r2 := kk.at1 hj q2 (by simp)
  have r3 := kk.at1 hj q3 (by simp)
  have r4 := kk.at1 hj q4 (by simp)
  have r5 := kk.at1 hj q5 (by simp)
  have ne : ∀ {H1 : Hp} {a b : Addr} {o : HO}, H1 a = some o → H1 b = none → a ≠ b := fun h1 h2 z => by rw [z, h2] at h1; cases h1
  have hds : [d1, d2, d3, d4, d5].Nodup := by
    simp only [List.nodup_cons, List.mem_cons, List.not_mem_nil, or_false, not_or, List.nodup_nil, and_true, not_false_eq_true]
    exact ⟨⟨ne g1 n2, ne g1' n3, ne g1'' n4, ne m1 n5⟩, ⟨ne g2' n3, ne g2'' n4, ne m2 n5⟩, ⟨ne g3'' n4, ne m3 n5⟩, ne m4 n5⟩
  refine s_nil fun Hl kl => hN _ _ ((k5.trans kk).then kl) (hP _ _ rfl ⟨d1, d2, d3, d4, d5, n1, k1.free n2, k2.free n3, k3.free n4, k4.free n5, ⟨⟨dx, 0, kl.xat hk⟩, ⟨[], .inl (kl.xat r1), .nil⟩, ⟨[], .inl (kl.xat r2), .nil⟩, kl.xat r3, kl.xat r4, kl.xat r5, hds, ?_⟩, ⟨_, kl.xat r1⟩, ⟨_, kl.xat r2⟩⟩)
  exact ⟨List.nodup_nil, List.nodup_nil, Nat.zero_le _, Nat.zero_le _, (fun p hp => nomatch hp), (fun p hp => nomatch hp), (fun p hp => nomatch hp), fun p hp => nomatch hp⟩
end
end Pm
end
/-! ## V8 -/
section
set_option Elab.async false
set_option linter.all false
set_option maxRecDepth 100000
set_option maxHeartbeats 8000000
namespace Pm
open PySem L2
/-! ### law -/
section
variable {C : Ctx} {σ : L2.St} {H : Hp} {pos p1 p2 p3 p4 : Pos} {x y z w : V} {a b : Expr}
theorem eg_tup4 {x' y' z' w' : Str} {kk : Nat} {q : Addr} (i j l m : Nat) (hq : SqT C.K H q [x, y, z, w]) (hi : C.N[i]? = some x' := by rfl) (hj : C.N[j]? = some y' := by rfl) (hl : C.N[l]? = some z' := by rfl) (hm : C.N[m]? = some w' := by rfl) (hx : Loc C.sc x' := by first | exact .inl rfl | exact .inr rfl) (hy : Loc C.sc y' := by first | exact .inl rfl | exact .inr rfl) (hz : Loc C.sc z' := by first | exact .inl rfl | exact .inr rfl) (hw : Loc C.sc w' := by first | exact .inl rfl | exact .inr rfl) :
    EG C (.Tuple [.Name x' p1, .Name y' p2, .Name z' p3, .Name w' p4] kk pos) (.ref q) σ H ((((σ.set i (some x)).set j (some y)).set l (some z)).set m (some w)) :=
  eg_tup (u := gCons (gName i) (gCons (gName j) (gCons (gName l) (gCons (gName m) gNil)))) hq (fun X g => pgs_cons (pg_name (i := i) (by rw [g.N]; exact g.nd) (by rw [g.N]; exact hi) (g.loc hx) (g.fn _ hx)) (pgs_cons (pg_name (i := j) (by rw [g.N]; exact g.nd) (by rw [g.N]; exact hj) (g.loc hy) (g.fn _ hy)) (pgs_cons (pg_name (i := l) (by rw [g.N]; exact g.nd) (by rw [g.N]; exact hl) (g.loc hz) (g.fn _ hz)) (pgs_cons (pg_name (i := m) (by rw [g.N]; exact g.nd) (by rw [g.N]; exact hm) (g.loc hw) (g.fn _ hw)) pgs_nil))))
    (fun H1 Q _ q => ⟨x, [y, z, w], rfl, y, [z, w], rfl, z, [w], rfl, w, [], rfl, rfl, q⟩) rfl
theorem c_notBl {s t : Bool} (ha : EV C σ H a (.bl s)) (hb : EV C σ H b (.bl t)) : CV C σ H .IsNot a b (!decide (s = t)) := c_op (fun X _ => op_notBl) ha hb fun H1 _ _ q => ⟨s, t, rfl, rfl, q _ H1 Kp.refl rfl⟩
end
theorem cutV_last {xs : List V} : cutV xs none (some (-1)) = xs.dropLast := by
  unfold cutV
  rw [HT.sIx_none, List.drop_zero, Nat.sub_zero, List.dropLast_eq_take]
  congr 1
  show (if (-1 : Int) < 0 then ((-1 : Int) + (xs.length : Int)).toNat else min (-1 : Int).toNat xs.length) = _
  rw [if_pos (by decide)]
  omega
theorem cutV_tail {xs : List V} : cutV xs (some 1) none = xs.drop 1 := by
  have := cutV_drop (f := fun v : V => v) (xs := xs) (i := 1)
  rw [List.map_id', List.map_id'] at this
  exact this
def oD : Option Str → PyData
  | none => .none
  | some r => .str r
theorem dp_osV {K : PySem.W.Frag} {H : Hp} (o : Option Str) : Dp K H (osV o) (oD o) := by
  cases o with
  | none => exact .non
  | some r => exact .str r
theorem sm_oD {o : Option Str} (h : ∀ r, o = some r → sOk r) : Sm 0 (oD o) := by
  cases o with
  | none => exact .non
  | some r => exact .str (h r rfl)
theorem tups_dp {K : PySem.W.Frag} {H : Hp} {v : V} {ws : List Str} {f : Str → List V} {g : Str → List PyData} (h : TupsAt K H v (ws.map f)) (hd : ∀ w, DpAll K H (f w) (g w)) : Dp K H v (.tuple (ws.map fun w => .tuple (g w))) := by
  obtain ⟨t, vs, rfl, h1, h2⟩ := h
  exact .tup h1 (dpAll_paired (paired_map_l h2) fun w v ⟨q, e, hq⟩ => by
    subst e
    exact .tup hq (hd w))
theorem tups_sm {ws : List Str} {g : Str → List PyData} (h : ∀ w ∈ ws, ∀ d ∈ g w, Sm 0 d) : Sm 2 (.tuple (ws.map fun w => .tuple (g w))) := .tup fun d hd => by
  obtain ⟨w, hw, rfl⟩ := List.mem_map.mp hd
  exact .tup (h w hw)
theorem held_row {F : FSt} (ok : F.Ok) {p : Str × ARow} (hp : p ∈ F.A) : F.held p.1 = p.2.h := by
  obtain ⟨x, hx⟩ := lookup_of_mem (List.mem_map.mpr ⟨p, hp, rfl⟩)
  unfold FSt.held
  rw [hx]
  rw [nd_lookup ok.kA hx p hp rfl]
  rfl
theorem heldK {F : FSt} (ok : F.Ok) {h : Str → Option Str} (hh : ∀ a, h a = F.held a) : (F.asks.map fun a => ((Sum.inr a : L2.Key), osV (h a))) = F.A.map fun p => (Sum.inr p.1, osV p.2.h) := by
  unfold FSt.asks
  rw [List.map_map]
  refine List.map_congr_left fun p hp => ?_
  show (Sum.inr p.1, osV (h p.1)) = _
  rw [hh, held_row ok hp]
theorem held_ok {F : FSt} (ok : F.Ok) {a r : Str} (h : F.held a = some r) : sOk r := by
  unfold FSt.held at h
  cases hx : F.A.lookup a with
  | none => rw [hx] at h; cases h
  | some x =>
    rw [hx] at h
    exact (ok.oA _ (lookup_mem hx)).2 r h
theorem asks_ok {F : FSt} (ok : F.Ok) {a : Str} (h : a ∈ F.asks) : sOk a := by
  obtain ⟨p, hp, rfl⟩ := List.mem_map.mp h
  exact (ok.oA p hp).1
def spL (B : Bs) : Sp := fun vs H Q _ => TOk B.G H ∧ (∃ (q : Addr) (cs : List Int), vs = [.ref q] ∧ SqL B.K H q (cs.map V.int)) ∧ ∀ H', Q (.bl true) H'
theorem paired_drop {α β : Type} {R : α → β → Prop} : ∀ {as : List α} {bs : List β}, Paired R as bs → ∀ n, Paired R (as.drop n) (bs.drop n)
  | _, _, h, 0 => h
  | _, _, .nil, _ + 1 => .nil
  | _, _, .cons _ t, n + 1 => paired_drop t n
theorem paired_dropLast {α β : Type} {R : α → β → Prop} : ∀ {as : List α} {bs : List β}, Paired R as bs → Paired R as.dropLast bs.dropLast
  | _, _, .nil => .nil
  | _, _, .cons _ .nil => .nil
  | _, _, .cons h (.cons h2 t) => .cons h (paired_dropLast (.cons h2 t))
/-- the facts that the law calls for -/
structure LawG (B : Bs) (Cf Cw Cm Cp Cd Cn Cx : Addr) : Prop where
  TL : LawC B
  TT : TlC B Cd Cp Cn Cx
  TF : ToldF B Cd Cp Cn Cx
  rounds : GF B 2 "_law_rounds" (pRounds B)
  roll : GF B 1 "_law_roll" pRoll
  deed : GF B 8 "_law_deed" (pDeed B Cf)
  due : GF B 4 "_law_due" (pDue B)
  blocked : GF B 1 "_law_blocked" (pBlocked B)
  fair : GK B 1 "Fair" Cf (pFInit2 B Cf)
  mat : GM B 1 Cf "match" (pFMatch B Cf)
  mkt : GM B 7 Cf "as_market" (pAsMkt B Cf Cw Cm)
  num : GM B 2 Cf "by_numbers" (pByNum B Cf)
  both : GF B 9 "both_papers" (pBoth B Cw Cm)
  check : GFX B 9 "check_both" (pCheckBoth B Cw Cm Cp)
  ref : GFX B 1 "refuse" (pRefuse Cx)
section
variable {B : Bs} {Cf Cw Cm Cp Cd Cn Cx : Addr} (G : LawG B Cf Cw Cm Cp Cd Cn Cx)
include G
theorem ok_law {ff : Addr} {fd : FuncData} {P c : Addr} (Fn : FunC B.K "law" "law" (top 45) ff fd (.ref c)) (TB : LamX.TabB B.base B.mg c P) (hmT : (P, ("law.<locals>.<lambda>" : Str)) ∈ B.G) (hu : ∀ p ∈ B.G, p.1 = P → p.2 = ("law.<locals>.<lambda>" : Str)) : FnOk B.P B.w B.K B.mg B.base CX0 12 ff fd ["script"] (spL B) := by
  obtain ⟨oc, od, kV0, doc, pm, an, ct, osl, rfl, lk, hcd⟩ := Fn.ex
  refine fn_of lk hcd sc45 (fun vs H Q E ⟨_, ⟨q, cs, e, _⟩, _⟩ => by rw [e]; rfl) fun A outer s H vs Q E hr ⟨ht, ⟨q, cs, e, hq⟩, hQ⟩ => ?_
  subst e
  suffices hS : S (ctx B ["script", "dice", "step", "fair", "askers", "rooms", "before", "after", "names", "moved", "market", "match", "first", "second", "told_now", "due", "each"] (top 45) 11 (.ref c) "law") { nx := fun _ H' => Q .non H', rt := Q } (start ["script", "dice", "step", "fair", "askers", "rooms", "before", "after", "names", "moved", "market", "match", "first", "second", "told_now", "due", "each"] [.ref q]) H (defBody (top 45)) by
    obtain ⟨t, h, w⟩ := hS H Kp.refl
    exact ⟨t, (h _ (good_def (CX := CX0) sc45 hr)).nox, w⟩
  have TL := G.TL
  refine s_forLB (e_call G.rounds (by show 2 ≤ 11; decide) ht (a_cons (ev 0) (a_1 e_int)) ⟨q, cs, rfl, hq, rfl, rfl⟩) fun v H1 k1 ⟨l, Dd, e, hl, hd⟩ => ⟨l, [Dd], V.ref, fun i σ1 H2 => ∃ (o1 o2 o3 o4 o5 o6 o7 o8 o9 o10 o11 o12 o13 o14 o15 : Option V), σ1 = [some (.ref q), o1, o2, o3, o4, o5, o6, o7, o8, o9, o10, o11, o12, o13, o14, o15, none] ∧ TOk B.G H2 ∧ DiceAt H2 Dd ∧ H2 l = some (.lst [.ref Dd]), e, .inl (.inl hl), ⟨none, none, none, none, none, none, none, none, none, none, none, none, none, none, none, rfl, k1.tok ht, hd, hl⟩, (fun i σ1 H2 ⟨_, _, _, _, _, _, _, _, _, _, _, _, _, _, _, _, _, _, h⟩ => .inl (.inl h)), (fun i x σ1 H2 hix ⟨o1, o2, o3, o4, o5, o6, o7, o8, o9, o10, o11, o12, o13, o14, o15, e, ht2, hd2, hl2⟩ => ?_), fun σ1 H2 ⟨o1, o2, o3, o4, o5, o6, o7, o8, o9, o10, o11, o12, o13, o14, o15, e, ht2, hd2, hl2⟩ => ?_⟩
  · subst e
    have hx : x = Dd := by
      have := List.mem_of_getElem? hix
      simpa using this
    subst hx
    refine ⟨_, eg_name 1, ?_⟩
    -- fair, askers, rooms, before
    refine s_asg (e_tupB (PA := fun vs H' => ∃ (f d1 d2 d3 d4 d5 a r bq : Addr), vs = [.ref f, .ref a, .ref r, .ref bq] ∧ LawS B Cf H' f d1 d2 d3 d4 d5 ⟨[], []⟩ a r ∧ H' bq = some (.dK []) ∧ bq ∉ [f, d1, d2, d3, d4, d5]) ?_ (fun vs H3 ⟨_, _, _, _, _, _, _, _, _, e, _⟩ => by rw [e]; exact Nat.le_of_ble_eq_true rfl)) fun v H3 k3 ⟨tp, vs, Hx, ep, _, _, hp, ⟨f, d1, d2, d3, d4, d5, a, r, bq, e, hL, hbq, nbq⟩, kx1, kx2⟩ => ?_
    · refine a_consB (e_make0 (PP := fun p H' => ∃ d1 d2 d3 d4 d5, FairU B Cf H' p d1 d2 d3 d4 d5 ⟨[], []⟩) G.fair (by show 2 ≤ 11; decide) ht2 fun p dx H3 hp0 k3 hp3 => ⟨p, dx, rfl, hp3, rfl, fun v H' e ⟨d1, d2, d3, d4, d5, _, _, _, _, _, h1, h2, h3⟩ => ⟨e, d1, d2, d3, d4, d5, h1, h2, h3⟩⟩) fun x H3 k3 ⟨f, e, _, d1, d2, d3, d4, d5, hF⟩ => ?_
      subst e
      refine a_consB (PA := fun vs H' => ∃ (f' d1 d2 d3 d4 d5 a r bq : Addr), V.ref f :: vs = [.ref f', .ref a, .ref r, .ref bq] ∧ LawS B Cf H' f' d1 d2 d3 d4 d5 ⟨[], []⟩ a r ∧ H' bq = some (.dK []) ∧ bq ∉ [f', d1, d2, d3, d4, d5]) e_dnew fun x H4 k4 ⟨a, e, na, ha⟩ => ?_
      subst e
      refine a_consB (PA := fun vs H' => ∃ (f' d1 d2 d3 d4 d5 a' r bq : Addr), V.ref f :: V.ref a :: vs = [.ref f', .ref a', .ref r, .ref bq] ∧ LawS B Cf H' f' d1 d2 d3 d4 d5 ⟨[], []⟩ a' r ∧ H' bq = some (.dK []) ∧ bq ∉ [f', d1, d2, d3, d4, d5]) e_dnew fun x H5 k5 ⟨r, e, nr, hr⟩ => ?_
      subst e
      refine fun H6 k6 Q q => a_1B e_dnew (fun _ _ => rfl) H6 k6 Q fun vs H7 k7 ⟨y, e, bq, e2, nb, hb⟩ => q vs H7 k7 ⟨f, d1, d2, d3, d4, d5, a, r, bq, by rw [e, e2], ?_, hb, ?_⟩
      · have k37 := k4.t (k5.t (k6.t k7))
        refine ⟨hF.ex k37, gs_init, ⟨[], (k5.t (k6.t k7)).xat ha, .nil⟩, ⟨[], (k6.t k7).xat hr, .nil⟩, hF.some na, (hF.ex k4).some nr, fun z => ?_, (fun x hx => nomatch hx), fun x hx => nomatch hx⟩
        rw [← z, ha] at nr
        cases nr
      · exact (hF.ex (k4.t k5)).some nb
    subst e ep
    refine ⟨_, eg_tup4 3 4 5 6 (.inl (.inl hp)), ?_⟩
    have ht3 := k3.tok ht2
    have hd3 := hd2.ex k3
    have hl3 := k3.xat hl2
    have hlD : ∀ {H : Hp}, H l = some (.lst [.ref x]) → DiceAt H x → l ≠ x := fun h1 ⟨a, b, c, h2⟩ z => by
      rw [z, h2] at h1
      simp at h1
    have hlF : ∀ {H : Hp} {f d1 d2 d3 d4 d5 : Addr} {F : FSt}, H l = some (.lst [.ref x]) → FairU B Cf H f d1 d2 d3 d4 d5 F → l ∉ [f, d1, d2, d3, d4, d5] := fun {H f d1 d2 d3 d4 d5 F} h1 h2 hm => by
      obtain ⟨dx, n, o1⟩ := h2.fa.ob
      obtain ⟨k1, q1⟩ := h2.u1
      obtain ⟨k2, q2⟩ := h2.u2
      have q3 := h2.fa.s
      have q4 := h2.fa.h
      have q5 := h2.fa.n
      simp only [List.mem_cons, List.not_mem_nil, or_false] at hm
      rcases hm with z | z | z | z | z | z <;> subst z <;> simp_all
    refine s_forRK (SS := [x]) (Pa := fun v H' => ∃ n : Nat, n < 32 ∧ v = nI n ∧ DiceAt H' x) TL.range ?_ fun v H4 k4 ⟨n, hn, e, hd4⟩ => ⟨n, fun i σ1 H5 => ∃ (F : FSt) (a r bq : Addr) (o2 o7 o8 o9 o10 o11 o12 o13 o14 o15 : Option V), σ1 = [some (.ref q), some (.ref x), o2, some (.ref f), some (.ref a), some (.ref r), some (.ref bq), o7, o8, o9, o10, o11, o12, o13, o14, o15, none] ∧ TOk B.G H5 ∧ DiceAt H5 x ∧ H5 l = some (.lst [.ref x]) ∧ LawS B Cf H5 f d1 d2 d3 d4 d5 F a r ∧ H5 bq = some (.dK (F.A.map fun p => (Sum.inr p.1, osV p.2.h))) ∧ bq ∉ [f, d1, d2, d3, d4, d5], e, by omega, ?_, fun i σ1 H5 hi ⟨F, a, r, bq, o2, o7, o8, o9, o10, o11, o12, o13, o14, o15, e, ht5, hd5, hl5, hL5, hbq5, nbq5⟩ => ?_, fun σ1 H5 ⟨F, a, r, bq, o2, o7, o8, o9, o10, o11, o12, o13, o14, o15, e, ht5, hd5, hl5, hL5, hbq5, nbq5⟩ => ?_⟩
    · refine e_ixK (Pa := fun v H' => ∃ p m1 m2, v = .ref p ∧ x ≠ p ∧ H' p = some (.lst [nI m1, nI m2]) ∧ m1 < 7 ∧ m2 < 31 ∧ DiceAt H' x) (Pb := fun _ _ y H' => ∃ i : Nat, i < 2 ∧ y = nI i ∧ DiceAt H' x) ?_ ?_ ?_
      · refine EK.imp (e_lstK (PA := fun vs H' => ∃ m1 m2 : Nat, vs = [nI m1, nI m2] ∧ m1 < 7 ∧ m2 < 31 ∧ DiceAt H' x) (ak_cons (e_roll (m := 7) G.roll (by show 1 ≤ 11; decide) ht3 hd3 (by decide) (by decide) (ev 1) e_int) fun y H5 k5 ⟨m1, h1, e1, hd5⟩ => AK.imp (ak_1 (e_roll (m := 31) G.roll (by show 1 ≤ 11; decide) (k5.tok ht3) hd5 (by decide) (by decide) (ev 1) e_int)) fun vs H6 k6 ⟨z, e2, m2, h2, e3, hd6⟩ => ⟨m1, m2, by rw [e1, e2, e3], h1, h2, hd6⟩) (fun vs H5 ⟨_, _, e, _⟩ => by rw [e]; exact Nat.le_of_ble_eq_true rfl)) fun v H5 k5 ⟨p, vs, Hx, e, n, n', hp, ⟨m1, m2, e2, h1, h2, hd5⟩, kx, kx2⟩ => ⟨p, m1, m2, e, fun z => ?_, by rw [hp, e2], h1, h2, hd5.ex kx2⟩
        obtain ⟨a, b, c, h⟩ := hd3
        rw [z, n] at h
        cases h
      · intro y H5 k5 ⟨p, m1, m2, e, hne, hp, h1, h2, hd5⟩
        exact e_roll (m := 2) G.roll (by show 1 ≤ 11; decide) (k5.tok ht3) hd5 (by decide) (by decide) (ev 1) e_int
      · intro y z H5 H6 k5 ⟨p, m1, m2, e, hne, hp, h1, h2, hd5⟩ k6 ⟨i, hi, e2, hd6⟩
        have hp6 := k6.at hp (by simpa using Ne.symm hne)
        have : i = 0 ∨ i = 1 := by omega
        rcases this with rfl | rfl
        · exact ⟨p, _, 0, nI m1, e, e2, .inl (.inl hp6), rfl, m1, by omega, rfl, hd6⟩
        · exact ⟨p, _, 1, nI m2, e, e2, .inl (.inl hp6), rfl, m2, by omega, rfl, hd6⟩
    · have hbq3 := kx2.xat hbq
      have hL3 := hL.ex kx2
      obtain ⟨x1, y1, z1, hdd⟩ := id hd3
      exact ⟨⟨[], []⟩, a, r, bq, _, _, _, _, _, _, _, _, _, _, rfl, k4.tok ht3, hd4, k4.at hl3 (by simpa using hlD hl3 hd3), hL3.at hd3 k4, k4.at hbq3 (by simpa using ne_kind hbq3 hdd (by simp)), nbq⟩
    · -- one deed
      subst e
      refine ⟨_, eg_name 2, ?_⟩
      have hbd : bq ≠ x := by
        obtain ⟨x1, y1, z1, hdd⟩ := id hd5
        exact ne_kind hbq5 hdd (by simp)
      refine s_asg (SS := [x, f, d1, d2, d3, d4, d5]) (e_call G.deed (by show 8 ≤ 11; decide) ht5 (a_cons (ev 1) (a_cons (ev 3) (a_cons (ev 4) (a_1 (ev 5))))) ⟨x, f, d1, d2, d3, d4, d5, F, a, r, rfl, hd5, hL5, rfl, rfl⟩) fun v H6 k6 ⟨t, told, due, a', r', F', e, htt, hd6, hL6, hout⟩ => ?_
      subst e
      refine ⟨_, eg_tup4 14 15 4 5 htt, ?_⟩
      have ht6 := k6.tok ht5
      have hbq6 := k6.at hbq5 (fun hm => (List.mem_cons.mp hm).elim hbd nbq5)
      have hl6 := k6.at hl5 (fun hm => (List.mem_cons.mp hm).elim (hlD hl5 hd5) (hlF hl5 hL5.fu))
      have lA := hL5.lA
      have lA' := hL6.lA
      have lR' := hL6.lR
      have g' := hL6.gs
      refine s_set (i := 7) (SS := []) (P := fun v H' => ∃ (d : Addr) (h : Str → Option Str) (n : Str → Nat), v = .ref d ∧ H6 d = none ∧ H' d = some (.dK (F'.asks.map fun a => (Sum.inr a, osV (h a)))) ∧ Val (FM F') h n ∧ Fin (FM F') h n) (e_call G.due (by show 4 ≤ 11; decide) ht6 (a_cons (ev 4) (a_1 (ev 5))) ⟨a', r', F', rfl, hL6.ad, hL6.rd, g'.ok, g'.nd, by omega, by omega, rfl, fun v H' d h n e nn hh hv hf => ⟨d, h, n, e, nn, hh, hv, hf⟩⟩) fun v H7 k7 ⟨ad, h, n, e, nad, had, hv, hfi⟩ => ?_
      subst e
      have hh : ∀ b, h b = F'.held b := fun b => hv.uniq hfi g'.v (fin_of g'.v g'.e) (fun b => la_nd g'.nd b) b
      have hadK : H7 ad = some (.dK (F'.A.map fun p => (Sum.inr p.1, osV p.2.h))) := by rw [had, heldK g'.ok hh]
      have ht7 := k7.tok ht6
      have hL7 := hL6.ex k7
      have hbq7 := k7.xat hbq6
      have keyE : ∀ {F : FSt}, (F.A.map fun p => ((Sum.inr p.1 : L2.Key), osV p.2.h)).map (fun kv => kV kv.1) = F.asks.map V.str := fun {F} => by
        unfold FSt.asks
        simp [List.map_map, Function.comp_def, kV]
      have hlen2 : (F.asks ++ F'.asks).length < 64 := by
        rw [List.length_append, FSt.len_asks, FSt.len_asks]
        omega
      have hdd : (dd (F.asks ++ F'.asks)).length < 64 := by
        have := len_ddA (ks := F.asks ++ F'.asks) (acc := [])
        simp only [List.length_nil] at this
        show (ddA [] (F.asks ++ F'.asks)).length < 64
        omega
      refine s_set (i := 8) (e_sortDB (kvs := (dd (F.asks ++ F'.asks)).map fun k => ((Sum.inr k : L2.Key), V.int 1)) TL.sorted (e_dictOf TL.dict (e_lc [("each", 16)] (lc_pairsp (as := F.asks ++ F'.asks) (IV := fun a x _ => x = V.str a) (eip_listB (e_catL (xs := F.asks.map V.str) (ys := F'.asks.map V.str) (EK.imp (e_listD TL.list (ev 6) (.inl hbq7)) fun v H1 k ⟨l, e, _, h⟩ => ⟨l, e, by rw [h, keyE]⟩) (EK.imp (e_listD TL.list (ev 7) (.inl hadK)) fun v H1 k ⟨l, e, _, h⟩ => ⟨l, e, by rw [h, keyE]⟩) (by simp only [List.length_map, List.length_append] at hlen2 ⊢; omega)) fun x H1 k ⟨l, e, _, h⟩ => ⟨l, e, .inl (.inl (by rw [h, List.map_append]))⟩) (fun _ => true) (fun a => (Sum.inr a : L2.Key)) (fun _ => V.int 1) (by omega) fun a x H1 ha k e => ?_))) (fun x H1 k ⟨d, e, _, h⟩ => ⟨d, e, .inl ?_⟩) (by rw [List.map_map]; rfl) hdd) fun v H8 k8 ⟨lw, e, _, hw⟩ => ?_
      · subst e
        exact ⟨_, eg_name 16, rfl, ts_nil, fun _ => ⟨ev 16, e_int⟩⟩
      · rw [h, List.filter_eq_self.mpr (fun _ _ => rfl), merge_dd]
      subst e
      have gget : ∀ {Hz : Hp} {F : FSt} {dz : Addr} (w : Str), Hz dz = some (.dK (F.A.map fun p => (Sum.inr p.1, osV p.2.h))) → DGet Hz dz (.str w) ((F.A.lookup w).map fun x => osV x.h) ∧ ((F.A.lookup w).map fun x => osV x.h).getD .non = osV (F.held w) := fun {Hz F dz} w hz => by
        refine ⟨.inl ⟨_, Sum.inr w, .inl hz, rfl, (valV_map' (g := fun x : ARow => osV x.h) w F.A).symm⟩, ?_⟩
        unfold FSt.held
        cases F.A.lookup w <;> rfl
      have hbq8 := k8.xat hbq7
      have had8 := k8.xat hadK
      have hL8 := hL7.ex k8
      have ht8 := k8.tok ht7
      obtain ⟨dfw, hdfw⟩ : ∃ dfw, dfw = (sortS (dd (F.asks ++ F'.asks))).filter fun w => !decide (F.held w = F'.held w) := ⟨_, rfl⟩
      refine s_set (i := 9) (SS := []) (P := fun v H' => TupsAt B.K H' v (dfw.map fun w => [.str w, osV (F.held w), osV (F'.held w)])) (EK.imp (e_tupleOfB (R := fun xs H' => Paired (fun w v => ∃ q, v = V.ref q ∧ SqT B.K H' q [.str w, osV (F.held w), osV (F'.held w)]) dfw xs) TL.tup (e_lc [("each", 16)] (lc_R (as := sortS (dd (F.asks ++ F'.asks))) (ei_list (ev := V.str) (ev 8) (.inl (.inl hw))) (fun H2 k => .inl (.inl (k.xat hw))) (fun w => !decide (F.held w = F'.held w)) (fun _ w v H' => ∃ q, v = V.ref q ∧ H' q = some (.tup [.str w, osV (F.held w), osV (F'.held w)])) (fun D' a v H1 H2 zs hz k ⟨q, e, h⟩ => ⟨q, e, k.at1 hz h (by simp)⟩) (by rw [(sortS_perm _).length_eq]; omega) fun D' w y H2 zs hw' k _ hD1 e => ?_))
        fun y H2 k ⟨D', ys, e1, _, e3, e4⟩ => ⟨D', ys, e1, .inl (.inl (.inl e3)), fun H3 k3 => by rw [hdfw]; exact paired_imp e4 fun a v ⟨q, e, h⟩ => ⟨q, e, .inl (.inl (k3.xat h))⟩⟩) fun v H2 k ⟨l, xs, e1, e2, e3⟩ => ⟨l, xs, e1, e2, paired_map e3⟩) fun v H9 k9 hmv => ?_
      · subst e
        obtain ⟨g1, e1⟩ := gget w (k.xat hbq8)
        obtain ⟨g2, e2⟩ := gget w (k.xat had8)
        exact ⟨_, eg_name 16, rfl, ts_one (t_k (CM.is (c_ne (osV_scal2 (a := F.held w) (b := F'.held w)) (EK.is (e_get2 (ev 6) (ev 16) e_non g1) e1) (EK.is (e_get2 (ev 7) (ev 16) e_non g2) e2)) (by rw [osV_inj]))), fun _ => EK.imp (e_tup (a_cons (ev 16) (a_cons (EK.is (e_get2 (ev 6) (ev 16) e_non g1) e1) (a_1 (EK.is (e_get2 (ev 7) (ev 16) e_non g2) e2))))) fun v H3 k3 ⟨t, e1, _, e3⟩ => ⟨t, e1, e3⟩⟩
      have k69 : Ex B.G H6 H9 := k7.t (k8.t k9)
      have hL9 := hL8.ex k9
      have ht9 := k9.tok ht8
      have had9 := k9.xat had8
      have smw : ∀ w ∈ dfw, ∀ d ∈ [PyData.str w, oD (F.held w), oD (F'.held w)], Sm 0 d := fun w hw d hd => by
        have hwm : w ∈ F.asks ∨ w ∈ F'.asks := by
          rw [hdfw] at hw
          have := mem_dd.mp (mem_sortS.mp (List.mem_filter.mp hw).1)
          exact List.mem_append.mp this
        have hws : sOk w := by
          rcases hwm with h | h
          · exact asks_ok hL5.gs.ok h
          · exact asks_ok g'.ok h
        simp only [List.mem_cons, List.not_mem_nil, or_false] at hd
        rcases hd with rfl | rfl | rfl
        · exact .str hws
        · exact sm_oD fun r hr => held_ok hL5.gs.ok hr
        · exact sm_oD fun r hr => held_ok g'.ok hr
      have dpw : ∀ {Hz : Hp} (w : Str), DpAll B.K Hz [.str w, osV (F.held w), osV (F'.held w)] [PyData.str w, oD (F.held w), oD (F'.held w)] := fun {Hz} w => .cons (.str w) (.cons (dp_osV _) (.cons (dp_osV _) .nil))
      refine s_if (b := false) (T.is (t_or (s := false) (t := false) (t_k ?_) fun _ => t_val (e_call G.blocked (by show 1 ≤ 11; decide) ht9 (a_cons (ev 4) (a_cons (ev 5) (a_1 (ev 7)))) ⟨a', r', ad, F', h, n, rfl, hL6.ne, fun z => ?_, hL9.ad, hL9.rd, by rw [had9, ← heldK g'.ok hh], g'.ok, g'.nd, by omega, by omega, hv, hfi, rfl, rfl⟩)) rfl) (fun z => nomatch z) fun _ => s_next ?_
      · rcases hout with ⟨hne, hso, _, e⟩ | ⟨e, hta⟩
        · subst e
          exact CM.is (c_ne (x := .str due) (y := .str due) rfl (ev 14) (e_ifT (T.is (t_k (c_ne (x := .str due) (y := .str "") rfl (ev 15) e_str)) (by simpa using hne)) (ev 15))) (by simp)
        · subst e
          refine c_neD (d1 := .tuple (dfw.map fun w => .tuple [PyData.str w, oD (F.held w), oD (F'.held w)])) (d2 := .tuple (dfw.map fun w => .tuple [PyData.str w, oD (F.held w), oD (F'.held w)])) (n := 2) (m := 2) (Pa := fun u _ => u = told) (Pb := fun _ _ u _ => u = v) (ev 14) (fun y Hz kz _ => e_ifF (T.is (t_k (c_ne (x := .str "") (y := .str "") rfl (ev 15) e_str)) (by simp)) (ev 9)) (fun y Hz z Hy kz e1 ky e2 => ?_) (tups_sm smw) (tups_sm smw) (hs := by simp)
          subst e1 e2
          refine ⟨tups_dp (f := fun w => [.str w, osV (F.held w), osV (F'.held w)]) ?_ dpw, tups_dp (f := fun w => [.str w, osV (F.held w), osV (F'.held w)]) (hmv.ex (kz.t ky)) dpw⟩
          have hta9 := hta.ex (k69.t (kz.t ky))
          unfold ToldAt diffW at hta9
          have e0 : F.heldL.map (fun p => p.1) = F.asks := by
            unfold FSt.heldL FSt.asks
            rw [List.map_map]
            rfl
          rw [e0] at hta9
          have e3 : (fun w => [V.str w, osV (getO F.heldL w), osV (F'.held w)]) = fun w => [V.str w, osV (F.held w), osV (F'.held w)] := funext fun w => by rw [getO_heldL]
          have e4 : (fun w => !decide (getO F.heldL w = F'.held w)) = fun w => !decide (F.held w = F'.held w) := funext fun w => by rw [getO_heldL]
          rw [e3, e4, ← hdfw] at hta9
          exact hta9
      · obtain ⟨kva, q1, _⟩ := hL6.ad
        rw [← z, q1] at nad
        cases nad
      obtain ⟨dxF, nF, oF⟩ := hL9.fu.fa.ob
      have keyA : (F'.A.map fun p => ((Sum.inr p.1 : L2.Key), osV p.2.h)).map (·.1) = F'.asks.map Sum.inr := by
        unfold FSt.asks
        simp [List.map_map, Function.comp_def]
      have sma : ∀ w ∈ sortS F'.asks, ∀ d ∈ [PyData.str w, oD (F'.held w)], Sm 0 d := fun w hw d hd => by
        simp only [List.mem_cons, List.not_mem_nil, or_false] at hd
        rcases hd with rfl | rfl
        · exact .str (asks_ok g'.ok (mem_sortS.mp hw))
        · exact sm_oD fun r hr => held_ok g'.ok hr
      have dpa : ∀ {Hz : Hp} (w : Str), DpAll B.K Hz [.str w, osV (F'.held w)] [PyData.str w, oD (F'.held w)] := fun {Hz} w => .cons (.str w) (.cons (dp_osV _) .nil)
      refine s_if (b := false) (t_k (c_neD (d1 := .tuple ((sortS F'.asks).map fun w => .tuple [PyData.str w, oD (F'.held w)])) (d2 := .tuple ((sortS F'.asks).map fun w => .tuple [PyData.str w, oD (F'.held w)])) (n := 2) (m := 2) (Pb := fun _ _ u H' => TupsAt B.K H' u ((sortS F'.asks).map fun a => [.str a, osV (F'.held a)])) (e_meth0 G.mat (by show 1 ≤ 11; decide) ht9 (ev 3) oF rfl ⟨f, F', rfl, ⟨d1, d2, d3, d4, d5, hL9.fu.fa⟩, rfl, rfl⟩) (fun y Hz kz _ => EK.imp (e_tupleOfB (R := fun xs H' => Paired (fun a v => ∃ q, v = V.ref q ∧ SqT B.K H' q [.str a, osV (F'.held a)]) (sortS F'.asks) xs) TL.tup (e_lc [("each", 16)] (lc_Rp (as := sortS F'.asks) (IV := fun a x _ => x = V.str a) (eip_listB (e_sortD TL.sorted (ev 7) (.inl (kz.xat had9)) keyA (by rw [FSt.len_asks]; omega)) fun x H1 k ⟨p, e, _, h⟩ => ⟨p, e, .inl (.inl h)⟩) (fun _ => true) (fun _ a v H' => ∃ q, v = V.ref q ∧ H' q = some (.tup [.str a, osV (F'.held a)])) (fun D' a v H1 H2 zs hz kk ⟨q, e, h⟩ => ⟨q, e, kk.at1 hz h (by simp)⟩) (by rw [(sortS_perm _).length_eq, FSt.len_asks]; omega) fun D' a x H1 zs ha k _ hD1 e => ?_))
          fun x H1 k ⟨D', ys, e1, _, e3, e4⟩ => ⟨D', ys, e1, .inl (.inl (.inl e3)), fun H2 k2 => ?_⟩) fun u H2 k ⟨l, xs, e1, e2, e3⟩ => ⟨l, xs, e1, e2, paired_map e3⟩) (fun y Hz z Hy kz h1 ky h2 => ⟨tups_dp (f := fun a => [.str a, osV (F'.held a)]) (h1.ex ky) dpa, tups_dp (f := fun a => [.str a, osV (F'.held a)]) h2 dpa⟩) (tups_sm sma) (tups_sm sma) (hs := by simp))) (fun z => nomatch z) fun _ => s_next ?_
      · subst e
        obtain ⟨x', hx'⟩ := lookup_of_mem (mem_sortS.mp ha)
        obtain ⟨g2, _⟩ := gget a ((kz.t k).xat had9)
        rw [hx'] at g2
        have eh : F'.held a = x'.h := by unfold FSt.held; rw [hx']; rfl
        rw [eh]
        exact ⟨_, eg_name 16, rfl, ts_nil, fun _ => EK.imp (e_tup (a_cons (ev 16) (a_1 (e_dget (ev 7) (ev 16) g2)))) fun v H2 k2 ⟨q, e1, _, e3⟩ => ⟨q, e1, e3⟩⟩
      · rw [List.filter_eq_self.mpr (fun _ _ => rfl)] at e4
        exact paired_imp e4 fun a v ⟨q, e, h⟩ => ⟨q, e, .inl (.inl (k2.xat h))⟩
      refine s_setV (i := 6) (ev 7) (s_lp ⟨F', a', r', ad, _, _, _, _, _, _, _, _, _, _, rfl, ht9, hd6.ex k69, k69.xat hl6, hL9, had9, hL6.fu.some nad⟩)
    · -- the papers
      subst e
      have g := hL5.gs
      have MF := mkt_facts g
      obtain ⟨dxF, nF, oF⟩ := hL5.fu.fa.ob
      have hheld : ∀ a r, F.held a = some r → r ∈ F.rooms := fun a r e => by
        obtain ⟨_, _, _, h3⟩ := g.v.held a r e
        exact acc_rooms h3
      refine s_asg (e_tupB (PA := fun vs H' => ∃ mk mt, vs = [.ref mk, .ref mt] ∧ MktAt B Cw Cm H' mk (mktOf F) ∧ SqT B.K H' mt ((numsOf F).map oV)) (a_consB (e_meth0 G.mkt (by show 7 ≤ 11; decide) ht5 (ev 3) oF rfl ⟨f, F, rfl, ⟨d1, d2, d3, d4, d5, hL5.fu.fa⟩, g.nd, rfl, rfl⟩) fun y H6 k6 ⟨mk, e, hm⟩ => fun H7 k7 Q q => a_1B (e_meth0 (SS := []) (P := fun v H' => ∃ t, v = .ref t ∧ SqT B.K H' t ((numsOf F).map oV)) G.num (by show 2 ≤ 11; decide) (k6.tok ht5) (ev 3) (k6.xat oF) rfl ⟨f, F, rfl, ⟨d1, d2, d3, d4, d5, hL5.fu.fa.ex k6⟩, hheld, rfl, rfl⟩) (fun _ _ => rfl) H7 k7 Q fun vs H8 k8 ⟨z, e2, mt, e3, h⟩ => q vs H8 k8 ⟨mk, mt, by rw [e, e2, e3], hm.ex (k7.t k8), h⟩) (fun vs H1 ⟨_, _, e, _⟩ => by rw [e]; exact Nat.le_of_ble_eq_true rfl)) (hw := fun X g => swapN2 g .cell rfl rfl) fun v H6 k6 ⟨tp, vs, Hx, ep, _, _, hp, ⟨mk, mt, e, hM, hmt⟩, _, kx⟩ => ?_
      subst e ep
      refine ⟨_, eg_tup2 10 11 (.inl (.inl hp)), ?_⟩
      refine s_asg (e_call G.both (by show 9 ≤ 11; decide) (k6.tok ht5) (a_cons (ev 10) (a_1 (ev 11))) ⟨mk, mktOf F, mt, numsOf F, rfl, hM.ex kx, ex_t kx hmt, MF.mt, MF.nb, MF.fin, rfl, rfl⟩) fun v H7 k7 ⟨t, v1, v2, s', e, htt, h1, hrun, hdone, h2⟩ => ?_
      subst e
      refine ⟨_, eg_tup2 12 13 htt, ?_⟩
      have k57 := k6.t k7
      have ht7 := k57.tok ht5
      have hM7 := (hM.ex kx).ex k7
      have hmt7 := ex_t k7 (ex_t kx hmt)
      obtain ⟨fro, ffa⟩ := MF.fin s' hrun hdone
      have hcut := MF.cut s' hrun hdone
      obtain ⟨rows, hrows⟩ : ∃ rows, rows = (replay (mktOf F).A.length s'.st).2 := ⟨_, rfl⟩
      rw [← hrows] at fro ffa hcut h2
      have hoff : (offP (mktOf F) (numsOf F)).length ≤ 10000 := by
        refine Nat.le_trans (List.length_filter_le ..) ?_
        exact pairs_len MF.ok
      obtain ⟨t1, vs1, e1, q1, p1⟩ := h1
      obtain ⟨t2, vs2, e2, q2, p2⟩ := h2
      subst e1 e2
      have n1 : vs1.length = (offP (mktOf F) (numsOf F)).length := by
        rw [← paired_len p1, List.length_map]
      have n2 : vs2.length = rows.length := (paired_len p2).symm
      have args : ∀ {Hz : Hp} {C' : Ctx} {σ' : L2.St} {ea eb ec : Expr} {w1 w2 : V}, True := fun {_ _ _ _ _ _ _ _} => trivial
      refine s_if (b := false) (t_k (CM.is (c_notBl (s := true) (t := true) (EK.imp (e_callX (E' := fun _ _ _ => False) (SS := []) (P := fun v _ => v = .bl true ∧ (offP (mktOf F) (numsOf F)).Perm (offP (mktOf F) (numsOf F)) ∧ FinAll (mktOf F) (numsOf F) (kys rows)) (PX := fun cc _ => cc = .ref Cp ∧ ¬ ((offP (mktOf F) (numsOf F)).Perm (offP (mktOf F) (numsOf F)) ∧ FinAll (mktOf F) (numsOf F) (kys rows))) (PA := fun vs H' => ∃ tt, vs = [.ref mk, .ref mt, .ref tt] ∧ SqT B.K H' tt [.ref t1, .ref t2]) G.check (by show 9 ≤ 11; decide) ht7 (a_consV (ev 10) (PA' := fun vs H' => ∃ tt, vs = [.ref mt, .ref tt] ∧ SqT B.K H' tt [.ref t1, .ref t2]) (a_consV (ev 11) (PA' := fun vs H' => ∃ tt, vs = [.ref tt] ∧ SqT B.K H' tt [.ref t1, .ref t2]) (fun H8 k8 Q q => a_1B (e_tup (a_cons (ev 12) (a_1 (ev 13)))) (fun _ _ => rfl) H8 k8 Q fun vs H9 k9 ⟨z, e, tt, e2, _, h⟩ => q vs H9 k9 ⟨tt, by rw [e, e2], .inl (.inl h)⟩) fun vs H8 ⟨tt, e, h⟩ => ⟨tt, by rw [e], h⟩) fun vs H8 ⟨tt, e, h⟩ => ⟨tt, by rw [e], h⟩)
          (fun vs H8 k8 ⟨tt, e, h⟩ => ⟨mk, mktOf F, mt, numsOf F, tt, .ref t1, .ref t2, offP (mktOf F) (numsOf F), rows, e, hM7.ex k8, ex_t k8 hmt7, MF.mt, MF.nb, h, ⟨t1, vs1, rfl, ex_t k8 q1, paired_imp p1 fun r v ⟨q, e, z⟩ => ⟨q, e, ex_t k8 z⟩⟩, fun p hp => hp, hoff, ⟨t2, vs2, rfl, ex_t k8 q2, paired_imp p2 fun r v z => z.ex k8⟩, fro, rfl, rfl, rfl⟩) rfl (fun cc H8 _ hx => hx.2 ⟨List.Perm.refl _, ffa⟩)) fun v H8 k8 hv => hv.1) e_bl) rfl)) (fun z => nomatch z) fun _ => s_next ?_
      refine s_if (b := false) (T.is (t_and (s := decide ((0 : Int) < (vs1.length : Int))) (t := false) (t_k (c_gt (i := vs1.length) (j := 0) (e_lenSeq TL.len (ev 12) (.inr q1)) e_int)) fun hpos => t_k (CM.is (c_ne (x := .str "paper") (y := .str "paper") rfl (e_told (P := fun v _ => v = .str "paper") (PX := fun cc _ => cc = .ref Cp ∧ ¬ ((offP (mktOf F) (numsOf F)).Perm ((offP (mktOf F) (numsOf F)).drop 1) ∧ FinAll (mktOf F) (numsOf F) (kys rows))) G.TT ⟨TB, rfl, rfl, hmT, hu⟩ 9 (by show 11 ≤ 11; decide) ht7 (fun H8 E' k8 hX => EK.imp (e_callX (E' := E') (SS := []) (P := fun v _ => v = .bl true ∧ (offP (mktOf F) (numsOf F)).Perm ((offP (mktOf F) (numsOf F)).drop 1) ∧ FinAll (mktOf F) (numsOf F) (kys rows)) (PA := fun vs H' => ∃ tt tu, vs = [.ref mk, .ref mt, .ref tt] ∧ SqT B.K H' tt [.ref tu, .ref t2] ∧ SqT B.K H' tu (vs1.drop 1)) G.check (by show 9 ≤ 9; decide) (k8.tok ht7)
          (a_consV (ev 10) (PA' := fun vs H' => ∃ tt tu, vs = [.ref mt, .ref tt] ∧ SqT B.K H' tt [.ref tu, .ref t2] ∧ SqT B.K H' tu (vs1.drop 1)) (a_consV (ev 11) (PA' := fun vs H' => ∃ tt tu, vs = [.ref tt] ∧ SqT B.K H' tt [.ref tu, .ref t2] ∧ SqT B.K H' tu (vs1.drop 1)) (fun H9 k9 Q q => a_1B (e_tupB (PA := fun vs H' => ∃ tu, vs = [.ref tu, .ref t2] ∧ SqT B.K H' tu (vs1.drop 1)) (a_consB (e_slT (ev 12) (ex_t k8 q1) (o_some (i := 1) e_int) o_none) fun z Ha ka ⟨tu, e, h⟩ => fun Hb kb Q q => a_1 (ev 13) (fun _ _ => rfl) Hb kb Q fun vs Hc kc e2 => q vs Hc kc ⟨tu, by rw [e, e2], by rw [cutV_tail] at h; exact ex_t (kb.t kc) h⟩) (fun vs Ha ⟨_, e, _⟩ => by rw [e]; exact Nat.le_of_ble_eq_true rfl)) (fun _ _ => rfl) H9 k9 Q fun vs Ha ka ⟨z, e, tt, us, Hx, e2, _, _, h, ⟨tu, e3, h3⟩, _, kx⟩ => q vs Ha ka ⟨tt, tu, by rw [e, e2], .inl (.inl (by rw [h, e3])), ex_t kx h3⟩) fun vs Ha ⟨tt, tu, e, h⟩ => ⟨tt, tu, by rw [e], h⟩) fun vs Ha ⟨tt, tu, e, h⟩ => ⟨tt, tu, by rw [e], h⟩)
          (fun vs H9 k9 ⟨tt, tu, e, h, hu'⟩ => ⟨mk, mktOf F, mt, numsOf F, tt, .ref tu, .ref t2, (offP (mktOf F) (numsOf F)).drop 1, rows, e, hM7.ex (k8.t k9), ex_t (k8.t k9) hmt7, MF.mt, MF.nb, h, ⟨tu, vs1.drop 1, rfl, hu', by rw [List.map_drop]; exact paired_drop (paired_imp p1 fun r v ⟨q, e, z⟩ => ⟨q, e, ex_t (k8.t k9) z⟩) 1⟩, fun p hp => List.mem_of_mem_drop hp, by rw [List.length_drop]; omega, ⟨t2, vs2, rfl, ex_t (k8.t k9) q2, paired_imp p2 fun r v z => z.ex (k8.t k9)⟩, fro, rfl, rfl, rfl⟩) rfl hX) fun v H9 k9 ⟨_, hperm, _⟩ => ?_) fun cc H8 k8 ⟨e, _⟩ => ⟨"paper", by rw [e]; exact G.TF.t2, rfl⟩) e_str) (by simp))) (by simp)) (fun z => nomatch z) fun _ => s_next ?_
      · exfalso
        have hl := hperm.length_eq
        rw [List.length_drop, ← n1] at hl
        have : (0 : Int) < (vs1.length : Int) := of_decide_eq_true hpos
        omega
      refine s_if (b := false) (T.is (t_and (s := decide ((0 : Int) < (vs2.length : Int))) (t := false) (t_k (c_gt (i := vs2.length) (j := 0) (e_lenSeq TL.len (ev 13) (.inr q2)) e_int)) fun hpos => t_k (CM.is (c_ne (x := .str "paper") (y := .str "paper") rfl (e_told (P := fun v _ => v = .str "paper") (PX := fun cc _ => cc = .ref Cp ∧ ¬ ((offP (mktOf F) (numsOf F)).Perm (offP (mktOf F) (numsOf F)) ∧ FinAll (mktOf F) (numsOf F) (kys rows.dropLast))) G.TT ⟨TB, rfl, rfl, hmT, hu⟩ 9 (by show 11 ≤ 11; decide) ht7 (fun H8 E' k8 hX => EK.imp (e_callX (E' := E') (SS := []) (P := fun v _ => v = .bl true ∧ (offP (mktOf F) (numsOf F)).Perm (offP (mktOf F) (numsOf F)) ∧ FinAll (mktOf F) (numsOf F) (kys rows.dropLast)) (PA := fun vs H' => ∃ tt tu, vs = [.ref mk, .ref mt, .ref tt] ∧ SqT B.K H' tt [.ref t1, .ref tu] ∧ SqT B.K H' tu vs2.dropLast) G.check (by show 9 ≤ 9; decide) (k8.tok ht7)
          (a_consV (ev 10) (PA' := fun vs H' => ∃ tt tu, vs = [.ref mt, .ref tt] ∧ SqT B.K H' tt [.ref t1, .ref tu] ∧ SqT B.K H' tu vs2.dropLast) (a_consV (ev 11) (PA' := fun vs H' => ∃ tt tu, vs = [.ref tt] ∧ SqT B.K H' tt [.ref t1, .ref tu] ∧ SqT B.K H' tu vs2.dropLast) (fun H9 k9 Q q => a_1B (e_tupB (PA := fun vs H' => ∃ tu, vs = [.ref t1, .ref tu] ∧ SqT B.K H' tu vs2.dropLast) (a_consV (ev 12) (PA' := fun vs H' => ∃ tu, vs = [.ref tu] ∧ SqT B.K H' tu vs2.dropLast) (fun Hb kb Q q => a_1B (e_slT (ev 13) (ex_t k8 q2) o_none (o_some (i := -1) (e_neg e_int))) (fun _ _ => rfl) Hb kb Q fun vs Hc kc ⟨z, e, tu, e2, h⟩ => q vs Hc kc ⟨tu, by rw [e, e2], by rw [cutV_last] at h; exact h⟩) fun vs Ha ⟨tu, e, h⟩ => ⟨tu, by rw [e], h⟩) (fun vs Ha ⟨_, e, _⟩ => by rw [e]; exact Nat.le_of_ble_eq_true rfl)) (fun _ _ => rfl) H9 k9 Q fun vs Ha ka ⟨z, e, tt, us, Hx, e2, _, _, h, ⟨tu, e3, h3⟩, _, kx⟩ => q vs Ha ka ⟨tt, tu, by rw [e, e2], .inl (.inl (by rw [h, e3])), ex_t kx h3⟩) fun vs Ha ⟨tt, tu, e, h⟩ => ⟨tt, tu, by rw [e], h⟩) fun vs Ha ⟨tt, tu, e, h⟩ => ⟨tt, tu, by rw [e], h⟩)
          (fun vs H9 k9 ⟨tt, tu, e, h, hu'⟩ => ⟨mk, mktOf F, mt, numsOf F, tt, .ref t1, .ref tu, offP (mktOf F) (numsOf F), rows.dropLast, e, hM7.ex (k8.t k9), ex_t (k8.t k9) hmt7, MF.mt, MF.nb, h, ⟨t1, vs1, rfl, ex_t (k8.t k9) q1, paired_imp p1 fun r v ⟨q, e, z⟩ => ⟨q, e, ex_t (k8.t k9) z⟩⟩, fun p hp => hp, hoff, ⟨tu, vs2.dropLast, rfl, hu', paired_dropLast (paired_imp p2 fun r v z => z.ex (k8.t k9))⟩, (hcut (by rw [← n2]; have := of_decide_eq_true hpos; omega)).1, rfl, rfl, rfl⟩) rfl hX) fun v H9 k9 ⟨_, _, hfin⟩ => ?_) fun cc H8 k8 ⟨e, _⟩ => ⟨"paper", by rw [e]; exact G.TF.t2, rfl⟩) e_str) (by simp))) (by simp)) (fun z => nomatch z) fun _ => s_next (s_lp ⟨_, _, _, _, _, _, _, _, _, _, _, _, _, _, _, rfl, ht7, hd5.ex k57, k57.xat hl5⟩)
      exact absurd hfin (hcut (by rw [← n2]; have := of_decide_eq_true hpos; omega)).2
  · subst e
    refine s_ret (e_k (c_eq (x := .str "fault") (y := .str "fault") rfl (e_told (P := fun v _ => v = .str "fault") (PX := fun cc _ => cc = .ref Cx) G.TT ⟨TB, rfl, rfl, hmT, hu⟩ 1 (by show 3 ≤ 11; decide) ht2 (fun H3 E' k3 hX => EK.imp (e_callX (E' := E') (SS := []) (P := fun _ _ => False) (PA := fun vs _ => vs = [.str "sing"]) G.ref (by show 1 ≤ 1; decide) (k3.tok ht2) (a_1 e_str) (fun vs H4 k4 e => ⟨"sing", e, rfl, rfl, rfl⟩) rfl hX) fun v H4 k4 h => h.elim) fun cc H3 k3 e => ⟨"fault", by rw [e]; exact G.TF.t4, rfl⟩) e_str)) fun v H3 k3 e => ?_
    rw [e]
    exact hQ _
end
end Pm
end
/-! ## E1 -/
section
set_option Elab.async false
set_option linter.all false
set_option maxRecDepth 100000
set_option maxHeartbeats 0
namespace Pm
open PySem PySem.Spec PyProof.Rows L2
/-! ### what the top leaves, by names -/
abbrev mkD (a : He.Defn) (name qual : Str) (st : Stmt) : He.DefD := ⟨a, name, qual, defArgs st, defBody st, defScope st, [], []⟩
def DWish_new : He.DefD := mkD ("Wish", some "__init__") "__init__" "Wish.__init__" (dWish 0)
def DWish_has : He.DefD := mkD ("Wish", some "has") "has" "Wish.has" (dWish 1)
def DWish_rank : He.DefD := mkD ("Wish", some "rank") "rank" "Wish.rank" (dWish 2)
def DWish_better : He.DefD := mkD ("Wish", some "better") "better" "Wish.better" (dWish 3)
def DWish_ahead_of : He.DefD := mkD ("Wish", some "ahead_of") "ahead_of" "Wish.ahead_of" (dWish 4)
def DWish_worst : He.DefD := mkD ("Wish", some "worst") "worst" "Wish.worst" (dWish 5)
def Dcheck_list : He.DefD := mkD ("check_list", none) "check_list" "check_list" (top 11)
def DMarket_new : He.DefD := mkD ("Market", some "__init__") "__init__" "Market.__init__" (dMarket 0)
def DMarket_size : He.DefD := mkD ("Market", some "size") "size" "Market.size" (dMarket 1)
def DMarket_likes : He.DefD := mkD ("Market", some "likes") "likes" "Market.likes" (dMarket 2)
def DMarket_pairs : He.DefD := mkD ("Market", some "pairs") "pairs" "Market.pairs" (dMarket 3)
def Dcheck_match : He.DefD := mkD ("check_match", none) "check_match" "check_match" (top 14)
def Dthose_in : He.DefD := mkD ("those_in", none) "those_in" "those_in" (top 15)
def Dunwanted : He.DefD := mkD ("unwanted", none) "unwanted" "unwanted" (top 16)
def Dcheck_words : He.DefD := mkD ("check_words", none) "check_words" "check_words" (top 18)
def DFair_new : He.DefD := mkD ("Fair", some "__init__") "__init__" "Fair.__init__" (dFair 0)
def DFair_likes : He.DefD := mkD ("Fair", some "likes") "likes" "Fair.likes" (dFair 1)
def DFair_those_in : He.DefD := mkD ("Fair", some "those_in") "those_in" "Fair.those_in" (dFair 2)
def DFair_match : He.DefD := mkD ("Fair", some "match") "match" "Fair.match" (dFair 3)
def DFair_ask : He.DefD := mkD ("Fair", some "ask") "ask" "Fair.ask" (dFair 4)
def DFair_who_waits : He.DefD := mkD ("Fair", some "who_waits") "who_waits" "Fair.who_waits" (dFair 5)
def DFair_go_on : He.DefD := mkD ("Fair", some "go_on") "go_on" "Fair.go_on" (dFair 6)
def DFair_part_of : He.DefD := mkD ("Fair", some "part_of") "part_of" "Fair.part_of" (dFair 7)
def DFair_ask_anew : He.DefD := mkD ("Fair", some "ask_anew") "ask_anew" "Fair.ask_anew" (dFair 8)
def DFair_told : He.DefD := mkD ("Fair", some "told") "told" "Fair.told" (dFair 9)
def DFair_come : He.DefD := mkD ("Fair", some "come") "come" "Fair.come" (dFair 10)
def DFair_leave : He.DefD := mkD ("Fair", some "leave") "leave" "Fair.leave" (dFair 11)
def DFair_wish : He.DefD := mkD ("Fair", some "wish") "wish" "Fair.wish" (dFair 12)
def DFair_open_room : He.DefD := mkD ("Fair", some "open_room") "open_room" "Fair.open_room" (dFair 13)
def DFair_set_room : He.DefD := mkD ("Fair", some "set_room") "set_room" "Fair.set_room" (dFair 14)
def DFair_shut_room : He.DefD := mkD ("Fair", some "shut_room") "shut_room" "Fair.shut_room" (dFair 15)
def DFair_change_room : He.DefD := mkD ("Fair", some "change_room") "change_room" "Fair.change_room" (dFair 16)
def DFair_names : He.DefD := mkD ("Fair", some "names") "names" "Fair.names" (dFair 17)
def DFair_as_market : He.DefD := mkD ("Fair", some "as_market") "as_market" "Fair.as_market" (dFair 18)
def DFair_by_numbers : He.DefD := mkD ("Fair", some "by_numbers") "by_numbers" "Fair.by_numbers" (dFair 19)
def DAsking_new : He.DefD := mkD ("Asking", some "__init__") "__init__" "Asking.__init__" (dAsking 0)
def DAsking_wants : He.DefD := mkD ("Asking", some "wants") "wants" "Asking.wants" (dAsking 1)
def DAsking_ask : He.DefD := mkD ("Asking", some "ask") "ask" "Asking.ask" (dAsking 2)
def DAsking_go_on : He.DefD := mkD ("Asking", some "go_on") "go_on" "Asking.go_on" (dAsking 3)
def Dtrace : He.DefD := mkD ("trace", none) "trace" "trace" (top 22)
def Dstable_paper : He.DefD := mkD ("stable_paper", none) "stable_paper" "stable_paper" (top 24)
def Dwhy_not : He.DefD := mkD ("why_not", none) "why_not" "why_not" (top 25)
def Dcheck_stable : He.DefD := mkD ("check_stable", none) "check_stable" "check_stable" (top 26)
def Dbest_paper : He.DefD := mkD ("best_paper", none) "best_paper" "best_paper" (top 27)
def Dcheck_best : He.DefD := mkD ("check_best", none) "check_best" "check_best" (top 28)
def Dholds_by_right : He.DefD := mkD ("holds_by_right", none) "holds_by_right" "holds_by_right" (top 29)
def Dboth_papers : He.DefD := mkD ("both_papers", none) "both_papers" "both_papers" (top 30)
def Dcheck_both : He.DefD := mkD ("check_both", none) "check_both" "check_both" (top 31)
def Drefuse : He.DefD := mkD ("refuse", none) "refuse" "refuse" (top 33)
def D_law_dice : He.DefD := mkD ("_law_dice", none) "_law_dice" "_law_dice" (top 35)
def D_law_roll : He.DefD := mkD ("_law_roll", none) "_law_roll" "_law_roll" (top 36)
def D_law_rounds : He.DefD := mkD ("_law_rounds", none) "_law_rounds" "_law_rounds" (top 37)
def D_law_told : He.DefD := mkD ("_law_told", none) "_law_told" "_law_told" (top 38)
def D_law_askers : He.DefD := mkD ("_law_askers", none) "_law_askers" "_law_askers" (top 39)
def D_law_rooms : He.DefD := mkD ("_law_rooms", none) "_law_rooms" "_law_rooms" (top 40)
def D_law_list : He.DefD := mkD ("_law_list", none) "_law_list" "_law_list" (top 41)
def D_law_due : He.DefD := mkD ("_law_due", none) "_law_due" "_law_due" (top 42)
def D_law_blocked : He.DefD := mkD ("_law_blocked", none) "_law_blocked" "_law_blocked" (top 43)
def D_law_deed : He.DefD := mkD ("_law_deed", none) "_law_deed" "_law_deed" (top 44)
def Dlaw : He.DefD := mkD ("law", none) "law" "law" (top 45)
def fnE0 : List He.DefD := [DWish_new, DWish_has, DWish_rank, DWish_better, DWish_ahead_of, DWish_worst, Dcheck_list, DMarket_new, DMarket_size, DMarket_likes, DMarket_pairs, Dcheck_match]
def fnE1 : List He.DefD := [Dthose_in, Dunwanted, Dcheck_words, DFair_new, DFair_likes, DFair_those_in, DFair_match, DFair_ask, DFair_who_waits, DFair_go_on, DFair_part_of, DFair_ask_anew]
def fnE2 : List He.DefD := [DFair_told, DFair_come, DFair_leave, DFair_wish, DFair_open_room, DFair_set_room, DFair_shut_room, DFair_change_room, DFair_names, DFair_as_market, DFair_by_numbers, DAsking_new]
def fnE3 : List He.DefD := [DAsking_wants, DAsking_ask, DAsking_go_on, Dtrace, Dstable_paper, Dwhy_not, Dcheck_stable, Dbest_paper, Dcheck_best, Dholds_by_right, Dboth_papers, Dcheck_both]
def fnE4 : List He.DefD := [Drefuse, D_law_dice, D_law_roll, D_law_rounds, D_law_told, D_law_askers, D_law_rooms, D_law_list, D_law_due, D_law_blocked, D_law_deed, Dlaw]
def fnE : List He.DefD := fnE0 ++ (fnE1 ++ (fnE2 ++ (fnE3 ++ (fnE4))))
def faE0 : List He.Fa := [.glo "check_list", .glo "check_match", .glo "those_in", .glo "unwanted", .glo "check_words", .glo "trace", .glo "stable_paper", .glo "why_not", .glo "check_stable", .glo "best_paper", .glo "check_best", .glo "holds_by_right"]
def faE1 : List He.Fa := [.glo "both_papers", .glo "check_both", .glo "refuse", .glo "_law_dice", .glo "_law_roll", .glo "_law_rounds", .glo "_law_told", .glo "_law_askers", .glo "_law_rooms", .glo "_law_list", .glo "_law_due", .glo "_law_blocked"]
def faE2 : List He.Fa := [.glo "_law_deed", .glo "law", .glo "Wish", .glo "Market", .glo "Fair", .glo "Asking", .glo "BadDeed", .glo "BadPaper", .glo "NoSuch", .glo "MarketFault", .free "len", .free "tuple"]
def faE3 : List He.Fa := [.free "dict", .free "enumerate", .free "max", .free "any", .free "all", .free "sorted", .free "range", .free "abs", .free "int", .free "list", .cls "Wish", .mkr "Wish"]
def faE4 : List He.Fa := [.noat "Wish" "order", .noat "Wish" "ranks", .cls "Market", .mkr "Market", .noat "Market" "askers", .noat "Market" "rooms", .noat "Market" "seats", .cls "Fair", .mkr "Fair", .noat "Fair" "lists", .noat "Fair" "orders", .noat "Fair" "seats"]
def faE5 : List He.Fa := [.noat "Fair" "held", .noat "Fair" "next", .noat "Fair" "asks", .cls "Asking", .mkr "Asking", .noat "Asking" "market", .noat "Asking" "next", .noat "Asking" "held", .noat "Asking" "steps", .meth "Wish" "has", .meth "Wish" "rank", .meth "Wish" "better"]
def faE6 : List He.Fa := [.meth "Wish" "ahead_of", .meth "Wish" "worst", .meth "Market" "size", .meth "Market" "likes", .meth "Market" "pairs", .meth "Fair" "likes", .meth "Fair" "those_in", .meth "Fair" "match", .meth "Fair" "ask", .meth "Fair" "who_waits", .meth "Fair" "go_on", .meth "Fair" "part_of"]
def faE7 : List He.Fa := [.meth "Fair" "ask_anew", .meth "Fair" "told", .meth "Fair" "come", .meth "Fair" "leave", .meth "Fair" "wish", .meth "Fair" "open_room", .meth "Fair" "set_room", .meth "Fair" "shut_room", .meth "Fair" "change_room", .meth "Fair" "names", .meth "Fair" "as_market", .meth "Fair" "by_numbers"]
def faE8 : List He.Fa := [.meth "Asking" "wants", .meth "Asking" "ask", .meth "Asking" "go_on", .exc "BadDeed", .exc "BadPaper", .exc "NoSuch", .exc "MarketFault", .exm "BadDeed" "BadDeed" true, .exm "BadPaper" "BadDeed" false, .exm "BadPaper" "BadPaper" true, .exm "NoSuch" "BadDeed" false, .exm "NoSuch" "BadPaper" false]
def faE9 : List He.Fa := [.exm "NoSuch" "NoSuch" true, .exm "MarketFault" "BadDeed" false, .exm "MarketFault" "BadPaper" false, .exm "MarketFault" "NoSuch" false, .exm "MarketFault" "MarketFault" true]
def faE : List He.Fa := faE0 ++ (faE1 ++ (faE2 ++ (faE3 ++ (faE4 ++ (faE5 ++ (faE6 ++ (faE7 ++ (faE8 ++ (faE9)))))))))
def tfE0 : List He.Defn := [("Wish", some "worst"), ("check_list", none), ("Market", some "__init__"), ("check_match", none), ("why_not", none), ("check_stable", none), ("check_best", none), ("holds_by_right", none), ("_law_due", none), ("_law_deed", none), ("law", none)]
def tfE : List He.Defn := tfE0
def allDiff : List Addr → Bool
  | [] => true
  | a :: r => r.all (fun b => !(a == b)) && allDiff r
def exE (K : PySem.W.Frag) : Bool := allDiff (tfE.map fun p => (He.cT K p).2)
def loE0 : List Str := ["_wall", "__name__", "MarketFault", "BadWish", "BadRoom", "BadMatch", "BadPaper", "NoSuch", "BadDeed", "Wish", "check_list", "Market"]
def loE1 : List Str := ["check_match", "those_in", "unwanted", "check_words", "Fair", "Asking", "trace", "stable_paper", "why_not", "check_stable", "best_paper", "check_best"]
def loE2 : List Str := ["holds_by_right", "both_papers", "check_both", "refuse", "_law_dice", "_law_roll", "_law_rounds", "_law_told", "_law_askers", "_law_rooms", "_law_list", "_law_due"]
def loE3 : List Str := ["_law_blocked", "_law_deed"]
def loE : List Str := loE0 ++ (loE1 ++ (loE2 ++ (loE3)))
abbrev RE : PySem.W.OpenRow := PySem.W.OpenLaw.row PySem.Challenge.rw_pairmart_k63_whole_at_any_size
abbrev hkE : PySem.W.Hook := He.hookX 4 faE fnE [] tfE exE
def obE (s : PySem.W.SharedT) : He.AlX := He.obsX 4 faE fnE [] tfE exE (HandSHeadRun.getT s)
theorem obE_eq (s : PySem.W.SharedT) : obE s = hkE.obs s.abs := He.obsX_eq (HandSHeadRun.getT_eq s)
theorem runE (w : World) : HandSHeadRun.RunEq RE (PySem.W.view RE.prog [45]) hkE obE 6000 loE w := by
  intro os
  kernel_rfl
end Pm
end
/-! ## E2 -/
section
set_option Elab.async false
set_option linter.all false
set_option maxRecDepth 100000
set_option maxHeartbeats 2000000
namespace Pm
open PySem PySem.Spec PyProof.Rows L2
/-! ### the tables, by names -/
def nmE0 : List Str := ["Wish.worst.<locals>.<lambda>", "check_list.<locals>.<genexpr>", "Market.__init__.<locals>.<genexpr>", "check_match.<locals>.<genexpr>", "why_not.<locals>.<genexpr>", "check_stable.<locals>.<genexpr>", "check_best.<locals>.<genexpr>", "holds_by_right.<locals>.<genexpr>", "_law_due.<locals>.<lambda>", "_law_deed.<locals>.<lambda>", "law.<locals>.<lambda>"]
def nmE : List Str := nmE0
def GE (K : PySem.W.Frag) : Gt := (tfE.zip nmE).map fun p => ((He.cT K p.1).2, p.2)
theorem allDiff_inj {α : Type} {f : α → Addr} : ∀ {l : List α}, allDiff (l.map f) = true → ∀ a ∈ l, ∀ b ∈ l, f a = f b → a = b
  | [], _, a, h, _, _, _ => nomatch h
  | c :: r, h, a, ha, b, hb, e => by
    obtain ⟨h1, h2⟩ := He.ba (show ((r.map f).all (fun b => !(f c == b)) && allDiff (r.map f)) = true from h)
    have key : ∀ x ∈ r, f c ≠ f x := fun x hx z => by
      have := List.all_eq_true.mp h1 (f x) (List.mem_map.mpr ⟨x, hx, rfl⟩)
      rw [z] at this
      simp at this
    rcases List.mem_cons.mp ha with z | ha'
    · rcases List.mem_cons.mp hb with z2 | hb'
      · rw [z, z2]
      · rw [z] at e
        exact absurd e (key b hb')
    · rcases List.mem_cons.mp hb with z2 | hb'
      · rw [z2] at e
        exact absurd e.symm (key a ha')
      · exact allDiff_inj h2 a ha' b hb' e
abbrev BE (P : Program) (w : World) (K : PySem.W.Frag) (mg : Str → Option Value) (base : Heap) : Bs := ⟨P, w, K, mg, base, GE K⟩
structure EndF (K : PySem.W.Frag) (mg : Str → Option Value) (base : Heap) : Prop where
  c : He.SaysD faE fnE K
  ex : exE K = true
  X : K.In base
  G : base.Ns mainGlobals mg
  TB : ∀ p ∈ tfE, LamX.TabB base mg (He.cT K p).1 (He.cT K p).2
section
variable {P : Program} {w : World} {K : PySem.W.Frag} {mg : Str → Option Value} {base : Heap}
theorem funC_of {K : PySem.W.Frag} (c : He.SaysD faE fnE K) (i : Nat) {a : He.Defn} {name qual : Str} {st : Stmt} (h : fnE[i]? = some (mkD a name qual st)) : ∃ fd, FunC K name qual st (He.fAd K a) fd (.ref (He.cT K a).1) := by
  obtain ⟨fd, F⟩ := c.def_ i h
  obtain ⟨oc, od, dV, kV, doc, pm, an, cdv, ct, osl, rfl, lk, hcd, hD, _⟩ := F.ex
  have hD' : dV = .none := by
    rcases hD with ⟨_, h⟩ | ⟨h, _⟩
    · exact h
    · exact absurd rfl h
  subst hD'
  obtain ⟨c, rfl⟩ := He.codeIn_ref hcd
  have e : He.codeOf K a = c := He.codeOf_eq (p := a) lk rfl
  have e2 : (He.cT K a).1 = c := e
  rw [e2]
  exact ⟨_, ⟨oc, od, kV, doc, pm, an, ct, osl, rfl, lk, hcd⟩, F.kp⟩
theorem funE (Z : EndF K mg base) (i : Nat) {a : He.Defn} {name qual : Str} {st : Stmt} (h : fnE[i]? = some (mkD a name qual st)) : ∃ fd, FunC K name qual st (He.fAd K a) fd (.ref (He.cT K a).1) := funC_of Z.c i h
theorem FunC.bindsN {K : PySem.W.Frag} {x qual : Str} {st : Stmt} {f : Addr} {fd : FuncData} {cdv : Value} {ps : List Str} (F : FunC K x qual st f fd cdv)
    (h : ∀ (kV doc pm : Value) (an : Option Addr) (cdv ct : Value) (us : List Value), us.length = ps.length → bindArgs (PySem.W.fnOf x qual (defArgs st) (defBody st) (defScope st) .none kV doc pm an cdv ct) ⟨us, []⟩ = pure (ps.zip us)) : Binds K fd ps [] := by
  obtain ⟨oc, od, kV, doc, pm, an, ct, osl, rfl, lk, hcd⟩ := F.ex
  exact .all (h kV doc pm an cdv ct)
theorem FunC.bindsA {K : PySem.W.Frag} {x qual : Str} {st : Stmt} {f : Addr} {fd : FuncData} {cdv : Value} {ps : List Str} (F : FunC K x qual st f fd cdv)
    (h : ∀ (kV doc pm : Value) (an : Option Addr) (cdv ct : Value) (us : List Value), us.length = ps.length → bindArgs (PySem.W.fnOf x qual (defArgs st) (defBody st) (defScope st) .none kV doc pm an cdv ct) ⟨us, []⟩ = pure (ps.zip us)) (s : Shared) (us : List Value) (hl : us.length = ps.length) : BindsTo s fd ⟨us, []⟩ (ps.zip us) := by
  obtain ⟨oc, od, kV, doc, pm, an, ct, osl, rfl, lk, hcd⟩ := F.ex
  exact .of_eq (h kV doc pm an cdv ct us hl)
theorem gloE (Z : EndF K mg base) (i : Nat) {x : Str} (h : faE[i]? = some (.glo x)) : mg x = some (.ref (He.ga K x)) := He.glo_ok Z.X Z.G (Z.c.fact i h)
theorem freeE (Z : EndF K mg base) (i : Nat) {x : Str} (h : faE[i]? = some (.free x)) : mg x = none := He.free_ok Z.X Z.G (Z.c.fact i h)
theorem clsE (Z : EndF K mg base) (i : Nat) {x : Str} (h : faE[i]? = some (.cls x)) : Cls K (He.ga K x) := He.cls_ok (Z.c.fact i h)
theorem mkrE (Z : EndF K mg base) (i : Nat) {x : Str} (h : faE[i]? = some (.mkr x)) : Mk K (He.ga K x) (He.ma K (He.ga K x) "__init__") := He.mkr_ok (Z.c.fact i h)
theorem noatE (Z : EndF K mg base) (i : Nat) {x f : Str} (h : faE[i]? = some (.noat x f)) : NoAttr K (He.ga K x) f := He.noat_ok (Z.c.fact i h)
theorem methE (Z : EndF K mg base) (i : Nat) {x m : Str} (h : faE[i]? = some (.meth x m)) : Meth K (He.ga K x) m (He.ma K (He.ga K x) m) := He.meth_ok (Z.c.fact i h)
theorem exmE (Z : EndF K mg base) (i : Nat) {x y : Str} {b : Bool} (h : faE[i]? = some (.exm x y b)) : PySem.W.exmOne K (.ref (He.ga K x)) (.ref (He.ga K y)) = some b := He.exm_ok (Z.c.fact i h)
theorem excE (Z : EndF K mg base) (i j : Nat) {x : Str} (h : faE[i]? = some (.exc x)) (g : faE[j]? = some (.glo x)) : ExcC (BE P w K mg base) x (He.ga K x) := by
  obtain ⟨h1, h2, h3, h4⟩ := He.exc_ok (Z.c.fact i h)
  exact ⟨gloE Z j g, h1, h2, h3, h4⟩
theorem tabE (Z : EndF K mg base) (i : Nat) {a : He.Defn} (h : tfE[i]? = some a) : LamX.TabB base mg (He.cT K a).1 (He.cT K a).2 := Z.TB a (List.mem_of_getElem? h)
theorem memE (i : Nat) {a : He.Defn} {n : Str} (h : (tfE.zip nmE)[i]? = some (a, n)) : ((He.cT K a).2, n) ∈ GE K := List.mem_map.mpr ⟨(a, n), List.mem_of_getElem? h, rfl⟩
theorem uniqE (Z : EndF K mg base) (i : Nat) {a : He.Defn} {n : Str} (h : (tfE.zip nmE)[i]? = some (a, n)) : ∀ p ∈ GE K, p.1 = (He.cT K a).2 → p.2 = n := fun p hp e => by
  obtain ⟨⟨b, m⟩, hb, rfl⟩ := List.mem_map.mp hp
  have h1 : allDiff ((tfE.zip nmE).map fun p => (He.cT K p.1).2) = true := Z.ex
  have h2 := allDiff_inj (f := fun p : He.Defn × Str => (He.cT K p.1).2) h1 (b, m) hb (a, n) (List.mem_of_getElem? h) e
  exact congrArg (fun z => z.2) h2
theorem mk_GF {B : Bs} {k : Nat} {x qual : Str} {pre : Pre} {f : Addr} {fd : FuncData} {cdv : Value} {st : Stmt} {ps : List Str} (F : FunC B.K x qual st f fd cdv) (hm : B.mg x = some (.ref f)) (hb : Binds B.K fd ps []) (ok : FnOk B.P B.w B.K B.mg B.base CX0 k f fd ps (spM B.G pre)) (cl : PreEx B.G pre) : GF B k x pre := ⟨⟨f, fd, ps, hm, F.kp, hb, ok⟩, cl⟩
theorem mk_GFX {B : Bs} {k : Nat} {x qual : Str} {pre : PreX} {f : Addr} {fd : FuncData} {cdv : Value} {st : Stmt} {ps : List Str} (F : FunC B.K x qual st f fd cdv) (hm : B.mg x = some (.ref f)) (hb : Binds B.K fd ps []) (ok : FnOk B.P B.w B.K B.mg B.base (L2.CX B.P B.w) k f fd ps (spX B.G pre)) (cl : PreExX B.G pre) : GFX B k x pre := ⟨⟨f, fd, ps, hm, F.kp, hb, ok⟩, cl⟩
theorem mk_GM {B : Bs} {k : Nat} {m : Str} {pre : Pre} {Cl f : Addr} {fd : FuncData} {ps : List Str} (hc : Cls B.K Cl) (hm : Meth B.K Cl m f) (hb : Binds B.K fd ps []) (ok : FnOk B.P B.w B.K B.mg B.base CX0 k f fd ps (spM B.G pre)) (cl : PreEx B.G pre) : GM B k Cl m pre := ⟨⟨f, fd, ps, hc, hm, hb, ok⟩, cl⟩
theorem mk_GMX {B : Bs} {k : Nat} {m : Str} {pre : PreX} {Cl f : Addr} {fd : FuncData} {ps : List Str} (hc : Cls B.K Cl) (hm : Meth B.K Cl m f) (hb : Binds B.K fd ps []) (ok : FnOk B.P B.w B.K B.mg B.base (L2.CX B.P B.w) k f fd ps (spX B.G pre)) (cl : PreExX B.G pre) : GMX B k Cl m pre := ⟨⟨f, fd, ps, hc, hm, hb, ok⟩, cl⟩
theorem mk_GK {B : Bs} {k : Nat} {x : Str} {pre : Pre} {Cl f : Addr} {fd : FuncData} {ps : List Str} (hm : B.mg x = some (.ref Cl)) (hk : Mk B.K Cl f) (hb : Binds B.K fd ps []) (ok : FnOk B.P B.w B.K B.mg B.base CX0 k f fd ps (spM B.G pre)) (cl : PreEx B.G pre) : GK B k x Cl pre := ⟨⟨f, fd, ps, hm, hk, hb, ok⟩, cl⟩
theorem wishE (Z : EndF K mg base) : WishC (BE P w K mg base) (He.ga K "Wish") := ⟨(clsE Z 46 (x := "Wish") rfl), (noatE Z 48 (x := "Wish") (f := "order") rfl), (noatE Z 49 (x := "Wish") (f := "ranks") rfl), (freeE Z 34 (x := "len") rfl), (freeE Z 35 (x := "tuple") rfl), (freeE Z 36 (x := "dict") rfl), (freeE Z 37 (x := "enumerate") rfl), (freeE Z 38 (x := "max") rfl)⟩
theorem mktE (Z : EndF K mg base) : MktC (BE P w K mg base) (He.ga K "Wish") (He.ga K "Market") := ⟨(clsE Z 50 (x := "Market") rfl), (noatE Z 52 (x := "Market") (f := "askers") rfl), (noatE Z 53 (x := "Market") (f := "rooms") rfl), (noatE Z 54 (x := "Market") (f := "seats") rfl), (freeE Z 34 (x := "len") rfl), (freeE Z 35 (x := "tuple") rfl), (freeE Z 36 (x := "dict") rfl), (freeE Z 37 (x := "enumerate") rfl), (freeE Z 39 (x := "any") rfl)⟩
theorem askE (Z : EndF K mg base) : AskC (BE P w K mg base) (He.ga K "Asking") := ⟨(clsE Z 63 (x := "Asking") rfl), (noatE Z 65 (x := "Asking") (f := "market") rfl), (noatE Z 66 (x := "Asking") (f := "next") rfl), (noatE Z 67 (x := "Asking") (f := "held") rfl), (noatE Z 68 (x := "Asking") (f := "steps") rfl), (freeE Z 42 (x := "range") rfl)⟩
theorem fairE (Z : EndF K mg base) : FairC (BE P w K mg base) (He.ga K "Fair") := ⟨(clsE Z 55 (x := "Fair") rfl), (noatE Z 57 (x := "Fair") (f := "lists") rfl), (noatE Z 58 (x := "Fair") (f := "orders") rfl), (noatE Z 59 (x := "Fair") (f := "seats") rfl), (noatE Z 60 (x := "Fair") (f := "held") rfl), (noatE Z 61 (x := "Fair") (f := "next") rfl), (noatE Z 62 (x := "Fair") (f := "asks") rfl), (freeE Z 34 (x := "len") rfl), (freeE Z 35 (x := "tuple") rfl), (freeE Z 36 (x := "dict") rfl), (freeE Z 45 (x := "list") rfl), (freeE Z 41 (x := "sorted") rfl)⟩
theorem lawE (Z : EndF K mg base) : LawC (BE P w K mg base) := ⟨(freeE Z 43 (x := "abs") rfl), (freeE Z 44 (x := "int") rfl), (freeE Z 42 (x := "range") rfl), (freeE Z 34 (x := "len") rfl), (freeE Z 45 (x := "list") rfl), (freeE Z 36 (x := "dict") rfl), (freeE Z 41 (x := "sorted") rfl), (freeE Z 35 (x := "tuple") rfl)⟩
theorem excPE (Z : EndF K mg base) : ExcC (BE P w K mg base) "BadPaper" (He.ga K "BadPaper") := excE Z 100 31 (x := "BadPaper") rfl rfl
theorem excDE (Z : EndF K mg base) : ExcC (BE P w K mg base) "BadDeed" (He.ga K "BadDeed") := excE Z 99 30 (x := "BadDeed") rfl rfl
theorem excNE (Z : EndF K mg base) : ExcC (BE P w K mg base) "NoSuch" (He.ga K "NoSuch") := excE Z 101 32 (x := "NoSuch") rfl rfl
theorem excFE (Z : EndF K mg base) : ExcC (BE P w K mg base) "MarketFault" (He.ga K "MarketFault") := excE Z 102 33 (x := "MarketFault") rfl rfl
theorem toldE (Z : EndF K mg base) : ToldF (BE P w K mg base) (He.ga K "BadDeed") (He.ga K "BadPaper") (He.ga K "NoSuch") (He.ga K "MarketFault") where
  t1 := .inl ⟨(exmE Z 103 (x := "BadDeed") (y := "BadDeed") (b := true) rfl), rfl⟩
  t2 := .inr ⟨(exmE Z 104 (x := "BadPaper") (y := "BadDeed") (b := false) rfl), .inl ⟨(exmE Z 105 (x := "BadPaper") (y := "BadPaper") (b := true) rfl), rfl⟩⟩
  t3 := .inr ⟨(exmE Z 106 (x := "NoSuch") (y := "BadDeed") (b := false) rfl), .inr ⟨(exmE Z 107 (x := "NoSuch") (y := "BadPaper") (b := false) rfl), .inl ⟨(exmE Z 108 (x := "NoSuch") (y := "NoSuch") (b := true) rfl), rfl⟩⟩⟩
  t4 := .inr ⟨(exmE Z 109 (x := "MarketFault") (y := "BadDeed") (b := false) rfl), .inr ⟨(exmE Z 110 (x := "MarketFault") (y := "BadPaper") (b := false) rfl), .inr ⟨(exmE Z 111 (x := "MarketFault") (y := "NoSuch") (b := false) rfl), .inl ⟨(exmE Z 112 (x := "MarketFault") (y := "MarketFault") (b := true) rfl), rfl⟩⟩⟩⟩
theorem tlE (Z : EndF K mg base) : TlC (BE P w K mg base) (He.ga K "BadDeed") (He.ga K "BadPaper") (He.ga K "NoSuch") (He.ga K "MarketFault") := by
  obtain ⟨fd, F⟩ := funE Z 52 (a := ("_law_told", none)) (name := "_law_told") (qual := "_law_told") (st := (top 38)) rfl
  exact ⟨⟨_, fd, _, F, gloE Z 18 (x := "_law_told") rfl, F.bindsN (fun _ _ _ _ _ _ us hl => match us, hl with | [_], _ => rfl)⟩, gloE Z 30 (x := "BadDeed") rfl, gloE Z 31 (x := "BadPaper") rfl, gloE Z 32 (x := "NoSuch") rfl, gloE Z 33 (x := "MarketFault") rfl⟩
theorem g_Wish_has (Z : EndF K mg base) : GM (BE P w K mg base) 1 (He.ga K "Wish") "has" (pHas (BE P w K mg base) (He.ga K "Wish")) := by
  obtain ⟨fd, F⟩ := funE Z 1 (a := ("Wish", some "has")) (name := "has") (qual := "Wish.has") (st := (dWish 1)) rfl
  exact mk_GM (clsE Z 46 (x := "Wish") rfl) (methE Z 69 (x := "Wish") (m := "has") rfl) (F.bindsN (fun _ _ _ _ _ _ us hl => match us, hl with | [_, _], _ => rfl)) (ok_has (wishE Z) F) pHas_ex
theorem g_Wish_rank (Z : EndF K mg base) : GM (BE P w K mg base) 1 (He.ga K "Wish") "rank" (pRank (BE P w K mg base) (He.ga K "Wish")) := by
  obtain ⟨fd, F⟩ := funE Z 2 (a := ("Wish", some "rank")) (name := "rank") (qual := "Wish.rank") (st := (dWish 2)) rfl
  exact mk_GM (clsE Z 46 (x := "Wish") rfl) (methE Z 70 (x := "Wish") (m := "rank") rfl) (F.bindsN (fun _ _ _ _ _ _ us hl => match us, hl with | [_, _], _ => rfl)) (ok_rank (wishE Z) F) pRank_ex
theorem g_Wish_better (Z : EndF K mg base) : GM (BE P w K mg base) 2 (He.ga K "Wish") "better" (pBetter (BE P w K mg base) (He.ga K "Wish")) := by
  obtain ⟨fd, F⟩ := funE Z 3 (a := ("Wish", some "better")) (name := "better") (qual := "Wish.better") (st := (dWish 3)) rfl
  exact mk_GM (clsE Z 46 (x := "Wish") rfl) (methE Z 71 (x := "Wish") (m := "better") rfl) (F.bindsN (fun _ _ _ _ _ _ us hl => match us, hl with | [_, _, _], _ => rfl)) (ok_better (wishE Z) F (g_Wish_rank Z)) pBetter_ex
theorem g_Wish_ahead_of (Z : EndF K mg base) : GM (BE P w K mg base) 2 (He.ga K "Wish") "ahead_of" (pAhead (BE P w K mg base) (He.ga K "Wish")) := by
  obtain ⟨fd, F⟩ := funE Z 4 (a := ("Wish", some "ahead_of")) (name := "ahead_of") (qual := "Wish.ahead_of") (st := (dWish 4)) rfl
  exact mk_GM (clsE Z 46 (x := "Wish") rfl) (methE Z 72 (x := "Wish") (m := "ahead_of") rfl) (F.bindsN (fun _ _ _ _ _ _ us hl => match us, hl with | [_, _], _ => rfl)) (ok_ahead (wishE Z) F (g_Wish_rank Z)) pAhead_ex
theorem g_Wish_worst (Z : EndF K mg base) : GM (BE P w K mg base) 4 (He.ga K "Wish") "worst" (pWorst (BE P w K mg base) (He.ga K "Wish")) := by
  obtain ⟨fd, F⟩ := funE Z 5 (a := ("Wish", some "worst")) (name := "worst") (qual := "Wish.worst") (st := (dWish 5)) rfl
  exact mk_GM (clsE Z 46 (x := "Wish") rfl) (methE Z 73 (x := "Wish") (m := "worst") rfl) (F.bindsN (fun _ _ _ _ _ _ us hl => match us, hl with | [_, _], _ => rfl)) (ok_worst (wishE Z) F (tabE Z 0 (a := ("Wish", some "worst")) rfl) (memE 0 (a := ("Wish", some "worst")) (n := "Wish.worst.<locals>.<lambda>") rfl) (uniqE Z 0 (a := ("Wish", some "worst")) (n := "Wish.worst.<locals>.<lambda>") rfl)) pWorst_ex
theorem g_Wish_new (Z : EndF K mg base) : GK (BE P w K mg base) 2 "Wish" (He.ga K "Wish") (pWishI (BE P w K mg base) (He.ga K "Wish")) := by
  obtain ⟨fd, F⟩ := funE Z 0 (a := ("Wish", some "__init__")) (name := "__init__") (qual := "Wish.__init__") (st := (dWish 0)) rfl
  exact mk_GK (gloE Z 26 (x := "Wish") rfl) (mkrE Z 47 (x := "Wish") rfl) (F.bindsN (fun _ _ _ _ _ _ us hl => match us, hl with | [_, _], _ => rfl)) (ok_wishI (wishE Z) F) pWishI_ex
theorem g_check_list (Z : EndF K mg base) : GF (BE P w K mg base) 4 "check_list" (pCheckList (BE P w K mg base)) := by
  obtain ⟨fd, F⟩ := funE Z 6 (a := ("check_list", none)) (name := "check_list") (qual := "check_list") (st := (top 11)) rfl
  exact mk_GF F (gloE Z 0 (x := "check_list") rfl) (F.bindsN (fun _ _ _ _ _ _ us hl => match us, hl with | [_, _], _ => rfl)) (ok_checkList (mktE Z) F (tabE Z 1 (a := ("check_list", none)) rfl) (memE 1 (a := ("check_list", none)) (n := "check_list.<locals>.<genexpr>") rfl) (uniqE Z 1 (a := ("check_list", none)) (n := "check_list.<locals>.<genexpr>") rfl)) pCheckList_ex
theorem g_Market_size (Z : EndF K mg base) : GM (BE P w K mg base) 1 (He.ga K "Market") "size" (pSize (BE P w K mg base) (He.ga K "Wish") (He.ga K "Market")) := by
  obtain ⟨fd, F⟩ := funE Z 8 (a := ("Market", some "size")) (name := "size") (qual := "Market.size") (st := (dMarket 1)) rfl
  exact mk_GM (clsE Z 50 (x := "Market") rfl) (methE Z 74 (x := "Market") (m := "size") rfl) (F.bindsN (fun _ _ _ _ _ _ us hl => match us, hl with | [_], _ => rfl)) (ok_size (mktE Z) F) pSize_ex
theorem g_Market_likes (Z : EndF K mg base) : GM (BE P w K mg base) 2 (He.ga K "Market") "likes" (pLikes (BE P w K mg base) (He.ga K "Wish") (He.ga K "Market")) := by
  obtain ⟨fd, F⟩ := funE Z 9 (a := ("Market", some "likes")) (name := "likes") (qual := "Market.likes") (st := (dMarket 2)) rfl
  exact mk_GM (clsE Z 50 (x := "Market") rfl) (methE Z 75 (x := "Market") (m := "likes") rfl) (F.bindsN (fun _ _ _ _ _ _ us hl => match us, hl with | [_, _, _], _ => rfl)) (ok_likes (mktE Z) F (g_Wish_has Z)) pLikes_ex
theorem g_Market_pairs (Z : EndF K mg base) : GM (BE P w K mg base) 2 (He.ga K "Market") "pairs" (pPairs (BE P w K mg base) (He.ga K "Wish") (He.ga K "Market")) := by
  obtain ⟨fd, F⟩ := funE Z 10 (a := ("Market", some "pairs")) (name := "pairs") (qual := "Market.pairs") (st := (dMarket 3)) rfl
  exact mk_GM (clsE Z 50 (x := "Market") rfl) (methE Z 76 (x := "Market") (m := "pairs") rfl) (F.bindsN (fun _ _ _ _ _ _ us hl => match us, hl with | [_], _ => rfl)) (ok_pairs (wishE Z) (mktE Z) F (g_Wish_has Z)) pPairs_ex
theorem g_Market_new (Z : EndF K mg base) : GK (BE P w K mg base) 5 "Market" (He.ga K "Market") (pMktI (BE P w K mg base) (He.ga K "Wish") (He.ga K "Market")) := by
  obtain ⟨fd, F⟩ := funE Z 7 (a := ("Market", some "__init__")) (name := "__init__") (qual := "Market.__init__") (st := (dMarket 0)) rfl
  exact mk_GK (gloE Z 27 (x := "Market") rfl) (mkrE Z 51 (x := "Market") rfl) (F.bindsN (fun _ _ _ _ _ _ us hl => match us, hl with | [_, _, _, _], _ => rfl)) (ok_mktI (wishE Z) (mktE Z) F (tabE Z 2 (a := ("Market", some "__init__")) rfl) (memE 2 (a := ("Market", some "__init__")) (n := "Market.__init__.<locals>.<genexpr>") rfl) (uniqE Z 2 (a := ("Market", some "__init__")) (n := "Market.__init__.<locals>.<genexpr>") rfl) (g_check_list Z) (g_Wish_new Z)) pMktI_ex
theorem g_those_in (Z : EndF K mg base) : GF (BE P w K mg base) 1 "those_in" (pThoseIn (BE P w K mg base)) := by
  obtain ⟨fd, F⟩ := funE Z 12 (a := ("those_in", none)) (name := "those_in") (qual := "those_in") (st := (top 15)) rfl
  exact mk_GF F (gloE Z 2 (x := "those_in") rfl) (F.bindsN (fun _ _ _ _ _ _ us hl => match us, hl with | [_, _], _ => rfl)) (ok_thoseIn (wishE Z) (mktE Z) F) pThoseIn_ex
theorem g_unwanted (Z : EndF K mg base) : GF (BE P w K mg base) 3 "unwanted" (pUnwanted (BE P w K mg base) (He.ga K "Wish") (He.ga K "Market")) := by
  obtain ⟨fd, F⟩ := funE Z 13 (a := ("unwanted", none)) (name := "unwanted") (qual := "unwanted") (st := (top 16)) rfl
  exact mk_GF F (gloE Z 3 (x := "unwanted") rfl) (F.bindsN (fun _ _ _ _ _ _ us hl => match us, hl with | [_, _], _ => rfl)) (ok_unwanted (wishE Z) (mktE Z) F (g_Market_likes Z)) pUnwanted_ex
theorem g_check_match (Z : EndF K mg base) : GF (BE P w K mg base) 4 "check_match" (pCheckMatch (BE P w K mg base) (He.ga K "Wish") (He.ga K "Market")) := by
  obtain ⟨fd, F⟩ := funE Z 11 (a := ("check_match", none)) (name := "check_match") (qual := "check_match") (st := (top 14)) rfl
  exact mk_GF F (gloE Z 1 (x := "check_match") rfl) (F.bindsN (fun _ _ _ _ _ _ us hl => match us, hl with | [_, _], _ => rfl)) (ok_checkMatch (mktE Z) F (tabE Z 3 (a := ("check_match", none)) rfl) (memE 3 (a := ("check_match", none)) (n := "check_match.<locals>.<genexpr>") rfl) (uniqE Z 3 (a := ("check_match", none)) (n := "check_match.<locals>.<genexpr>") rfl) (g_Market_size Z)) pCheckMatch_ex
theorem g_Asking_wants (Z : EndF K mg base) : GM (BE P w K mg base) 1 (He.ga K "Asking") "wants" (pWants (BE P w K mg base) (He.ga K "Wish") (He.ga K "Market") (He.ga K "Asking")) := by
  obtain ⟨fd, F⟩ := funE Z 36 (a := ("Asking", some "wants")) (name := "wants") (qual := "Asking.wants") (st := (dAsking 1)) rfl
  exact mk_GM (clsE Z 63 (x := "Asking") rfl) (methE Z 96 (x := "Asking") (m := "wants") rfl) (F.bindsN (fun _ _ _ _ _ _ us hl => match us, hl with | [_, _], _ => rfl)) (ok_wants (wishE Z) (mktE Z) (askE Z) F) pWants_ex
theorem g_Asking_new (Z : EndF K mg base) : GK (BE P w K mg base) 2 "Asking" (He.ga K "Asking") (pAskI (BE P w K mg base) (He.ga K "Wish") (He.ga K "Market") (He.ga K "Asking")) := by
  obtain ⟨fd, F⟩ := funE Z 35 (a := ("Asking", some "__init__")) (name := "__init__") (qual := "Asking.__init__") (st := (dAsking 0)) rfl
  exact mk_GK (gloE Z 29 (x := "Asking") rfl) (mkrE Z 64 (x := "Asking") rfl) (F.bindsN (fun _ _ _ _ _ _ us hl => match us, hl with | [_, _], _ => rfl)) (ok_askI (wishE Z) (mktE Z) (askE Z) F (g_Market_size Z)) pAskI_ex
theorem g_Asking_ask (Z : EndF K mg base) : GM (BE P w K mg base) 5 (He.ga K "Asking") "ask" (pAsk (BE P w K mg base) (He.ga K "Wish") (He.ga K "Market") (He.ga K "Asking")) := by
  obtain ⟨fd, F⟩ := funE Z 37 (a := ("Asking", some "ask")) (name := "ask") (qual := "Asking.ask") (st := (dAsking 2)) rfl
  exact mk_GM (clsE Z 63 (x := "Asking") rfl) (methE Z 97 (x := "Asking") (m := "ask") rfl) (F.bindsN (fun _ _ _ _ _ _ us hl => match us, hl with | [_, _], _ => rfl)) (ok_ask (wishE Z) (mktE Z) (askE Z) F (g_Wish_has Z) (g_Wish_worst Z) (g_those_in Z)) pAsk_ex
theorem g_Asking_go_on (Z : EndF K mg base) : GM (BE P w K mg base) 6 (He.ga K "Asking") "go_on" (pGoOn (BE P w K mg base) (He.ga K "Wish") (He.ga K "Market") (He.ga K "Asking")) := by
  obtain ⟨fd, F⟩ := funE Z 38 (a := ("Asking", some "go_on")) (name := "go_on") (qual := "Asking.go_on") (st := (dAsking 3)) rfl
  exact mk_GM (clsE Z 63 (x := "Asking") rfl) (methE Z 98 (x := "Asking") (m := "go_on") rfl) (F.bindsN (fun _ _ _ _ _ _ us hl => match us, hl with | [_], _ => rfl)) (ok_goOn (mktE Z) (askE Z) F (g_Market_size Z) (g_Asking_wants Z) (g_Asking_ask Z)) pGoOn_ex
theorem g_trace (Z : EndF K mg base) : GF (BE P w K mg base) 7 "trace" (pTrace (BE P w K mg base) (He.ga K "Wish") (He.ga K "Market")) := by
  obtain ⟨fd, F⟩ := funE Z 39 (a := ("trace", none)) (name := "trace") (qual := "trace") (st := (top 22)) rfl
  exact mk_GF F (gloE Z 5 (x := "trace") rfl) (F.bindsN (fun _ _ _ _ _ _ us hl => match us, hl with | [_], _ => rfl)) (ok_trace (mktE Z) (askE Z) F (g_Asking_new Z) (g_Asking_go_on Z)) pTrace_ex
theorem g_why_not (Z : EndF K mg base) : GF (BE P w K mg base) 6 "why_not" (pWhyNot (BE P w K mg base) (He.ga K "Wish") (He.ga K "Market")) := by
  obtain ⟨fd, F⟩ := funE Z 41 (a := ("why_not", none)) (name := "why_not") (qual := "why_not") (st := (top 25)) rfl
  exact mk_GF F (gloE Z 7 (x := "why_not") rfl) (F.bindsN (fun _ _ _ _ _ _ us hl => match us, hl with | [_, _, _, _], _ => rfl)) (ok_whyNot (mktE Z) F (tabE Z 4 (a := ("why_not", none)) rfl) (memE 4 (a := ("why_not", none)) (n := "why_not.<locals>.<genexpr>") rfl) (uniqE Z 4 (a := ("why_not", none)) (n := "why_not.<locals>.<genexpr>") rfl) (freeE Z 40 (x := "all") rfl) (g_Wish_better Z) (g_those_in Z)) pWhyNot_ex
theorem g_stable_paper (Z : EndF K mg base) : GF (BE P w K mg base) 7 "stable_paper" (pStable (BE P w K mg base) (He.ga K "Wish") (He.ga K "Market")) := by
  obtain ⟨fd, F⟩ := funE Z 40 (a := ("stable_paper", none)) (name := "stable_paper") (qual := "stable_paper") (st := (top 24)) rfl
  exact mk_GF F (gloE Z 6 (x := "stable_paper") rfl) (F.bindsN (fun _ _ _ _ _ _ us hl => match us, hl with | [_, _], _ => rfl)) (ok_stable (mktE Z) F (g_Market_pairs Z) (g_why_not Z) (g_unwanted Z)) pStable_ex
theorem g_best_paper (Z : EndF K mg base) : GF (BE P w K mg base) 8 "best_paper" (pBest (BE P w K mg base) (He.ga K "Wish") (He.ga K "Market")) := by
  obtain ⟨fd, F⟩ := funE Z 43 (a := ("best_paper", none)) (name := "best_paper") (qual := "best_paper") (st := (top 27)) rfl
  exact mk_GF F (gloE Z 9 (x := "best_paper") rfl) (F.bindsN (fun _ _ _ _ _ _ us hl => match us, hl with | [_], _ => rfl)) (ok_best (mktE Z) F (g_Market_size Z) (g_trace Z) (g_those_in Z)) pBest_ex
theorem g_holds_by_right (Z : EndF K mg base) : GF (BE P w K mg base) 4 "holds_by_right" (pHbr (BE P w K mg base) (He.ga K "Wish") (He.ga K "Market")) := by
  obtain ⟨fd, F⟩ := funE Z 45 (a := ("holds_by_right", none)) (name := "holds_by_right") (qual := "holds_by_right") (st := (top 29)) rfl
  exact mk_GF F (gloE Z 11 (x := "holds_by_right") rfl) (F.bindsN (fun _ _ _ _ _ _ us hl => match us, hl with | [_, _, _, _, _], _ => rfl)) (ok_hbr (mktE Z) F (tabE Z 7 (a := ("holds_by_right", none)) rfl) (memE 7 (a := ("holds_by_right", none)) (n := "holds_by_right.<locals>.<genexpr>") rfl) (uniqE Z 7 (a := ("holds_by_right", none)) (n := "holds_by_right.<locals>.<genexpr>") rfl) (freeE Z 40 (x := "all") rfl) (g_Market_likes Z) (g_Wish_better Z) (g_Wish_ahead_of Z)) pHbr_ex
theorem g_check_best (Z : EndF K mg base) : GFX (BE P w K mg base) 8 "check_best" (pCheckBest (BE P w K mg base) (He.ga K "Wish") (He.ga K "Market") (He.ga K "BadPaper")) := by
  obtain ⟨fd, F⟩ := funE Z 44 (a := ("check_best", none)) (name := "check_best") (qual := "check_best") (st := (top 28)) rfl
  exact mk_GFX F (gloE Z 10 (x := "check_best") rfl) (F.bindsN (fun _ _ _ _ _ _ us hl => match us, hl with | [_, _, _], _ => rfl)) (ok_checkBest (mktE Z) (excPE Z) F (tabE Z 6 (a := ("check_best", none)) rfl) (memE 6 (a := ("check_best", none)) (n := "check_best.<locals>.<genexpr>") rfl) (uniqE Z 6 (a := ("check_best", none)) (n := "check_best.<locals>.<genexpr>") rfl) (g_Market_size Z) (g_Wish_has Z) (g_Wish_ahead_of Z) (g_holds_by_right Z)) pCheckBest_ex
theorem g_check_stable (Z : EndF K mg base) : GFX (BE P w K mg base) 6 "check_stable" (pCheckStable (BE P w K mg base) (He.ga K "Wish") (He.ga K "Market") (He.ga K "BadPaper")) := by
  obtain ⟨fd, F⟩ := funE Z 42 (a := ("check_stable", none)) (name := "check_stable") (qual := "check_stable") (st := (top 26)) rfl
  exact mk_GFX F (gloE Z 8 (x := "check_stable") rfl) (F.bindsN (fun _ _ _ _ _ _ us hl => match us, hl with | [_, _, _], _ => rfl)) (ok_checkStable (mktE Z) (excPE Z) F (tabE Z 5 (a := ("check_stable", none)) rfl) (memE 5 (a := ("check_stable", none)) (n := "check_stable.<locals>.<genexpr>") rfl) (uniqE Z 5 (a := ("check_stable", none)) (n := "check_stable.<locals>.<genexpr>") rfl) (freeE Z 40 (x := "all") rfl) (freeE Z 41 (x := "sorted") rfl) (g_check_match Z) (g_unwanted Z) (g_Market_pairs Z) (g_Wish_better Z) (g_those_in Z)) pCheckStable_ex
theorem g_both_papers (Z : EndF K mg base) : GF (BE P w K mg base) 9 "both_papers" (pBoth (BE P w K mg base) (He.ga K "Wish") (He.ga K "Market")) := by
  obtain ⟨fd, F⟩ := funE Z 46 (a := ("both_papers", none)) (name := "both_papers") (qual := "both_papers") (st := (top 30)) rfl
  exact mk_GF F (gloE Z 12 (x := "both_papers") rfl) (F.bindsN (fun _ _ _ _ _ _ us hl => match us, hl with | [_, _], _ => rfl)) (ok_both F (g_stable_paper Z) (g_best_paper Z) (g_check_best Z)) pBoth_ex
theorem g_check_both (Z : EndF K mg base) : GFX (BE P w K mg base) 9 "check_both" (pCheckBoth (BE P w K mg base) (He.ga K "Wish") (He.ga K "Market") (He.ga K "BadPaper")) := by
  obtain ⟨fd, F⟩ := funE Z 47 (a := ("check_both", none)) (name := "check_both") (qual := "check_both") (st := (top 31)) rfl
  exact mk_GFX F (gloE Z 13 (x := "check_both") rfl) (F.bindsN (fun _ _ _ _ _ _ us hl => match us, hl with | [_, _, _], _ => rfl)) (ok_checkBoth F (g_check_stable Z) (g_check_best Z)) pCheckBoth_ex
theorem g_check_words (Z : EndF K mg base) : GF (BE P w K mg base) 1 "check_words" (pCheckWords (BE P w K mg base)) := by
  obtain ⟨fd, F⟩ := funE Z 14 (a := ("check_words", none)) (name := "check_words") (qual := "check_words") (st := (top 18)) rfl
  exact mk_GF F (gloE Z 4 (x := "check_words") rfl) (F.bindsN (fun _ _ _ _ _ _ us hl => match us, hl with | [_], _ => rfl)) (ok_checkWords (fairE Z) F) pCheckWords_ex
theorem g_Fair_new (Z : EndF K mg base) : GK (BE P w K mg base) 1 "Fair" (He.ga K "Fair") (pFInit2 (BE P w K mg base) (He.ga K "Fair")) := by
  obtain ⟨fd, F⟩ := funE Z 15 (a := ("Fair", some "__init__")) (name := "__init__") (qual := "Fair.__init__") (st := (dFair 0)) rfl
  exact mk_GK (gloE Z 28 (x := "Fair") rfl) (mkrE Z 56 (x := "Fair") rfl) (F.bindsN (fun _ _ _ _ _ _ us hl => match us, hl with | [_], _ => rfl)) (ok_fInit2 (fairE Z) F) pFInit2_ex
theorem g_Fair_likes (Z : EndF K mg base) : GM (BE P w K mg base) 1 (He.ga K "Fair") "likes" (pFLikes (BE P w K mg base) (He.ga K "Fair")) := by
  obtain ⟨fd, F⟩ := funE Z 16 (a := ("Fair", some "likes")) (name := "likes") (qual := "Fair.likes") (st := (dFair 1)) rfl
  exact mk_GM (clsE Z 55 (x := "Fair") rfl) (methE Z 77 (x := "Fair") (m := "likes") rfl) (F.bindsN (fun _ _ _ _ _ _ us hl => match us, hl with | [_, _, _], _ => rfl)) (ok_fLikes (fairE Z) F) pFLikes_ex
theorem g_Fair_those_in (Z : EndF K mg base) : GM (BE P w K mg base) 1 (He.ga K "Fair") "those_in" (pFThose (BE P w K mg base) (He.ga K "Fair")) := by
  obtain ⟨fd, F⟩ := funE Z 17 (a := ("Fair", some "those_in")) (name := "those_in") (qual := "Fair.those_in") (st := (dFair 2)) rfl
  exact mk_GM (clsE Z 55 (x := "Fair") rfl) (methE Z 78 (x := "Fair") (m := "those_in") rfl) (F.bindsN (fun _ _ _ _ _ _ us hl => match us, hl with | [_, _], _ => rfl)) (ok_fThose (fairE Z) F) pFThose_ex
theorem g_Fair_match (Z : EndF K mg base) : GM (BE P w K mg base) 1 (He.ga K "Fair") "match" (pFMatch (BE P w K mg base) (He.ga K "Fair")) := by
  obtain ⟨fd, F⟩ := funE Z 18 (a := ("Fair", some "match")) (name := "match") (qual := "Fair.match") (st := (dFair 3)) rfl
  exact mk_GM (clsE Z 55 (x := "Fair") rfl) (methE Z 79 (x := "Fair") (m := "match") rfl) (F.bindsN (fun _ _ _ _ _ _ us hl => match us, hl with | [_], _ => rfl)) (ok_fMatch (fairE Z) F) pFMatch_ex
theorem g_Fair_ask (Z : EndF K mg base) : GM (BE P w K mg base) 2 (He.ga K "Fair") "ask" (pFAsk (BE P w K mg base) (He.ga K "Fair")) := by
  obtain ⟨fd, F⟩ := funE Z 19 (a := ("Fair", some "ask")) (name := "ask") (qual := "Fair.ask") (st := (dFair 4)) rfl
  exact mk_GM (clsE Z 55 (x := "Fair") rfl) (methE Z 80 (x := "Fair") (m := "ask") rfl) (F.bindsN (fun _ _ _ _ _ _ us hl => match us, hl with | [_, _], _ => rfl)) (ok_fAsk (fairE Z) F (g_Fair_likes Z) (g_Fair_those_in Z)) pFAsk_ex
theorem g_Fair_who_waits (Z : EndF K mg base) : GM (BE P w K mg base) 1 (He.ga K "Fair") "who_waits" (pFWaits (BE P w K mg base) (He.ga K "Fair")) := by
  obtain ⟨fd, F⟩ := funE Z 20 (a := ("Fair", some "who_waits")) (name := "who_waits") (qual := "Fair.who_waits") (st := (dFair 5)) rfl
  exact mk_GM (clsE Z 55 (x := "Fair") rfl) (methE Z 81 (x := "Fair") (m := "who_waits") rfl) (F.bindsN (fun _ _ _ _ _ _ us hl => match us, hl with | [_], _ => rfl)) (ok_fWaits (fairE Z) F) pFWaits_ex
theorem g_Fair_go_on (Z : EndF K mg base) : GM (BE P w K mg base) 3 (He.ga K "Fair") "go_on" (pFGo (BE P w K mg base) (He.ga K "Fair")) := by
  obtain ⟨fd, F⟩ := funE Z 21 (a := ("Fair", some "go_on")) (name := "go_on") (qual := "Fair.go_on") (st := (dFair 6)) rfl
  exact mk_GM (clsE Z 55 (x := "Fair") rfl) (methE Z 82 (x := "Fair") (m := "go_on") rfl) (F.bindsN (fun _ _ _ _ _ _ us hl => match us, hl with | [_], _ => rfl)) (ok_fGo (fairE Z) F (g_Fair_who_waits Z) (g_Fair_ask Z)) pFGo_ex
theorem g_Fair_part_of (Z : EndF K mg base) : GM (BE P w K mg base) 2 (He.ga K "Fair") "part_of" (pFPart (BE P w K mg base) (He.ga K "Fair")) := by
  obtain ⟨fd, F⟩ := funE Z 22 (a := ("Fair", some "part_of")) (name := "part_of") (qual := "Fair.part_of") (st := (dFair 7)) rfl
  exact mk_GM (clsE Z 55 (x := "Fair") rfl) (methE Z 83 (x := "Fair") (m := "part_of") rfl) (F.bindsN (fun _ _ _ _ _ _ us hl => match us, hl with | [_, _, _], _ => rfl)) (ok_fPart (fairE Z) F (g_Fair_likes Z)) pFPart_ex
theorem g_Fair_ask_anew (Z : EndF K mg base) : GM (BE P w K mg base) 4 (He.ga K "Fair") "ask_anew" (pFAnew (BE P w K mg base) (He.ga K "Fair")) := by
  obtain ⟨fd, F⟩ := funE Z 23 (a := ("Fair", some "ask_anew")) (name := "ask_anew") (qual := "Fair.ask_anew") (st := (dFair 8)) rfl
  exact mk_GM (clsE Z 55 (x := "Fair") rfl) (methE Z 84 (x := "Fair") (m := "ask_anew") rfl) (F.bindsN (fun _ _ _ _ _ _ us hl => match us, hl with | [_, _], _ => rfl)) (ok_fAnew (fairE Z) F (g_Fair_go_on Z)) pFAnew_ex
theorem g_Fair_told (Z : EndF K mg base) : GM (BE P w K mg base) 1 (He.ga K "Fair") "told" (pFTold (BE P w K mg base) (He.ga K "Fair")) := by
  obtain ⟨fd, F⟩ := funE Z 24 (a := ("Fair", some "told")) (name := "told") (qual := "Fair.told") (st := (dFair 9)) rfl
  exact mk_GM (clsE Z 55 (x := "Fair") rfl) (methE Z 85 (x := "Fair") (m := "told") rfl) (F.bindsN (fun _ _ _ _ _ _ us hl => match us, hl with | [_, _], _ => rfl)) (ok_fTold (fairE Z) F) pFTold_ex
theorem g_Fair_set_room (Z : EndF K mg base) : GM (BE P w K mg base) 1 (He.ga K "Fair") "set_room" (pFSetR (BE P w K mg base) (He.ga K "Fair")) := by
  obtain ⟨fd, F⟩ := funE Z 29 (a := ("Fair", some "set_room")) (name := "set_room") (qual := "Fair.set_room") (st := (dFair 14)) rfl
  exact mk_GM (clsE Z 55 (x := "Fair") rfl) (methE Z 90 (x := "Fair") (m := "set_room") rfl) (F.bindsN (fun _ _ _ _ _ _ us hl => match us, hl with | [_, _, _, _], _ => rfl)) (ok_fSetR (fairE Z) F) pFSetR_ex
theorem g_Fair_come (Z : EndF K mg base) : GMX (BE P w K mg base) 4 (He.ga K "Fair") "come" (pCome (BE P w K mg base) (He.ga K "Fair") (He.ga K "BadDeed")) := by
  obtain ⟨fd, F⟩ := funE Z 25 (a := ("Fair", some "come")) (name := "come") (qual := "Fair.come") (st := (dFair 10)) rfl
  exact mk_GMX (clsE Z 55 (x := "Fair") rfl) (methE Z 86 (x := "Fair") (m := "come") rfl) (F.bindsN (fun _ _ _ _ _ _ us hl => match us, hl with | [_, _, _], _ => rfl)) (ok_fCome (fairE Z) (excDE Z) F (g_check_words Z) (g_Fair_go_on Z) (g_Fair_told Z)) pCome_ex
theorem g_Fair_leave (Z : EndF K mg base) : GMX (BE P w K mg base) 5 (He.ga K "Fair") "leave" (pLeave (BE P w K mg base) (He.ga K "Fair") (He.ga K "NoSuch")) := by
  obtain ⟨fd, F⟩ := funE Z 26 (a := ("Fair", some "leave")) (name := "leave") (qual := "Fair.leave") (st := (dFair 11)) rfl
  exact mk_GMX (clsE Z 55 (x := "Fair") rfl) (methE Z 87 (x := "Fair") (m := "leave") rfl) (F.bindsN (fun _ _ _ _ _ _ us hl => match us, hl with | [_, _], _ => rfl)) (ok_fLeave (fairE Z) (excNE Z) F (g_Fair_part_of Z) (g_Fair_ask_anew Z) (g_Fair_told Z)) pLeave_ex
theorem g_Fair_wish (Z : EndF K mg base) : GMX (BE P w K mg base) 5 (He.ga K "Fair") "wish" (pWish (BE P w K mg base) (He.ga K "Fair") (He.ga K "NoSuch")) := by
  obtain ⟨fd, F⟩ := funE Z 27 (a := ("Fair", some "wish")) (name := "wish") (qual := "Fair.wish") (st := (dFair 12)) rfl
  exact mk_GMX (clsE Z 55 (x := "Fair") rfl) (methE Z 88 (x := "Fair") (m := "wish") rfl) (F.bindsN (fun _ _ _ _ _ _ us hl => match us, hl with | [_, _, _], _ => rfl)) (ok_fWish (fairE Z) (excNE Z) F (g_check_words Z) (g_Fair_part_of Z) (g_Fair_ask_anew Z) (g_Fair_told Z)) pWish_ex
theorem g_Fair_open_room (Z : EndF K mg base) : GMX (BE P w K mg base) 5 (He.ga K "Fair") "open_room" (pOpen (BE P w K mg base) (He.ga K "Fair") (He.ga K "BadDeed")) := by
  obtain ⟨fd, F⟩ := funE Z 28 (a := ("Fair", some "open_room")) (name := "open_room") (qual := "Fair.open_room") (st := (dFair 13)) rfl
  exact mk_GMX (clsE Z 55 (x := "Fair") rfl) (methE Z 89 (x := "Fair") (m := "open_room") rfl) (F.bindsN (fun _ _ _ _ _ _ us hl => match us, hl with | [_, _, _, _], _ => rfl)) (ok_fOpen (fairE Z) (excDE Z) F (g_check_words Z) (g_Fair_set_room Z) (g_Fair_part_of Z) (g_Fair_ask_anew Z) (g_Fair_told Z)) pOpen_ex
theorem g_Fair_shut_room (Z : EndF K mg base) : GMX (BE P w K mg base) 5 (He.ga K "Fair") "shut_room" (pShut (BE P w K mg base) (He.ga K "Fair") (He.ga K "NoSuch")) := by
  obtain ⟨fd, F⟩ := funE Z 30 (a := ("Fair", some "shut_room")) (name := "shut_room") (qual := "Fair.shut_room") (st := (dFair 15)) rfl
  exact mk_GMX (clsE Z 55 (x := "Fair") rfl) (methE Z 91 (x := "Fair") (m := "shut_room") rfl) (F.bindsN (fun _ _ _ _ _ _ us hl => match us, hl with | [_, _], _ => rfl)) (ok_fShut (fairE Z) (excNE Z) F (g_Fair_part_of Z) (g_Fair_ask_anew Z) (g_Fair_told Z)) pShut_ex
theorem g_Fair_change_room (Z : EndF K mg base) : GMX (BE P w K mg base) 5 (He.ga K "Fair") "change_room" (pChange (BE P w K mg base) (He.ga K "Fair") (He.ga K "NoSuch")) := by
  obtain ⟨fd, F⟩ := funE Z 31 (a := ("Fair", some "change_room")) (name := "change_room") (qual := "Fair.change_room") (st := (dFair 16)) rfl
  exact mk_GMX (clsE Z 55 (x := "Fair") rfl) (methE Z 92 (x := "Fair") (m := "change_room") rfl) (F.bindsN (fun _ _ _ _ _ _ us hl => match us, hl with | [_, _, _, _], _ => rfl)) (ok_fChange (fairE Z) (excNE Z) F (g_check_words Z) (g_Fair_set_room Z) (g_Fair_part_of Z) (g_Fair_ask_anew Z) (g_Fair_told Z)) pChange_ex
theorem g_Fair_names (Z : EndF K mg base) : GM (BE P w K mg base) 1 (He.ga K "Fair") "names" (pFNames2 (BE P w K mg base) (He.ga K "Fair")) := by
  obtain ⟨fd, F⟩ := funE Z 32 (a := ("Fair", some "names")) (name := "names") (qual := "Fair.names") (st := (dFair 17)) rfl
  exact mk_GM (clsE Z 55 (x := "Fair") rfl) (methE Z 93 (x := "Fair") (m := "names") rfl) (F.bindsN (fun _ _ _ _ _ _ us hl => match us, hl with | [_], _ => rfl)) (ok_fNames2 (fairE Z) F) pFNames2_ex
theorem g_Fair_as_market (Z : EndF K mg base) : GM (BE P w K mg base) 7 (He.ga K "Fair") "as_market" (pAsMkt (BE P w K mg base) (He.ga K "Fair") (He.ga K "Wish") (He.ga K "Market")) := by
  obtain ⟨fd, F⟩ := funE Z 33 (a := ("Fair", some "as_market")) (name := "as_market") (qual := "Fair.as_market") (st := (dFair 18)) rfl
  exact mk_GM (clsE Z 55 (x := "Fair") rfl) (methE Z 94 (x := "Fair") (m := "as_market") rfl) (F.bindsN (fun _ _ _ _ _ _ us hl => match us, hl with | [_], _ => rfl)) (ok_asMkt (fairE Z) F (g_Fair_names Z) (g_Market_new Z)) pAsMkt_ex
theorem g_Fair_by_numbers (Z : EndF K mg base) : GM (BE P w K mg base) 2 (He.ga K "Fair") "by_numbers" (pByNum (BE P w K mg base) (He.ga K "Fair")) := by
  obtain ⟨fd, F⟩ := funE Z 34 (a := ("Fair", some "by_numbers")) (name := "by_numbers") (qual := "Fair.by_numbers") (st := (dFair 19)) rfl
  exact mk_GM (clsE Z 55 (x := "Fair") rfl) (methE Z 95 (x := "Fair") (m := "by_numbers") rfl) (F.bindsN (fun _ _ _ _ _ _ us hl => match us, hl with | [_], _ => rfl)) (ok_byNum (fairE Z) F (g_Fair_names Z)) pByNum_ex
theorem g_refuse (Z : EndF K mg base) : GFX (BE P w K mg base) 1 "refuse" (pRefuse (He.ga K "MarketFault")) := by
  obtain ⟨fd, F⟩ := funE Z 48 (a := ("refuse", none)) (name := "refuse") (qual := "refuse") (st := (top 33)) rfl
  exact mk_GFX F (gloE Z 14 (x := "refuse") rfl) (F.bindsN (fun _ _ _ _ _ _ us hl => match us, hl with | [_], _ => rfl)) (ok_refuse (excFE Z) F) pRefuse_ex
theorem g__law_dice (Z : EndF K mg base) : GF (BE P w K mg base) 1 "_law_dice" (pDice) := by
  obtain ⟨fd, F⟩ := funE Z 49 (a := ("_law_dice", none)) (name := "_law_dice") (qual := "_law_dice") (st := (top 35)) rfl
  exact mk_GF F (gloE Z 15 (x := "_law_dice") rfl) (F.bindsN (fun _ _ _ _ _ _ us hl => match us, hl with | [_], _ => rfl)) (ok_dice (lawE Z) F) pDice_ex
theorem g__law_roll (Z : EndF K mg base) : GF (BE P w K mg base) 1 "_law_roll" (pRoll) := by
  obtain ⟨fd, F⟩ := funE Z 50 (a := ("_law_roll", none)) (name := "_law_roll") (qual := "_law_roll") (st := (top 36)) rfl
  exact mk_GF F (gloE Z 16 (x := "_law_roll") rfl) (F.bindsN (fun _ _ _ _ _ _ us hl => match us, hl with | [_, _], _ => rfl)) (ok_roll (lawE Z) F) pRoll_ex
theorem g__law_rounds (Z : EndF K mg base) : GF (BE P w K mg base) 2 "_law_rounds" (pRounds (BE P w K mg base)) := by
  obtain ⟨fd, F⟩ := funE Z 51 (a := ("_law_rounds", none)) (name := "_law_rounds") (qual := "_law_rounds") (st := (top 37)) rfl
  exact mk_GF F (gloE Z 17 (x := "_law_rounds") rfl) (F.bindsN (fun _ _ _ _ _ _ us hl => match us, hl with | [_, _], _ => rfl)) (ok_rounds (lawE Z) F (g__law_dice Z)) pRounds_ex
theorem g__law_askers (Z : EndF K mg base) : GF (BE P w K mg base) 1 "_law_askers" (pAskers) := by
  obtain ⟨fd, F⟩ := funE Z 53 (a := ("_law_askers", none)) (name := "_law_askers") (qual := "_law_askers") (st := (top 39)) rfl
  exact mk_GF F (gloE Z 19 (x := "_law_askers") rfl) (F.bindsN (fun _ _ _ _ _ _ us hl => match us, hl with | [], _ => rfl)) (ok_askers (lawE Z) F) pAskers_ex
theorem g__law_rooms (Z : EndF K mg base) : GF (BE P w K mg base) 1 "_law_rooms" (pRooms) := by
  obtain ⟨fd, F⟩ := funE Z 54 (a := ("_law_rooms", none)) (name := "_law_rooms") (qual := "_law_rooms") (st := (top 40)) rfl
  exact mk_GF F (gloE Z 20 (x := "_law_rooms") rfl) (F.bindsN (fun _ _ _ _ _ _ us hl => match us, hl with | [], _ => rfl)) (ok_rooms (lawE Z) F) pRooms_ex
theorem g__law_list (Z : EndF K mg base) : GF (BE P w K mg base) 2 "_law_list" (pList) := by
  obtain ⟨fd, F⟩ := funE Z 55 (a := ("_law_list", none)) (name := "_law_list") (qual := "_law_list") (st := (top 41)) rfl
  exact mk_GF F (gloE Z 21 (x := "_law_list") rfl) (F.bindsN (fun _ _ _ _ _ _ us hl => match us, hl with | [_, _], _ => rfl)) (ok_list (lawE Z) F (g__law_roll Z)) pList_ex
theorem g__law_due (Z : EndF K mg base) : GF (BE P w K mg base) 4 "_law_due" (pDue (BE P w K mg base)) := by
  obtain ⟨fd, F⟩ := funE Z 56 (a := ("_law_due", none)) (name := "_law_due") (qual := "_law_due") (st := (top 42)) rfl
  exact mk_GF F (gloE Z 22 (x := "_law_due") rfl) (F.bindsN (fun _ _ _ _ _ _ us hl => match us, hl with | [_, _], _ => rfl)) (ok_due (lawE Z) F (tabE Z 8 (a := ("_law_due", none)) rfl) (memE 8 (a := ("_law_due", none)) (n := "_law_due.<locals>.<lambda>") rfl) (uniqE Z 8 (a := ("_law_due", none)) (n := "_law_due.<locals>.<lambda>") rfl)) pDue_ex
theorem g__law_blocked (Z : EndF K mg base) : GF (BE P w K mg base) 1 "_law_blocked" (pBlocked (BE P w K mg base)) := by
  obtain ⟨fd, F⟩ := funE Z 57 (a := ("_law_blocked", none)) (name := "_law_blocked") (qual := "_law_blocked") (st := (top 43)) rfl
  exact mk_GF F (gloE Z 23 (x := "_law_blocked") rfl) (F.bindsN (fun _ _ _ _ _ _ us hl => match us, hl with | [_, _, _], _ => rfl)) (ok_blocked (lawE Z) F) pBlocked_ex
theorem g__law_deed (Z : EndF K mg base) : GF (BE P w K mg base) 8 "_law_deed" (pDeed (BE P w K mg base) (He.ga K "Fair")) := by
  obtain ⟨fd, F⟩ := funE Z 58 (a := ("_law_deed", none)) (name := "_law_deed") (qual := "_law_deed") (st := (top 44)) rfl
  exact mk_GF F (gloE Z 24 (x := "_law_deed") rfl) (F.bindsN (fun _ _ _ _ _ _ us hl => match us, hl with | [_, _, _, _], _ => rfl)) (ok_deed (lawE Z) F (tabE Z 9 (a := ("_law_deed", none)) rfl) (memE 9 (a := ("_law_deed", none)) (n := "_law_deed.<locals>.<lambda>") rfl) (uniqE Z 9 (a := ("_law_deed", none)) (n := "_law_deed.<locals>.<lambda>") rfl) (tlE Z) (toldE Z) (g__law_roll Z) (g__law_askers Z) (g__law_rooms Z) (g__law_list Z) (g_Fair_come Z) (g_Fair_leave Z) (g_Fair_wish Z) (g_Fair_open_room Z) (g_Fair_change_room Z) (g_Fair_shut_room Z)) pDeed_ex
theorem lawGE (Z : EndF K mg base) : LawG (BE P w K mg base) (He.ga K "Fair") (He.ga K "Wish") (He.ga K "Market") (He.ga K "BadPaper") (He.ga K "BadDeed") (He.ga K "NoSuch") (He.ga K "MarketFault") where
  TL := lawE Z
  TT := tlE Z
  TF := toldE Z
  rounds := g__law_rounds Z
  roll := g__law_roll Z
  deed := g__law_deed Z
  due := g__law_due Z
  blocked := g__law_blocked Z
  fair := g_Fair_new Z
  mat := g_Fair_match Z
  mkt := g_Fair_as_market Z
  num := g_Fair_by_numbers Z
  both := g_both_papers Z
  check := g_check_both Z
  ref := g_refuse Z
end
end Pm
end
/-! ## E3 -/
section
set_option Elab.async false
set_option linter.all false
set_option maxRecDepth 100000
set_option maxHeartbeats 2000000
namespace Pm
open PySem PySem.Spec PyProof.Rows L2
theorem lawAtE {w : World} {mg : Str → Option Value} {fa : Addr} {h : Heap} {K : PySem.W.Frag} (KX : K.In h) (S : He.SaysX faE fnE [] tfE exE w h K) (G : h.Ns mainGlobals mg) (hmg : mg ("law" : Str) = some (.ref fa)) :
    LamX.LawAtS PySem.Challenge.rw_pairmart_k63_whole_at_any_size w K CX0 12 63 "script" mg fa h := by
  have hfa : fa = He.ga K "law" := by
    have e := hmg.symm.trans (He.glo_ok KX G (S.t.d.fact 25 (f := .glo "law") rfl))
    injection e with e
    injection e
  subst hfa
  -- the tables
  have hT : ∀ p ∈ tfE.map (He.cT K), h.get? p.2 = some { cls := .none, data := .fields #[] } := fun p hp => by
    obtain ⟨a, ha, rfl⟩ := List.mem_map.mp hp
    exact S.empty a ha
  have nT : ∀ p ∈ tfE.map (He.cT K), K.lookup p.2 = none := fun p hp => by
    obtain ⟨a, ha, rfl⟩ := List.mem_map.mp hp
    exact S.out a ha
  have C : ∀ p ∈ tfE.map (He.cT K), PySem.W.CodeHd h p.1 p.2 := fun p hp => by
    obtain ⟨a, ha, rfl⟩ := List.mem_map.mp hp
    exact PySem.W.codeHd_of_K KX (S.hd a ha)
  -- law's function object: one for all bases
  obtain ⟨fd, F⟩ : ∃ fd, FunC K "law" "law" (top 45) (He.fAd K ("law", none)) fd (.ref (He.cT K ("law", none)).1) := funC_of S.t.d 59 (a := ("law", none)) (name := "law") (qual := "law") (st := (top 45)) rfl
  refine ⟨fd, tfE.map (He.cT K), fun vs H Q E => LamX.Tabs (GE K) H ∧ (∃ (q : Addr) (cs : List Int), vs = [.ref q] ∧ SqL K H q (cs.map V.int)) ∧ ∀ H', Q (.bl true) H', hT, nT, C, fun s u => F.bindsA (ps := ["script"]) (fun _ _ _ _ _ _ us hl => match us, hl with | [_], _ => rfl) s [u] rfl, fun H a ns _ _ hH hS => ?_, fun base X B TB => ?_⟩
  · refine ⟨fun p hp => ?_, ⟨a, ns, rfl, hS⟩, fun _ => rfl⟩
    obtain ⟨⟨b, m⟩, hb, rfl⟩ := List.mem_map.mp hp
    exact LamX.TabS.nil (hH (He.cT K b) (List.mem_map.mpr ⟨b, (List.of_mem_zip hb).1, rfl⟩))
  · have Z : EndF K mg base := ⟨S.t.d, S.more, X, B, fun p hp => TB _ (List.mem_map.mpr ⟨p, hp, rfl⟩)⟩
    exact ok_law (B := BE _ w K mg base) (lawGE Z) F (tabE Z 10 (a := ("law", none)) rfl) (memE 10 (a := ("law", none)) (n := "law.<locals>.<lambda>") rfl) (uniqE Z 10 (a := ("law", none)) (n := "law.<locals>.<lambda>") rfl)
end Pm
open PySem PySem.W PySem.Calls PyProof.Rows
set_option maxHeartbeats 0 in
theorem PySem.Challenge.cw_pairmart_k63_whole_at_any_size_holds : PySem.Challenge.rw_pairmart_k63_whole_at_any_size.Holds := by
  w_on; o_law
  refine HandSHeadRun.head_any (r := OpenLaw.row PySem.Challenge.rw_pairmart_k63_whole_at_any_size) (q := view (OpenLaw.row PySem.Challenge.rw_pairmart_k63_whole_at_any_size).prog [45]) (H := Pm.hkE) (ob := Pm.obE) (M := 6000) (loose := Pm.loE) (d := HandSHeadRun.topDef (OpenLaw.row PySem.Challenge.rw_pairmart_k63_whole_at_any_size).prog 45) (kwd := []) Pm.obE_eq
    (by kernel_rfl) (fun s => by kernel_rfl) Pm.runE (by kernel_rfl) (by kernel_rfl) (by kernel_rfl) (by rfl) (by first | assumption | decide +kernel) (by decide +kernel) ⟨rfl, rfl, rfl, rfl, rfl, by decide +kernel⟩ ?hw ?hc
  case hw => w_witness2
  case hc =>
    refine LamX.walk_ofTsE (l := PySem.Challenge.rw_pairmart_k63_whole_at_any_size) (n := 63) (k := 12) (x := "script") (CX := fun _ => L2.CX0) rfl (by decide) (by kernel_rfl) ⟨rfl, by decide, by decide⟩ ?F (fun _ _ _ _ _ z => z)
    intro w mg fa h Y G hmg0
    obtain ⟨K, KX, c⟩ := Y
    have hmg : mg ("law" : PySem.Str) = some (.ref fa) := by
      have e : (HandSHeadRun.topDef (OpenLaw.row PySem.Challenge.rw_pairmart_k63_whole_at_any_size).prog 45).name = ("law" : PySem.Str) := by kernel_rfl
      rw [← e]
      exact hmg0
    exact ⟨K, KX, Pm.lawAtE KX c G hmg⟩
end

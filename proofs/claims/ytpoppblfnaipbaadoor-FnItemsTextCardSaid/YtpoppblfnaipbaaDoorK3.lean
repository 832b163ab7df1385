/- The engine, part 3: a pure evaluator of the model's code over typed values, and its soundness over any program. a region in the order of the text is sound; loops. code is sound, cuts and drawn regions given. what is told anew. frames told anew. slots told anew. a cut's frame told anew. cuts' frames: whole. a cut's frame is sound. a cut's frame is sound, whole. HFrame. results told. what a call is given, what it hands back. a call's arguments. -/
import Derived.Test.YtpoppblfnaipbaaDoorK2
import Derived.Calls
/-! ## The engine: a region in the order of the text is sound; loops. -/
namespace Go.Proofs.YtpoppblfnaipbaaDoor.Eng
open Go
set_option autoImplicit false
set_option linter.unusedVariables false
set_option linter.unusedSimpArgs false

/-- A call of a value is sound. -/
def HCall (P : Program) {A : Ann} (S : Sm A) : Prop :=
  ∀ {B : Base} {D : Bs} {η : Nat → Gh} {O : Nat → Bs} {σ : St} {a : Act} {w : World} {o : Oper} {next : Act → World → Prop} {Q : Exit → Act → World → Prop} {R : Type} {r : R} {K : V → Heap → Option R} {κ : Nat},
    RelG B D η O σ a w → Post B σ a o.dst next K r → (∀ d, o.dst = some d → d < B.N) → ∀ (c : Call) (f : Operand) (g : Nat) (caps : List V), o.op = .call c → c.callee = .value f → σ.eval f = .fn g caps → callV S κ g σ.h (c.args.toList.map σ.eval ++ caps) K = some r → o.wp P a w next Q

section
variable {P : Program} {B : Base} {D : Bs} {η : Nat → Gh} {O : Nat → Bs} {σ : St} {a : Act} {w : World} {R : Type} {r : R}

theorem force_eq (v : V) (K : V → Option R) : force v K = K v := by cases v <;> rfl
/-- What a temporary is known to hold. -/
theorem RelG.note (G : RelG B D η O σ a w) {d : Nat} (hd : d < a.tmps.size) {v : V} (hv : Vr w D η σ.h v (a.tmps.getD d undef)) : RelG B D η O (σ.after (some d) v []) a w := by
  refine { G with tmps := ?_ }
  intro i y hy
  rw [St.after_t] at hy
  simp only [fnd_cons] at hy
  by_cases h : d = i
  · subst h
    simp only [if_true, Option.some.injEq] at hy
    subst hy
    exact ⟨hd, hv⟩
  · simp only [h, if_false] at hy
    exact G.tmps i y hy
theorem get_some {d : Nat} {v : V} (h : σ.get d = v) (hv : v ≠ .un) : fnd σ.t d = some v := by
  unfold St.get at h
  split at h
  · rename_i v' hv'; rw [hv', h]
  · exact absurd h.symm hv
theorem yielded_of {all : Array Oper} {j d : Nat} (hj : dstOf all j = some d) (hd : d < a.tmps.size) : yielded all a.tmps j = (match a.tmps.getD d undef with | .bool b => some b | _ => none) := by
  unfold dstOf at hj
  unfold yielded
  split at hj
  · rename_i o ho
    rw [ho]
    simp only [Option.bind_some, hj]
    have e : a.tmps[d]? = some (a.tmps.getD d undef) := by simp [Array.getD, hd]
    rw [e]
    cases a.tmps.getD d undef <;> rfl
  · cases hj

theorem runOps_ok {A : Ann} (W : WF P A) {S : Sm A} (HC : HCall P S) {Q : Exit → Act → World → Prop} {K : St → Option R} (id : Nat) (all : Array Oper) (hK : ∀ σ' a' w', K σ' = some r → Rel B σ' a' w' → Q .normal a' w') (hN : all.toList.all (fun o => match o.dst with | some d => Nat.blt d B.N | none => true) = true) : ∀ (os : List Oper) (i : Nat) (σ : St) (a : Act) (w : World), (∀ j (hj : j < os.length), all[i + j]? = some os[j]) →
    Rel B σ a w → runOps P S id all i os σ K = some r → wpOps P all Q (List.range' i os.length) a w
  | [], i, σ, a, w, _, hR, h => by
    simp only [runOps] at h
    exact hK σ a w h hR
  | o :: os, i, σ, a, w, hall, ⟨D, η, O, G⟩, h => by
    have ho : all[i]? = some o := hall 0 (by simp)
    have hall' : ∀ j (hj : j < os.length), all[i + 1 + j]? = some os[j] := fun j hj => by
      have := hall (j + 1) (by simpa using hj)
      rw [show i + 1 + j = i + (j + 1) by omega]
      simpa using this
    have hd : ∀ d, o.dst = some d → d < B.N := by
      intro d hd
      have hm : o ∈ all.toList := by
        obtain ⟨h1, h2⟩ := Array.getElem?_eq_some_iff.1 ho
        rw [← h2]; simp
      have := List.all_eq_true.1 hN o hm
      rw [hd] at this
      exact blt_of this
    have skip : ∀ {σ : St} {a : Act} {w : World} {D : Bs} {η : Nat → Gh} {O : Nat → Bs}, RelG B D η O σ a w → runOps P S id all (i + 1) os (σ.after o.dst (.k (.tuple #[])) []) K = some r → wpOps P all Q (List.range' (i + 1) os.length) (a.put o.dst undef) w := by
      intro σ a w D η O G h
      exact runOps_ok W HC id all hK hN os (i + 1) _ _ _ hall' ⟨D, η, O, G.val hd (.k _)⟩ h
    have go : ∀ {σ : St} {a : Act} {w : World} {D : Bs} {η : Nat → Gh} {O : Nat → Bs} {κ : Nat}, RelG B D η O σ a w → stepO P S κ σ.eval σ.h o (fun v u => force v fun v => runOps P S id all (i + 1) os (σ.after o.dst v u) K) = some r → o.wp P a w (wpOps P all Q (List.range' (i + 1) os.length)) Q := by
      intro σ a w D η O κ G h
      refine step_ok W G (fun v u x w' hv hR => ?_) hd (fun c f g caps e1 e2 e3 e4 => HC G (fun v u x w' hv hR => ?_) hd c f g caps e1 e2 e3 e4) h
      all_goals
        rw [force_eq] at hv
        exact runOps_ok W HC id all hK hN os (i + 1) _ _ _ hall' hR hv
    simp only [List.length_cons, List.range'_succ]
    unfold wpOps
    rw [ho]
    simp only
    unfold runOps at h
    split at h
    · rename_i hg
      have hw : Region.wanted o (yielded all a.tmps) = true := by simp [Region.wanted, hg]
      rw [if_pos hw]
      exact .inl (go G h)
    · rename_i j want hg
      split at h
      case h_2 => cases h
      rename_i d hj
      have wt : Region.wanted o (yielded all a.tmps) = (yielded all a.tmps j == some want) := by simp [Region.wanted, hg]
      have kn : ∀ (v : V), σ.get d = v → v ≠ .un → d < a.tmps.size ∧ Vr w D η σ.h v (a.tmps.getD d undef) := fun v h1 h2 => G.tmps d v (get_some h1 h2)
      split at h
      · rename_i b hb
        obtain ⟨k1, k2⟩ := kn _ hb (by simp)
        have k3 := vr_k k2
        have hy : yielded all a.tmps j = some b := by rw [yielded_of hj k1, k3]
        split at h
        · rw [if_pos (by rw [wt, hy]; rfl)]; exact .inl (go G h)
        · rw [if_pos (by rw [wt, hy]; rfl)]; exact .inl (go G h)
        · rename_i n1 n2
          have : ¬ (b = want) := by
            rintro rfl
            cases b
            · exact n2 rfl rfl
            · exact n1 rfl rfl
          rw [if_neg (by rw [wt, hy]; simpa using this)]; exact skip G h
      · rename_i b hb
        obtain ⟨k1, k2⟩ := kn _ hb (by simp)
        have k3 : a.tmps.getD d undef = .bool b := k2.asB rfl
        have hy : yielded all a.tmps j = some b := by rw [yielded_of hj k1, k3]
        unfold ifE at h
        split at h
        · rename_i e
          subst e
          rw [if_pos (by rw [wt, hy]; simp)]
          exact .inl (go (σ := σ.after (some d) (.k (.bool b)) []) (G.note k1 (by rw [k3]; exact .k _)) h)
        · rename_i e
          rw [if_neg (by rw [wt, hy]; simpa using e)]
          have e2 : b = !want := by cases b <;> cases want <;> simp_all
          exact skip (σ := σ.after (some d) (.k (.bool (!want))) []) (G.note k1 (by rw [k3, e2]; exact .k _)) h
      · rename_i l hb
        obtain ⟨k1, k2⟩ := kn _ hb (by simp)
        have k3 := vr_k k2
        have hy : yielded all a.tmps j = none := by rw [yielded_of hj k1, k3]
        rw [if_neg (by rw [wt, hy]; simp)]; exact skip G h
      · cases h
/-- A region of one order. -/
theorem region_ok {A : Ann} (W : WF P A) {S : Sm A} (HC : HCall P S) {Q : Exit → Act → World → Prop} {K : St → Option R} (id : Nat) (all : Array Oper) (hK : ∀ σ' a' w', K σ' = some r → Rel B σ' a' w' → Q .normal a' w') (hN : all.toList.all (fun o => match o.dst with | some d => Nat.blt d B.N | none => true) = true)
    (hR : Rel B σ a w) (h : runOps P S id all 0 all.toList σ K = some r) : (Code.region id all false).wp P Q a w := by
  refine wp_region ?_
  have := runOps_ok W HC id all hK hN all.toList 0 σ a w (fun j hj => by simp) hR h
  rw [Array.length_toList] at this
  rwa [List.range_eq_range']

/-- A loop, from its body on. -/
def LoopWp (P : Program) (c : Code) (Q : Exit → Act → World → Prop) (a : Act) (w : World) : Prop :=
  ∀ (b : Frame) (k : List Item) (cs : List Frame), ∃ e a' w', Q e a' w' ∧ Arrives P (lone (b.at a (.code c :: .inLoop c :: k)) cs w) b k cs e a' w'
theorem LoopWp.loop {c : Code} {Q : Exit → Act → World → Prop} (h : LoopWp P c Q a w) : (Code.loop c).wp P Q a w := by
  intro b k cs
  obtain ⟨e, a', w', hq, harr⟩ := h b k cs
  exact ⟨e, a', w', hq, .of_steps (.one step_loop) harr⟩
theorem LoopWp.round {c : Code} {Q : Exit → Act → World → Prop} (h : c.wp P (Exit.then (LoopWp P c Q) Q) a w) : LoopWp P c Q a w := by
  intro b k cs
  obtain ⟨e, a₁, w₁, hq, harr⟩ := h b (.inLoop c :: k) cs
  cases e with
  | normal =>
    obtain ⟨e₂, a₂, w₂, hq₂, harr₂⟩ := hq b k cs
    exact ⟨e₂, a₂, w₂, hq₂, .of_steps (Steps.trans harr (.one step_inLoop)) harr₂⟩
  | exit id => exact ⟨_, a₁, w₁, hq, .pass (x := .inLoop c) rfl (fun _ _ => .inl (by simp)) harr⟩
  | goto l => exact ⟨_, a₁, w₁, hq, .pass (x := .inLoop c) rfl (fun _ _ => .inl (by simp)) harr⟩
  | ret => exact ⟨_, a₁, w₁, hq, .pass (x := .inLoop c) rfl (fun _ _ => .inl (by simp)) harr⟩
  | panic ch => exact ⟨_, a₁, w₁, hq, .pass (x := .inLoop c) rfl (fun _ _ => .inl (by simp)) harr⟩
  | outgrown => exact ⟨_, a₁, w₁, hq, .pass (x := .inLoop c) rfl (fun _ _ => .inl (by simp)) harr⟩
end
end Go.Proofs.YtpoppblfnaipbaaDoor.Eng
/-! ## The engine: code is sound, cuts and drawn regions given. -/
namespace Go.Proofs.YtpoppblfnaipbaaDoor.Eng
open Go
set_option autoImplicit false
set_option linter.unusedVariables false
set_option linter.unusedSimpArgs false

def codeAt : List Bool → Code → Option Code
  | [], c => some c
  | false :: p, .seq a _ => codeAt p a
  | true :: p, .seq _ b => codeAt p b
  | false :: p, .cond _ a _ => codeAt p a
  | true :: p, .cond _ _ b => codeAt p b
  | _ :: p, .block _ b => codeAt p b
  | _ :: p, .loop b => codeAt p b
  | _ :: _, _ => none
/-- What is asked at the end of the code at a place. -/
def Qc (P : Program) : List Bool → Code → (Exit → Act → World → Prop) → Exit → Act → World → Prop
  | [], _, Q => Q
  | false :: p, .seq a b, Q => Qc P p a (Exit.then (b.wp P Q) Q)
  | true :: p, .seq _ b, Q => Qc P p b Q
  | false :: p, .cond _ a _, Q => Qc P p a Q
  | true :: p, .cond _ _ b, Q => Qc P p b Q
  | _ :: p, .block id b, Q => Qc P p b (Exit.inBlock id Q)
  | _ :: p, .loop b, Q => Qc P p b (Exit.then (LoopWp P b Q) Q)
  | _ :: _, _, Q => Q
def CodeWp (P : Program) (c : Code) (Q : Exit → Act → World → Prop) (a : Act) (w : World) : Prop :=
  match c with | .loop b => LoopWp P b Q a w | c => c.wp P Q a w
theorem CodeWp.wp {P : Program} {c : Code} {Q : Exit → Act → World → Prop} {a : Act} {w : World} (h : CodeWp P c Q a w) : c.wp P Q a w := by
  cases c with
  | loop b => exact LoopWp.loop h
  | _ => exact h
def pos : Nat → List Bool → Nat
  | n, [] => n
  | n, false :: p => pos (2 * n) p
  | n, true :: p => pos (2 * n + 1) p
/-- The cuts within a piece of code are sound. -/
def CutsOk (P : Program) {A : Ann} (S : Sm A) (f : Nat) (B : Base) (r : A.out f) (n : Nat) (c : Code) (Q : Exit → Act → World → Prop) : Prop :=
  ∀ p c', codeAt p c = some c' → ∀ x, S.cut f (pos n p) x = some r → ∀ a w, Rel B (ofS ((A.fa f).cut (pos n p)) x) a w → CodeWp P c' (Qc P p c Q) a w
/-- Regions of a drawn order are sound. -/
def HDraw (P : Program) {A : Ann} (S : Sm A) : Prop :=
  ∀ {B : Base} {R : Type} {r : R} {σ : St} {a : Act} {w : World} {Q : Exit → Act → World → Prop} {K : St → Option R} (id : Nat) (all : Array Oper), (∀ σ' a' w', K σ' = some r → Rel B σ' a' w' → Q .normal a' w') → all.toList.all (fun o => match o.dst with | some d => Nat.blt d B.N | none => true) = true → drawOk all = true →
    Rel B σ a w → runDraw P S id all (ancs all.toList []) [] [] 0 all.toList σ K = some r → (Code.region id all true).wp P Q a w
def ex : Xt → Exit | .normal => .normal | .exit i => .exit i | .ret => .ret

section
variable {P : Program} {A : Ann} {S : Sm A} {f : Nat} {B : Base} {r : A.out f}

/-- Where a frame is told anew. -/
def HFrame (A : Ann) (f : Nat) (B : Base) : Prop := ∀ n x (σ : St) a w, (A.fa f).cut n ≠ [] → toS σ.h σ.t ((A.fa f).cut n) = some x → Rel B σ a w → Rel B (ofS ((A.fa f).cut n) x) a w
theorem goOn_ok (HF : HFrame A f B) {n : Nat} {c : Code} {Q : Exit → Act → World → Prop} (HCu : CutsOk P S f B r n c Q) {E : St → Option (A.out f)} {σ : St} {a : Act} {w : World} (hR : Rel B σ a w) (hE : E σ = some r → c.wp P Q a w) (h : goOn S f n E (S.cut f n) σ = some r) : c.wp P Q a w := by
  unfold goOn at h
  split at h
  · exact hE h
  · rename_i hne
    split at h
    · rename_i x hx
      exact (HCu [] c rfl x h a w (HF n x σ a w (fun e => hne e) hx hR)).wp
    · cases h
theorem CutsOk.seq1 {n : Nat} {x y : Code} {Q : Exit → Act → World → Prop} (H : CutsOk P S f B r n (.seq x y) Q) : CutsOk P S f B r (2 * n) x (Exit.then (y.wp P Q) Q) := fun p c' hc => H (false :: p) c' hc
theorem CutsOk.seq2 {n : Nat} {x y : Code} {Q : Exit → Act → World → Prop} (H : CutsOk P S f B r n (.seq x y) Q) : CutsOk P S f B r (2 * n + 1) y Q := fun p c' hc => H (true :: p) c' hc
theorem CutsOk.cond1 {n : Nat} {c : Operand} {x y : Code} {Q : Exit → Act → World → Prop} (H : CutsOk P S f B r n (.cond c x y) Q) : CutsOk P S f B r (2 * n) x Q := fun p c' hc => H (false :: p) c' hc
theorem CutsOk.cond2 {n : Nat} {c : Operand} {x y : Code} {Q : Exit → Act → World → Prop} (H : CutsOk P S f B r n (.cond c x y) Q) : CutsOk P S f B r (2 * n + 1) y Q := fun p c' hc => H (true :: p) c' hc
theorem CutsOk.block {n id : Nat} {x : Code} {Q : Exit → Act → World → Prop} (H : CutsOk P S f B r n (.block id x) Q) : CutsOk P S f B r (2 * n) x (Exit.inBlock id Q) := fun p c' hc => H (false :: p) c' hc
theorem CutsOk.loop {n : Nat} {x : Code} {Q : Exit → Act → World → Prop} (H : CutsOk P S f B r n (.loop x) Q) : CutsOk P S f B r (2 * n) x (Exit.then (LoopWp P x Q) Q) := fun p c' hc => H (false :: p) c' hc

/-- Code is sound. -/
theorem ev_ok (W : WF P A) (HC : HCall P S) (HD : HDraw P S) (HF : HFrame A f B) : ∀ (c : Code) (n : Nat) (K : Xt → St → Option (A.out f)) (Q : Exit → Act → World → Prop) (σ : St) (a : Act) (w : World), dstsOk B.N c = true → CutsOk P S f B r n c Q →
    (∀ e σ' a' w', K e σ' = some r → Rel B σ' a' w' → Q (ex e) a' w') → Rel B σ a w → ev P S f n c K σ = some r → c.wp P Q a w
  | .skip, n, K, Q, σ, a, w, _, _, hK, hR, h => by
    simp only [ev] at h
    exact wp_skip (hK .normal σ a w h hR)
  | .region id ops dr, n, K, Q, σ, a, w, hd, _, hK, hR, h => by
    simp only [dstsOk, Bool.and_eq_true] at hd
    cases dr with
    | false =>
      simp only [ev] at h
      exact region_ok W HC id ops (fun σ' a' w' h1 h2 => hK .normal σ' a' w' h1 h2) hd.1 hR h
    | true =>
      simp only [ev] at h
      exact HD id ops (fun σ' a' w' h1 h2 => hK .normal σ' a' w' h1 h2) hd.1 (by simpa using hd.2) hR h
  | .seq x y, n, K, Q, σ, a, w, hd, HCu, hK, hR, h => by
    simp only [ev] at h
    simp only [dstsOk, Bool.and_eq_true] at hd
    refine wp_seq (goOn_ok HF HCu.seq1 hR (fun h => ev_ok W HC HD HF x (2 * n) _ _ σ a w hd.1 HCu.seq1 (fun e σ' a' w' h1 h2 => ?_) hR h) h)
    cases e with
    | normal => exact goOn_ok HF HCu.seq2 h2 (fun h => ev_ok W HC HD HF y (2 * n + 1) _ _ σ' a' w' hd.2 HCu.seq2 hK h2 h) h1
    | exit i => exact hK (.exit i) σ' a' w' h1 h2
    | ret => exact hK .ret σ' a' w' h1 h2
  | .cond c x y, n, K, Q, σ, a, w, hd, HCu, hK, hR, h => by
    simp only [ev] at h
    simp only [dstsOk, Bool.and_eq_true] at hd
    obtain ⟨D, η, O, G⟩ := hR
    have hv := G.eval c
    have hR : Rel B σ a w := ⟨D, η, O, G⟩
    have t1 : goOn S f (2 * n) (ev P S f (2 * n) x K) (S.cut f (2 * n)) σ = some r → x.wp P Q a w := fun h => goOn_ok HF HCu.cond1 hR (fun h => ev_ok W HC HD HF x (2 * n) _ _ σ a w hd.1 HCu.cond1 hK hR h) h
    have t2 : goOn S f (2 * n + 1) (ev P S f (2 * n + 1) y K) (S.cut f (2 * n + 1)) σ = some r → y.wp P Q a w := fun h => goOn_ok HF HCu.cond2 hR (fun h => ev_ok W HC HD HF y (2 * n + 1) _ _ σ a w hd.2 HCu.cond2 hK hR h) h
    split at h
    · rename_i e
      rw [e] at hv
      exact wp_cond_true (vr_k hv) (t1 h)
    · rename_i e
      rw [e] at hv
      exact wp_cond_false (vr_k hv) (t2 h)
    · rename_i b e
      rw [e] at hv
      have hb := hv.asB rfl
      unfold ifE at h
      split at h
      · rename_i e; subst e; exact wp_cond_true hb (t1 h)
      · rename_i e
        have e : b = false := by simpa using e
        subst e; exact wp_cond_false hb (t2 h)
    · cases h
  | .block id x, n, K, Q, σ, a, w, hd, HCu, hK, hR, h => by
    simp only [ev] at h
    simp only [dstsOk] at hd
    refine wp_block (goOn_ok HF HCu.block hR (fun h => ev_ok W HC HD HF x (2 * n) _ _ σ a w hd HCu.block (fun e σ' a' w' h1 h2 => ?_) hR h) h)
    cases e with
    | normal => exact hK .normal σ' a' w' h1 h2
    | exit i =>
      dsimp only at h1
      simp only [ex, Exit.inBlock]
      split at h1
      · rename_i e
        rw [if_pos (Nat.eq_of_beq_eq_true e)]
        exact hK .normal σ' a' w' h1 h2
      · rename_i e
        rw [if_neg (fun e' => by rw [e'] at e; simp at e)]
        exact hK (.exit i) σ' a' w' h1 h2
    | ret => exact hK .ret σ' a' w' h1 h2
  | .exit i, n, K, Q, σ, a, w, _, _, hK, hR, h => by
    simp only [ev] at h
    exact wp_exit (hK (.exit i) σ a w h hR)
  | .ret, n, K, Q, σ, a, w, _, _, hK, hR, h => by
    simp only [ev] at h
    exact wp_ret (hK .ret σ a w h hR)
  | .loop x, n, K, Q, σ, a, w, _, _, hK, hR, h => by simp [ev] at h
  | .label _, n, K, Q, σ, a, w, _, _, hK, hR, h => by simp [ev] at h
  | .goto _, n, K, Q, σ, a, w, _, _, hK, hR, h => by simp [ev] at h

/-- The code at a place is sound. -/
theorem goTo_ok (W : WF P A) (HC : HCall P S) (HD : HDraw P S) (HF : HFrame A f B) : ∀ (p : List Bool) (c : Code) (n : Nat) (K : Xt → St → Option (A.out f)) (Q : Exit → Act → World → Prop) (σ : St) (a : Act) (w : World) (c' : Code), codeAt p c = some c' → dstsOk B.N c = true → CutsOk P S f B r n c Q →
    (∀ e σ' a' w', K e σ' = some r → Rel B σ' a' w' → Q (ex e) a' w') → Rel B σ a w → goTo P S f p n c K σ = some r → CodeWp P c' (Qc P p c Q) a w
  | [], c, n, K, Q, σ, a, w, c', hc, hd, HCu, hK, hR, h => by
    have e : c = c' := by cases c <;> simpa [codeAt] using hc
    subst e
    have hQ : Qc P [] c Q = Q := by cases c <;> rfl
    rw [hQ]
    cases c with
    | loop b =>
      simp only [goTo] at h
      simp only [dstsOk] at hd
      refine LoopWp.round (ev_ok W HC HD HF b (2 * n) _ _ σ a w hd HCu.loop (fun e σ' a' w' h1 h2 => ?_) hR h)
      cases e with
      | normal =>
        show LoopWp P b Q a' w'
        dsimp only at h1
        unfold goOn at h1
        split at h1
        · cases h1
        · rename_i hne
          split at h1
          · rename_i x hx
            exact HCu [] (.loop b) rfl x h1 a' w' (HF n x σ' a' w' (fun e => hne e) hx h2)
          · cases h1
      | exit i => exact hK (.exit i) σ' a' w' h1 h2
      | ret => exact hK .ret σ' a' w' h1 h2
    | _ => exact ev_ok W HC HD HF _ n K Q σ a w hd HCu hK hR h
  | false :: p, .seq x y, n, K, Q, σ, a, w, c', hc, hd, HCu, hK, hR, h => by
    simp only [goTo] at h
    simp only [dstsOk, Bool.and_eq_true] at hd
    refine goTo_ok W HC HD HF p x (2 * n) _ (Exit.then (y.wp P Q) Q) σ a w c' hc hd.1 HCu.seq1 (fun e σ' a' w' h1 h2 => ?_) hR h
    cases e with
    | normal => exact goOn_ok HF HCu.seq2 h2 (fun h => ev_ok W HC HD HF y (2 * n + 1) _ _ σ' a' w' hd.2 HCu.seq2 hK h2 h) h1
    | exit i => exact hK (.exit i) σ' a' w' h1 h2
    | ret => exact hK .ret σ' a' w' h1 h2
  | true :: p, .seq x y, n, K, Q, σ, a, w, c', hc, hd, HCu, hK, hR, h => by
    simp only [goTo] at h
    simp only [dstsOk, Bool.and_eq_true] at hd
    exact goTo_ok W HC HD HF p y (2 * n + 1) K Q σ a w c' hc hd.2 HCu.seq2 hK hR h
  | false :: p, .cond c x y, n, K, Q, σ, a, w, c', hc, hd, HCu, hK, hR, h => by
    simp only [goTo] at h
    simp only [dstsOk, Bool.and_eq_true] at hd
    exact goTo_ok W HC HD HF p x (2 * n) K Q σ a w c' hc hd.1 HCu.cond1 hK hR h
  | true :: p, .cond c x y, n, K, Q, σ, a, w, c', hc, hd, HCu, hK, hR, h => by
    simp only [goTo] at h
    simp only [dstsOk, Bool.and_eq_true] at hd
    exact goTo_ok W HC HD HF p y (2 * n + 1) K Q σ a w c' hc hd.2 HCu.cond2 hK hR h
  | b :: p, .block id x, n, K, Q, σ, a, w, c', hc, hd, HCu, hK, hR, h => by
    have hc' : codeAt p x = some c' := by cases b <;> exact hc
    have hQ : Qc P (b :: p) (.block id x) Q = Qc P p x (Exit.inBlock id Q) := by cases b <;> rfl
    rw [hQ]
    simp only [dstsOk] at hd
    have h : goTo P S f p (2 * n) x (fun e σ => match e with
      | .exit i => (match Nat.beq i id with | true => K .normal σ | false => K (.exit i) σ)
      | e => K e σ) σ = some r := by cases b <;> exact h
    refine goTo_ok W HC HD HF p x (2 * n) _ (Exit.inBlock id Q) σ a w c' hc' hd HCu.block (fun e σ' a' w' h1 h2 => ?_) hR h
    cases e with
    | normal => exact hK .normal σ' a' w' h1 h2
    | exit i =>
      dsimp only at h1
      simp only [ex, Exit.inBlock]
      split at h1
      · rename_i e
        rw [if_pos (Nat.eq_of_beq_eq_true e)]
        exact hK .normal σ' a' w' h1 h2
      · rename_i e
        rw [if_neg (fun e' => by rw [e'] at e; simp at e)]
        exact hK (.exit i) σ' a' w' h1 h2
    | ret => exact hK .ret σ' a' w' h1 h2
  | b :: p, .loop x, n, K, Q, σ, a, w, c', hc, hd, HCu, hK, hR, h => by
    have hc' : codeAt p x = some c' := by cases b <;> exact hc
    have hQ : Qc P (b :: p) (.loop x) Q = Qc P p x (Exit.then (LoopWp P x Q) Q) := by cases b <;> rfl
    rw [hQ]
    simp only [dstsOk] at hd
    have h : goTo P S f p (2 * n) x (fun e σ => match e with
      | .normal => goOn S f n (fun _ => none) (S.cut f n) σ
      | e => K e σ) σ = some r := by cases b <;> exact h
    refine goTo_ok W HC HD HF p x (2 * n) _ (Exit.then (LoopWp P x Q) Q) σ a w c' hc' hd HCu.loop (fun e σ' a' w' h1 h2 => ?_) hR h
    cases e with
    | normal =>
      show LoopWp P x Q a' w'
      dsimp only at h1
      unfold goOn at h1
      split at h1
      · cases h1
      · rename_i hne
        split at h1
        · rename_i y hy
          exact HCu [] (.loop x) rfl y h1 a' w' (HF n y σ' a' w' (fun e => hne e) hy h2)
        · cases h1
    | exit i => exact hK (.exit i) σ' a' w' h1 h2
    | ret => exact hK .ret σ' a' w' h1 h2
  | b :: p, .skip, n, K, Q, σ, a, w, c', hc, _, _, _, _, _ => by cases b <;> cases hc
  | b :: p, .region _ _ _, n, K, Q, σ, a, w, c', hc, _, _, _, _, _ => by cases b <;> cases hc
  | b :: p, .exit _, n, K, Q, σ, a, w, c', hc, _, _, _, _, _ => by cases b <;> cases hc
  | b :: p, .ret, n, K, Q, σ, a, w, c', hc, _, _, _, _, _ => by cases b <;> cases hc
  | b :: p, .label _, n, K, Q, σ, a, w, c', hc, _, _, _, _, _ => by cases b <;> cases hc
  | b :: p, .goto _, n, K, Q, σ, a, w, c', hc, _, _, _, _, _ => by cases b <;> cases hc
end
end Go.Proofs.YtpoppblfnaipbaaDoor.Eng
/-! ## The engine: what is told anew. -/
namespace Go.Proofs.YtpoppblfnaipbaaDoor.Eng
open Go
set_option autoImplicit false
set_option linter.unusedVariables false
set_option linter.unusedSimpArgs false

/-- A new root: its number, what stands there, where, what it owns. -/
structure Ent where
  κ : Nat
  ob : Ob
  gh : Gh
  Q : Bs
def hpE (E : List Ent) : Heap := E.map fun e => (e.κ, some e.ob)
/-- A value that asks nothing of the roots. -/
theorem stables_get : ∀ (l : List V), stable.stables l = true → ∀ i (hi : i < l.length), stable l[i] = true
  | v :: l, h, 0, _ => by simp only [stable.stables, Bool.and_eq_true] at h; exact h.1
  | v :: l, h, i + 1, hi => by simp only [stable.stables, Bool.and_eq_true] at h; exact stables_get l h.2 i (by simpa using hi)
theorem stable_vr {w : World} {D : Bs} {η η' : Nat → Gh} {h h' : Heap} {v : V} {x : Value} (H : Vr w D η h v x) (hs : stable v = true) : Vr w D η' h' v x := by
  induction H with
  | d t x v ha hr => exact .d t x v ha hr
  | el t x b off us hb hr hc => exact .el t x b off us hb hr hc
  | eb l o b f hb hl hr ih => exact .eb l o b f hb hl (fun i hi => ih i hi (stables_get l (by simpa [stable] using hs) i hi))
  | k v => exact .k v
  | fn f caps vs hsz hr ih => exact .fn f caps vs hsz (fun i hi => ih i hi (stables_get caps (by simpa [stable] using hs) i hi))
  | _ => simp [stable] at hs

section
variable {P : Program} {B : Base} {D : Bs} {η : Nat → Gh} {O : Nat → Bs} {σ : St} {a : Act} {w : World}

def FL (w : World) (D : Bs) (κ : Nat) : (l : L) → l.den → List Value → List Ent → Prop
  | .pv t, x, vs, E => Rz w D t x vs ∧ E = []
  | .any, x, vs, E => ∃ v, vs = [v] ∧ Leaf v ∧ (∀ η h, Vr w D η h x v) ∧ E = []
  | .own t n, x, vs, E => ∃ v Q, vs = [v] ∧ Leaf v ∧ OwnE w D (.sl t) (n + 1) x [v] Q ∧ E = [⟨κ, .row t n κ false x, .row v, Q⟩]
def FLs (w : World) (D : Bs) (κ : Nat) : (ls : List L) → denL ls → List Value → List Ent → Prop
  | [], _, vs, E => vs = [] ∧ E = []
  | [l], x, vs, E => FL w D κ l x vs E
  | l :: m :: r, x, vs, E => ∃ u v E1 E2, vs = u ++ v ∧ E = E2 ++ E1 ∧ FL w D κ l x.1 u E1 ∧ FLs w D (κ + 1) (m :: r) x.2 v E2
/-- The roots stand there. -/
def There (h : Heap) (η : Nat → Gh) (E : List Ent) : Prop := ∀ e ∈ E, look h e.κ = some e.ob ∧ η e.κ = e.gh
theorem There.left {h : Heap} {E1 E2 : List Ent} (H : There h η (E2 ++ E1)) : There h η E2 := fun e he => H e (by simp [he])
theorem There.right {h : Heap} {E1 E2 : List Ent} (H : There h η (E2 ++ E1)) : There h η E1 := fun e he => H e (by simp [he])
/-- Cells, each one value. -/
def CellsL (w : World) (D : Bs) (η : Nat → Gh) (h : Heap) (l : List V) (cs : List Value) : Prop := Cells w D η h l cs ∧ ∀ v ∈ cs, Leaf v
theorem CellsL.mono {hp hp' : Heap} {D' : Bs} {l : List V} {cs : List Value} (E : Evo w D η hp w D' η hp') (H : CellsL w D η hp l cs) : CellsL w D' η hp' l cs := ⟨H.1.mono E, H.2⟩
theorem cells_append {h : Heap} {l l' : List V} {cs cs' : List Value} (H : Cells w D η h l cs) (H' : Cells w D η h l' cs') : Cells w D η h (l ++ l') (cs ++ cs') := by
  refine ⟨by simp [H.1, H'.1], fun i hi => ?_⟩
  by_cases e : i < l.length
  · have e1 : (cs ++ cs').getD i undef = cs.getD i undef := by simp only [List.getD]; rw [List.getElem?_append_left (by rw [H.1]; exact e)]
    rw [e1, List.getElem_append_left e]; exact H.2 i e
  · have hi' : i - l.length < l'.length := by simp at hi; omega
    have e1 : (cs ++ cs').getD i undef = cs'.getD (i - l.length) undef := by simp only [List.getD]; rw [List.getElem?_append_right (by rw [H.1]; omega), H.1]
    rw [e1, List.getElem_append_right (by omega)]; exact H'.2 _ hi'
theorem FL.heap {κ : Nat} {l : L} {x : l.den} {vs : List Value} {E : List Ent} (H : FL w D κ l x vs E) : (ofL κ l x).2 = hpE E := by
  cases l with
  | pv t => obtain ⟨_, rfl⟩ := H; rfl
  | any => obtain ⟨v, _, _, _, rfl⟩ := H; rfl
  | own t n => obtain ⟨v, Q, _, _, _, rfl⟩ := H; rfl
theorem FL.cells {κ : Nat} {l : L} {x : l.den} {vs : List Value} {E : List Ent} (H : FL w D κ l x vs E) {h : Heap} {η : Nat → Gh} (T : There h η E) : CellsL w D η h (ofL κ l x).1 vs := by
  cases l with
  | pv t =>
    obtain ⟨hr, rfl⟩ := H
    obtain ⟨h1, h2⟩ := leaves_ok (η := η) (h := h) t x vs hr
    exact ⟨⟨h1.symm, h2⟩, (Rz.shape _ _ _ hr).2⟩
  | any =>
    obtain ⟨v, rfl, hl, hv, rfl⟩ := H
    refine ⟨⟨rfl, fun i hi => ?_⟩, fun y hy => by simp at hy; rw [hy]; exact hl⟩
    obtain rfl : i = 0 := by simpa [ofL] using hi
    exact hv η h
  | own t n =>
    obtain ⟨v, Q, rfl, hl, ho, rfl⟩ := H
    obtain ⟨t1, t2⟩ := T _ (List.mem_cons_self)
    refine ⟨⟨rfl, fun i hi => ?_⟩, fun y hy => by simp at hy; rw [hy]; exact hl⟩
    obtain rfl : i = 0 := by simpa [ofL] using hi
    refine .ref κ [] κ t v hl (look_some_isSome t1) (look_some_isSome t1) (fun t0 n0 v0 fz xs hv hq _ he => ?_)
    simp only at t1 t2
    rw [t1] at hq; cases hq
    rw [t2] at he; cases he
    exact ⟨by cases t <;> trivial, by simp [hdrAt]⟩
theorem FL.objs {κ : Nat} {l : L} {x : l.den} {vs : List Value} {E : List Ent} (H : FL w D κ l x vs E) {h : Heap} {η : Nat → Gh} (T : There h η E) : ∀ e ∈ E, ObjOk w D η h e.κ e.ob e.Q := by
  cases l with
  | pv t => obtain ⟨hr, rfl⟩ := H; intro e he; simp at he
  | any => obtain ⟨v, rfl, hl, hv, rfl⟩ := H; intro e he; simp at he
  | own t n =>
    obtain ⟨v, Q, rfl, hl, ho, rfl⟩ := H
    intro e he
    obtain rfl := List.mem_singleton.1 he
    obtain ⟨t1, t2⟩ := T _ (List.mem_cons_self)
    exact ⟨v, t2, ho, look_some_isSome t1⟩
theorem FLs.heap : ∀ {ls : List L} {κ : Nat} {x : denL ls} {vs : List Value} {E : List Ent}, FLs w D κ ls x vs E → (ofLs κ ls x).2 = hpE E
  | [], _, _, _, _, H => by obtain ⟨_, rfl⟩ := H; rfl
  | [l], _, _, _, _, H => FL.heap (l := l) H
  | l :: m :: r, κ, x, vs, E, H => by
    obtain ⟨u, v, E1, E2, rfl, rfl, h1, h2⟩ := H
    have e1 := h1.heap
    have e2 := FLs.heap (ls := m :: r) h2
    show (ofLs (κ + 1) (m :: r) x.2).2 ++ (ofL κ l x.1).2 = _
    rw [e1, e2]; simp [hpE]
theorem FLs.cells : ∀ {ls : List L} {κ : Nat} {x : denL ls} {vs : List Value} {E : List Ent}, FLs w D κ ls x vs E → ∀ {h : Heap} {η : Nat → Gh}, There h η E → CellsL w D η h (ofLs κ ls x).1 vs
  | [], _, _, _, _, H, h, η, T => by obtain ⟨rfl, rfl⟩ := H; exact ⟨⟨rfl, fun i hi => absurd hi (Nat.not_lt_zero _)⟩, fun v hv => by simp at hv⟩
  | [l], _, _, _, _, H, h, η, T => FL.cells (l := l) H T
  | l :: m :: r, κ, x, vs, E, H, h, η, T => by
    obtain ⟨u, v, E1, E2, rfl, rfl, h1, h2⟩ := H
    have e1 := h1.cells T.right
    have e2 := FLs.cells (ls := m :: r) h2 T.left
    exact ⟨cells_append e1.1 e2.1, fun y hy => by rcases List.mem_append.1 hy with h | h; exact e1.2 y h; exact e2.2 y h⟩
theorem FLs.objs : ∀ {ls : List L} {κ : Nat} {x : denL ls} {vs : List Value} {E : List Ent}, FLs w D κ ls x vs E → ∀ {h : Heap} {η : Nat → Gh}, There h η E → ∀ e ∈ E, ObjOk w D η h e.κ e.ob e.Q
  | [], _, _, _, _, H, h, η, T => by obtain ⟨rfl, rfl⟩ := H; intro e he; simp at he
  | [l], _, _, _, _, H, h, η, T => FL.objs (l := l) H T
  | l :: m :: r, κ, x, vs, E, H, h, η, T => by
    obtain ⟨u, v, E1, E2, rfl, rfl, h1, h2⟩ := H
    intro e he
    rcases List.mem_append.1 he with he | he
    · exact FLs.objs (ls := m :: r) h2 T.left e he
    · exact h1.objs T.right e he
theorem FL.mono {D' : Bs} (hD : ∀ b, D b → D' b) {κ : Nat} {l : L} {x : l.den} {vs : List Value} {E : List Ent} (H : FL w D κ l x vs E) : FL w D' κ l x vs E := by
  cases l with
  | pv t => exact ⟨Rz.mono hD (Same.refl _ _) _ _ _ H.1, H.2⟩
  | any =>
    obtain ⟨v, h1, hl, hv, h2⟩ := H
    exact ⟨v, h1, hl, fun η h => (hv η h).mono ((FrzH.refl h).evo hD w η), h2⟩
  | own t n =>
    obtain ⟨v, Q, h1, hl, ho, h2⟩ := H
    exact ⟨v, Q, h1, hl, OwnE.mono hD (Same.refl _ _) _ _ _ _ _ (fun _ _ => rfl) ho, h2⟩
theorem FLs.mono {D' : Bs} (hD : ∀ b, D b → D' b) : ∀ {ls : List L} {κ : Nat} {x : denL ls} {vs : List Value} {E : List Ent}, FLs w D κ ls x vs E → FLs w D' κ ls x vs E
  | [], _, _, _, _, H => H
  | [l], _, _, _, _, H => FL.mono (l := l) hD H
  | l :: m :: r, κ, x, vs, E, H => by
    obtain ⟨u, v, E1, E2, h1, h2, h3, h4⟩ := H
    exact ⟨u, v, E1, E2, h1, h2, h3.mono hD, FLs.mono (ls := m :: r) hD h4⟩

/-- New roots that own what floats. -/
structure Fl (O : Nat → Bs) (h0 h : Heap) (E : List Ent) : Prop where
  gone : ∀ e ∈ E, ∀ b, e.Q b → ∃ r, look h r = none ∧ look h0 r ≠ none ∧ O r b
  dis : E.Pairwise fun e e' => ∀ b, e.Q b → ¬ e'.Q b
theorem Fl.nil (O : Nat → Bs) (h0 h : Heap) : Fl O h0 h [] := ⟨fun e he => by simp at he, .nil⟩
/-- Two steps' new roots. -/
theorem Fl.join {B : Base} {D2 : Bs} {O1 O2 : Nat → Bs} {σ2 : St} {h0 h1 h2 : Heap} {E1 E2 : List Ent} (G2 : RelG B D2 η O2 σ2 a w) (F0 : FrzH h0 h1) (F : FrzO h1 h2 O1 O2) (H1 : Fl O1 h0 h1 E1) (H2 : Fl O2 h1 h2 E2) : Fl O2 h0 h2 (E2 ++ E1) where
  gone := by
    intro e he b hb
    rcases List.mem_append.1 he with he | he
    · obtain ⟨r, r1, r2, r3⟩ := H2.gone e he b hb
      exact ⟨r, r1, fun e => r2 (F0.none e), r3⟩
    · obtain ⟨r, r1, r2, r3⟩ := H1.gone e he b hb
      exact ⟨r, F.none r1, r2, by rw [F.dead r r1]; exact r3⟩
  dis := by
    refine List.pairwise_append.2 ⟨H2.dis, H1.dis, fun e he e' he' b hb hb' => ?_⟩
    obtain ⟨r, r1, r2, r3⟩ := H2.gone e he b hb
    obtain ⟨r', s1, s2, s3⟩ := H1.gone e' he' b hb'
    rw [← F.dead r' s1] at s3
    obtain rfl := G2.odis r r' b r3 s3
    exact r2 s1
/-- A value told. -/
theorem toL_ok (κ : Nat) {l : L} {vs vs' : List V} {cs : List Value} {x : l.den} {u : Heap} (G : RelG B D η O σ a w) (H : CellsL w D η σ.h vs cs) (h : toL σ.h l vs = some (x, vs', u)) :
    ∃ D' O' us cs' E, RelG B D' η O' (σ.after none .un u) a w ∧ (∀ b, D b → D' b) ∧ FrzO σ.h (u ++ σ.h) O O' ∧ cs = us ++ cs' ∧ CellsL w D' η (u ++ σ.h) vs' cs' ∧ FL w D' κ l x us E ∧ Fl O' σ.h (u ++ σ.h) E := by
  cases l with
  | pv t =>
    have h : gather σ.h t vs = some (x, vs', u) := by cases vs <;> exact h
    obtain ⟨D', O', us, cs', G', h1, h2, rfl, h4, h5⟩ := gather_ok t vs cs x vs' u G H.1 h
    exact ⟨D', O', us, cs', [], G', h1, h2, rfl, ⟨h5, fun v hv => H.2 v (by simp [hv])⟩, ⟨h4, rfl⟩, Fl.nil _ _ _⟩
  | any =>
    match vs, h, H with
    | [], h, _ => simp [toL] at h
    | v :: vs, h, H =>
      simp only [toL] at h
      split at h
      case isFalse => cases h
      rename_i hs
      cases h
      obtain ⟨z, cs', rfl, hv, H'⟩ := H.1.cons
      exact ⟨D, O, [z], cs', [], G.same0, fun _ h => h, FrzO.refl _ _, rfl, ⟨H', fun y hy => H.2 y (by simp [hy])⟩, ⟨z, rfl, H.2 z (by simp), fun η h => stable_vr hv hs, rfl⟩, Fl.nil _ _ _⟩
  | own t n =>
    match vs, h, H with
    | [], h, _ => simp [toL] at h
    | v :: vs, h, H =>
      simp only [toL] at h
      split at h
      case h_2 => cases h
      rename_i xs m u' hb
      split at h
      case h_2 => cases h
      rename_i hle
      cases h
      have hle := Nat.le_of_ble_eq_true hle
      obtain ⟨z, cs', rfl, hv, H'⟩ := H.1.cons
      obtain ⟨Ox, G1, F1, hrow, hOx⟩ := baseV_ok G hv hb
      have hst : (σ.after none .un u).h = u ++ σ.h := St.after_h _ _ _ _
      have Hp : Pcs w D O σ.h (σ.after none .un u).h (.sl t) (fun _ => m + 1) [x] (fun _ => [z]) (fun _ => Ox) := by
        rw [hst]
        refine ⟨fun i hi => ?_, fun i b hi hb => hOx b hb, fun i j b hi hj _ _ => ?_⟩
        · obtain rfl : i = 0 := by have : i < 1 := hi; omega
          exact hrow
        · have : i < 1 := hi
          have : j < 1 := hj
          omega
      obtain ⟨D', O2, Q', G2, h1, hdead, hlive, hsub, H2, h2, h3⟩ := Hp.lower G1 (n + 1) (fun i hi => by omega)
      have ho := H2.own 0 (Nat.succ_pos 0)
      refine ⟨D', O2, [z], cs', [⟨κ, .row t n κ false x, .row z, Q' 0⟩], G2, h1, ?_, rfl, ?_, ⟨z, Q' 0, rfl, H.2 z (by simp), ho, rfl⟩, ⟨?_, List.pairwise_singleton _ _⟩⟩
      · exact ⟨F1.toFrzH, hdead⟩
      · exact ⟨H'.mono (F1.toFrzH.evo h1 w η), fun y hy => H.2 y (by simp [hy])⟩
      · intro e he b hb
        obtain rfl := List.mem_singleton.1 he
        obtain ⟨r, r1, r2, r3⟩ := H2.gone 0 b (Nat.succ_pos 0) hb
        rw [hst] at r1
        exact ⟨r, r1, r2, r3⟩
end
end Go.Proofs.YtpoppblfnaipbaaDoor.Eng
/-! ## The engine: frames told anew. -/
namespace Go.Proofs.YtpoppblfnaipbaaDoor.Eng
open Go
set_option autoImplicit false
set_option linter.unusedVariables false
set_option linter.unusedSimpArgs false

section
variable {P : Program} {B : Base} {D : Bs} {η : Nat → Gh} {O : Nat → Bs} {σ : St} {a : Act} {w : World}

theorem toLs_ok : ∀ (ls : List L) (κ : Nat) {D : Bs} {O : Nat → Bs} {σ : St} {vs vs' : List V} {cs : List Value} {x : denL ls} {u : Heap}, RelG B D η O σ a w → CellsL w D η σ.h vs cs → toLs σ.h ls vs = some (x, vs', u) →
    ∃ D' O' us cs' E, RelG B D' η O' (σ.after none .un u) a w ∧ (∀ b, D b → D' b) ∧ FrzO σ.h (u ++ σ.h) O O' ∧ cs = us ++ cs' ∧ CellsL w D' η (u ++ σ.h) vs' cs' ∧ FLs w D' κ ls x us E ∧ Fl O' σ.h (u ++ σ.h) E
  | [], κ, D, O, σ, vs, vs', cs, x, u, G, H, h => by
    simp only [toLs] at h
    cases h
    exact ⟨D, O, [], cs, [], G.same0, fun _ h => h, FrzO.refl _ _, rfl, H, ⟨rfl, rfl⟩, Fl.nil _ _ _⟩
  | [l], κ, D, O, σ, vs, vs', cs, x, u, G, H, h => toL_ok κ G H h
  | l :: m :: r, κ, D, O, σ, vs, vs', cs, x, u, G, H, h => by
    simp only [toLs] at h
    split at h
    case h_2 => cases h
    rename_i x1 vs1 u1 h1
    split at h
    case h_2 => cases h
    rename_i x2 vs2 u2 h2
    cases h
    obtain ⟨D1, O1, us1, cs1, E1, G1, a1, a2, rfl, a3, a4, a5⟩ := toL_ok κ G H h1
    obtain ⟨D2, O2, us2, cs2, E2, G2, b1, b2, rfl, b3, b4, b5⟩ := toLs_ok (m :: r) (κ + 1) G1 (by rw [St.after_h]; exact a3) (by rw [St.after_h]; exact h2)
    rw [after_after] at G2
    rw [St.after_h] at b2 b3 b5
    refine ⟨D2, O2, us1 ++ us2, cs2, E2 ++ E1, G2, fun b hb => b1 b (a1 b hb), by rw [List.append_assoc]; exact a2.trans b2, by rw [List.append_assoc], by rw [List.append_assoc]; exact b3, ⟨us1, us2, E1, E2, rfl, rfl, a4.mono b1, b4⟩, ?_⟩
    rw [List.append_assoc]
    exact Fl.join G2 a2.toFrzH b2 a5 b5

theorem hpE_fnd : ∀ (E : List Ent), (E.map Ent.κ).Nodup → ∀ e ∈ E, fnd (hpE E) e.κ = some (some e.ob)
  | [], _, e, he => by simp at he
  | e0 :: E, hn, e, he => by
    simp only [List.map_cons, List.nodup_cons] at hn
    simp only [hpE, List.map_cons, fnd_cons]
    by_cases h : e0.κ = e.κ
    · rw [if_pos h]
      rcases List.mem_cons.1 he with rfl | he
      · rfl
      · exact absurd (h ▸ List.mem_map.2 ⟨e, he, rfl⟩) hn.1
    · rw [if_neg h]
      rcases List.mem_cons.1 he with rfl | he
      · exact absurd rfl h
      · exact hpE_fnd E hn.2 e he
theorem hpE_mem : ∀ (E : List Ent) (κ : Nat) (o : Option Ob), fnd (hpE E) κ = some o → ∃ e ∈ E, e.κ = κ ∧ o = some e.ob
  | [], κ, o, h => by simp [hpE, fnd] at h
  | e0 :: E, κ, o, h => by
    simp only [hpE, List.map_cons, fnd_cons] at h
    split at h
    · rename_i e; cases h; exact ⟨e0, by simp, e, rfl⟩
    · obtain ⟨e, h1, h2⟩ := hpE_mem E κ o h; exact ⟨e, by simp [h1], h2⟩
theorem fl_unique {E : List Ent} (hn : (E.map Ent.κ).Nodup) {e e' : Ent} (he : e ∈ E) (he' : e' ∈ E) (h : e.κ = e'.κ) : e = e' := by
  induction E with
  | nil => simp at he
  | cons e0 E ih =>
    simp only [List.map_cons, List.nodup_cons] at hn
    rcases List.mem_cons.1 he with h1 | h1 <;> rcases List.mem_cons.1 he' with h2 | h2
    · rw [h1, h2]
    · exact absurd (by rw [← h1, h]; exact List.mem_map.2 ⟨e', h2, rfl⟩) hn.1
    · exact absurd (by rw [← h2, ← h]; exact List.mem_map.2 ⟨e, h1, rfl⟩) hn.1
    · exact ih hn.2 h1 h2
theorem pw_sym {E : List Ent} (h : E.Pairwise fun e e' => ∀ b, e.Q b → ¬ e'.Q b) {e e' : Ent} (he : e ∈ E) (he' : e' ∈ E) {b : Nat} (h1 : e.Q b) (h2 : e'.Q b) : e = e' := by
  induction E with
  | nil => simp at he
  | cons e0 E ih =>
    obtain ⟨g1, g2⟩ := List.pairwise_cons.1 h
    rcases List.mem_cons.1 he with r1 | r1 <;> rcases List.mem_cons.1 he' with r2 | r2
    · rw [r1, r2]
    · exact absurd h2 (g1 e' r2 b (r1 ▸ h1))
    · exact absurd h1 (g1 e r1 b (r2 ▸ h2))
    · exact ih g2 r1 r2
/-- A state told anew. -/
theorem RelG.anew (G : RelG B D η O σ a w) (E : List Ent) (t' : Tmps) (hn : (E.map Ent.κ).Nodup) (hQ : ∀ e ∈ E, ∀ b, e.Q b → ∃ r, O r b) (hdis : E.Pairwise fun e e' => ∀ b, e.Q b → ¬ e'.Q b)
    (hob : ∀ h η, There h η E → ∀ e ∈ E, ObjOk w D η h e.κ e.ob e.Q) (ht : ∀ h η, There h η E → ∀ i v, fnd t' i = some v → i < a.tmps.size ∧ Vr w D η h v (a.tmps.getD i undef)) (hand' : Nat → Nat → Prop) (hh : ∀ i b, hand' i b → ∃ e ∈ E, e.κ = i ∧ e.gh = .box b) : Rel { B with hand := hand' } ⟨t', hpE E⟩ a w := by
  have ex : ∀ κ, ∃ g : Gh × Bs, ∀ e ∈ E, e.κ = κ → g = (e.gh, e.Q) := by
    intro κ
    by_cases h : ∃ e ∈ E, e.κ = κ
    · obtain ⟨e, h1, h2⟩ := h
      exact ⟨(e.gh, e.Q), fun e' h1' h2' => by rw [fl_unique hn h1' h1 (h2'.trans h2.symm)]⟩
    · exact ⟨(.box 0, fun _ => False), fun e h1 h2 => absurd ⟨e, h1, h2⟩ h⟩
  obtain ⟨g, hg⟩ : ∃ g : Nat → Gh × Bs, ∀ κ, ∀ e ∈ E, e.κ = κ → g κ = (e.gh, e.Q) := ⟨fun κ => Classical.choose (ex κ), fun κ => Classical.choose_spec (ex κ)⟩
  let η' : Nat → Gh := fun κ => (g κ).1
  let O' : Nat → Bs := fun κ b => (∃ e ∈ E, e.κ = κ) ∧ (g κ).2 b
  have T : There (hpE E) η' E := fun e he => ⟨by simp [look, hpE_fnd E hn e he], by simp [η', hg e.κ e he rfl]⟩
  have hO' : ∀ κ b, O' κ b → ∃ e ∈ E, e.κ = κ ∧ e.Q b := by
    rintro κ b ⟨⟨e, h1, h2⟩, h3⟩
    rw [hg κ e h1 h2] at h3
    exact ⟨e, h1, h2, h3⟩
  refine ⟨D, η', O', ⟨G.os, G.tape, G.output, G.size, G.keep, G.klt, ?_, G.dlt, G.dbase, G.base, ?_, ?_, ?_, ht _ _ T, G.defers, G.tsz, ?_⟩⟩
  · intro κ b h
    obtain ⟨e, h1, h2, h3⟩ := hO' κ b h
    obtain ⟨r, hr⟩ := hQ e h1 b h3
    exact G.okeep r b hr
  · intro κ b h
    obtain ⟨e, h1, h2, h3⟩ := hO' κ b h
    obtain ⟨r, hr⟩ := hQ e h1 b h3
    exact G.olt r b hr
  · intro κ κ' b h h'
    obtain ⟨e, h1, h2, h3⟩ := hO' κ b h
    obtain ⟨e', h1', h2', h3'⟩ := hO' κ' b h'
    have := pw_sym hdis h1 h1' h3 h3'
    rw [← h2, ← h2', this]
  · intro κ o ho
    have : ∃ e ∈ E, e.κ = κ ∧ o = e.ob := by
      unfold look at ho
      split at ho
      · rename_i R hR
        cases ho
        obtain ⟨e, h1, h2, h3⟩ := hpE_mem E κ _ hR
        exact ⟨e, h1, h2, Option.some.inj h3⟩
      · cases ho
    obtain ⟨e, h1, rfl, rfl⟩ := this
    have h := hob _ _ T e h1
    have e2 : O' e.κ = e.Q := by
      funext b
      refine propext ⟨fun h => ?_, fun h => ⟨⟨e, h1, rfl⟩, by rw [hg e.κ e h1 rfl]; exact h⟩⟩
      obtain ⟨e', h1', h2', h3'⟩ := hO' _ b h
      rwa [fl_unique hn h1' h1 h2'] at h3'
    rw [e2]; exact h
  · intro i b h
    obtain ⟨e, h1, rfl, h3⟩ := hh i b h
    obtain ⟨t1, t2⟩ := T e h1
    exact ⟨look_some_isSome t1, t2.trans h3⟩
end
end Go.Proofs.YtpoppblfnaipbaaDoor.Eng
/-! ## The engine: slots told anew. -/
namespace Go.Proofs.YtpoppblfnaipbaaDoor.Eng
open Go
set_option autoImplicit false
set_option linter.unusedVariables false
set_option linter.unusedSimpArgs false

section
variable {P : Program} {B : Base} {D : Bs} {η : Nat → Gh} {O : Nat → Bs} {σ : St} {a : Act} {w : World}

theorem cellsL_of {h : Heap} {v : V} {z : Value} (hv : Vr w D η h v z) (h0 : 0 < v.cells.length) : CellsL w D η h v.cells z.cells.toList := by
  obtain ⟨h1, h2⟩ := hv.cells h0
  have e : ∀ i, z.cells.toList.getD i undef = z.cells.getD i undef := fun i => by rw [getD_of (l := z.cells.toList) (by simp) i]; rfl
  refine ⟨⟨by simp [h1], fun i hi => by rw [e]; exact (h2 i hi).2⟩, fun y hy => ?_⟩
  obtain ⟨i, hi, rfl⟩ := List.getElem_of_mem hy
  have := (h2 i (by rw [← h1]; simpa using hi)).1
  have e2 : z.cells.getD i undef = z.cells.toList[i] := by simp at hi; simp [Array.getD, hi]
  rwa [e2] at this
theorem fit_agg {h : Heap} {v : V} {z : Value} (hv : Vr w D η h v z) (hf : fit true v = true) : ∃ l cs, v = .agg l ∧ z = .agg cs ∧ CellsL w D η h l cs.toList := by
  cases hv with
  | agg l cs hs hl hr =>
    have e : ∀ i, cs.toList.getD i undef = cs.getD i undef := fun i => by rw [getD_of (l := cs.toList) (by simp) i]; rfl
    refine ⟨l, cs, rfl, rfl, ⟨by simp [hs], fun i hi => by rw [e]; exact hr i hi⟩, fun y hy => ?_⟩
    obtain ⟨i, hi, rfl⟩ := List.getElem_of_mem hy
    have := hl i (by rw [← hs]; simpa using hi)
    have e2 : cs.getD i undef = cs.toList[i] := by simp at hi; simp [Array.getD, hi]
    rwa [e2] at this
  | _ => simp [fit] at hf
theorem fit_leaf {h : Heap} {v : V} {z : Value} (hv : Vr w D η h v z) (hf : fit false v = true) (h0 : 0 < v.cells.length) : CellsL w D η h v.cells [z] := by
  have hlf : Leaf z := by
    cases hv with
    | agg => simp [fit] at hf
    | k =>
      by_cases hb : leafB z = true
      · exact leafB_leaf hb
      · simp [V.cells, hb] at h0
    | tup => simp [V.cells] at h0
    | un => simp [V.cells] at h0
    | d t y _ ha hr => exact (Rz.shape _ _ _ hr).2 z (by simp)
    | el => exact Leaf.pointer
    | eb => exact Leaf.pointer
    | ref r is v t _ hlf => exact hlf
    | rp r is v p t _ hlf => exact hlf
    | ptr r o _ hlf => exact hlf
    | fn => exact Leaf.func
  have := cellsL_of hv h0
  rw [hlf.cells] at this
  exact this
theorem toL_pos {h : Heap} {l : L} {x : l.den} {vs' : List V} {u : Heap} (ha : l.agg = false) (H : toL h l [] = some (x, vs', u)) : False := by
  cases l with
  | pv t =>
    have H : gather h t [] = some (x, vs', u) := H
    cases t <;> simp [L.agg, Ty.agg] at ha <;> simp [gather] at H
  | any => simp [toL] at H
  | own t n => simp [toL] at H
/-- What a slot is. -/
def F1 (w : World) (D : Bs) (κ : Nat) (l : L) (x : l.den) (z : Value) (E : List Ent) : Prop :=
  (l.agg = true ∧ ∃ cs, z = .agg cs ∧ FL w D κ l x cs.toList E) ∨ (l.agg = false ∧ FL w D κ l x [z] E)
theorem F1.mono {D' : Bs} (hD : ∀ b, D b → D' b) {κ : Nat} {l : L} {x : l.den} {z : Value} {E : List Ent} (H : F1 w D κ l x z E) : F1 w D' κ l x z E := by
  rcases H with ⟨h, cs, e, H⟩ | ⟨h, H⟩
  · exact .inl ⟨h, cs, e, H.mono hD⟩
  · exact .inr ⟨h, H.mono hD⟩
theorem one_ok (κ : Nat) {l : L} {v : V} {z : Value} {x : l.den} {u : Heap} (G : RelG B D η O σ a w) (hv : Vr w D η σ.h v z) (hf : fit l.agg v = true) (h : toL σ.h l v.cells = some (x, [], u)) :
    ∃ D' O' E, RelG B D' η O' (σ.after none .un u) a w ∧ (∀ b, D b → D' b) ∧ FrzO σ.h (u ++ σ.h) O O' ∧ F1 w D' κ l x z E ∧ Fl O' σ.h (u ++ σ.h) E := by
  cases ha : l.agg with
  | true =>
    rw [ha] at hf
    obtain ⟨vs, cs, rfl, rfl, H⟩ := fit_agg hv hf
    obtain ⟨D', O', us, cs', E, G', h1, h2, h3, h4, h5, h6⟩ := toL_ok κ G H h
    have e : cs' = [] := List.eq_nil_of_length_eq_zero h4.1.1
    rw [e, List.append_nil] at h3
    exact ⟨D', O', E, G', h1, h2, .inl ⟨ha, cs, rfl, by rw [h3]; exact h5⟩, h6⟩
  | false =>
    rw [ha] at hf
    have h0 : 0 < v.cells.length := by
      rcases Nat.eq_zero_or_pos v.cells.length with e | e
      · rw [List.eq_nil_of_length_eq_zero e] at h
        exact (toL_pos ha h).elim
      · exact e
    obtain ⟨D', O', us, cs', E, G', h1, h2, h3, h4, h5, h6⟩ := toL_ok κ G (fit_leaf hv hf h0) h
    have e : cs' = [] := List.eq_nil_of_length_eq_zero h4.1.1
    rw [e, List.append_nil] at h3
    exact ⟨D', O', E, G', h1, h2, .inr ⟨ha, by rw [h3]; exact h5⟩, h6⟩
theorem F1.heap {κ : Nat} {l : L} {x : l.den} {z : Value} {E : List Ent} (H : F1 w D κ l x z E) : (ofL κ l x).2 = hpE E := by
  rcases H with ⟨h, cs, e, H⟩ | ⟨h, H⟩ <;> exact H.heap
theorem F1.objs {κ : Nat} {l : L} {x : l.den} {z : Value} {E : List Ent} (H : F1 w D κ l x z E) {h : Heap} {η : Nat → Gh} (T : There h η E) : ∀ e ∈ E, ObjOk w D η h e.κ e.ob e.Q := by
  rcases H with ⟨_, cs, e, H⟩ | ⟨_, H⟩ <;> exact H.objs T
theorem F1.val {κ : Nat} {l : L} {x : l.den} {z : Value} {E : List Ent} (H : F1 w D κ l x z E) {h : Heap} {η : Nat → Gh} (T : There h η E) : Vr w D η h (ofRV κ (.one l) x).1 z ∧ (ofRV κ (.one l) x).2 = hpE E := by
  rcases H with ⟨ha, cs, rfl, H⟩ | ⟨ha, H⟩
  · have hc := H.cells T
    simp only [ofRV, ha, if_true]
    refine ⟨.agg _ _ (by have := hc.1.1; simpa using this) (fun i hi => ?_) (fun i hi => ?_), H.heap⟩
    · have hlt : i < cs.size := by have := hc.1.1; simp at this; omega
      have e2 : cs.getD i undef = cs[i] := by simp [Array.getD, hlt]
      rw [e2]; exact hc.2 _ (by simp)
    · have e : cs.toList.getD i undef = cs.getD i undef := by rw [getD_of (l := cs.toList) (by simp) i]; rfl
      rw [← e]; exact hc.1.2 i hi
  · have hc := H.cells T
    have hl : (ofL κ l x).1.length = 1 := by have := hc.1.1; simpa using this.symm
    obtain ⟨v, hv⟩ : ∃ v, (ofL κ l x).1 = [v] := by match (ofL κ l x).1, hl with | [v], _ => exact ⟨v, rfl⟩
    have hV : Vr w D η h v z := by
      have := hc.1.2 0 (by omega)
      simp only [hv, List.getElem_cons_zero] at this
      exact this
    have e : ofRV κ (.one l) x = (v, (ofL κ l x).2) := by simp [ofRV, ha, hv]
    rw [e]; exact ⟨hV, H.heap⟩
end
end Go.Proofs.YtpoppblfnaipbaaDoor.Eng
/-! ## The engine: a cut's frame told anew. -/
namespace Go.Proofs.YtpoppblfnaipbaaDoor.Eng
open Go
set_option autoImplicit false
set_option linter.unusedVariables false
set_option linter.unusedSimpArgs false

section
variable {P : Program} {B : Base} {D : Bs} {η : Nat → Gh} {O : Nat → Bs} {σ : St} {a : Act} {w : World}

def FSK (w : World) (D : Bs) (η : Nat → Gh) (tv : Nat → Value) (i : Nat) : (k : SK) → k.den → List Ent → Prop
  | .one l, x, E => F1 w D i l x (tv i) E
  | .sh j t, _, E => tv i = tv j ∧ E = []
  | .box fx ls, x, E => ∃ b c T E', tv i = .pointer (some ⟨b, 0, none⟩) ∧ w.heap[b]? = some (.cells c T (0, 0)) ∧ FLs w D (10000 * (i + 1)) ls x c.toList E' ∧ E = ⟨i, .box (ofLs (10000 * (i + 1)) ls x).1, .box b, fun y => y = b⟩ :: E' ∧ (fx = true → η i = .box b)
def FS (w : World) (D : Bs) (η : Nat → Gh) (tv : Nat → Value) : (ks : List (Nat × SK)) → denS ks → List Ent → Prop
  | [], _, E => E = []
  | [a], x, E => FSK w D η tv a.1 a.2 x E
  | a :: b :: r, x, E => ∃ E1 E2, E = E1 ++ E2 ∧ FSK w D η tv a.1 a.2 x.1 E1 ∧ FS w D η tv (b :: r) x.2 E2
theorem FSK.mono {D' : Bs} (hD : ∀ b, D b → D' b) {tv : Nat → Value} {i : Nat} {k : SK} {x : k.den} {E : List Ent} (H : FSK w D η tv i k x E) : FSK w D' η tv i k x E := by
  cases k with
  | one l => exact F1.mono hD H
  | sh j t => exact H
  | box fx ls =>
    obtain ⟨b, c, T, E', h1, h2, h3, h4⟩ := H
    exact ⟨b, c, T, E', h1, h2, h3.mono hD, h4⟩
theorem Fl.swap {O : Nat → Bs} {h0 h : Heap} {E1 E2 : List Ent} (H : Fl O h0 h (E2 ++ E1)) : Fl O h0 h (E1 ++ E2) where
  gone := fun e he => H.gone e (by simp at he ⊢; exact he.symm)
  dis := by
    obtain ⟨h1, h2, h3⟩ := List.pairwise_append.1 H.dis
    exact List.pairwise_append.2 ⟨h2, h1, fun e he e' he' b hb hb' => h3 e' he' e he b hb' hb⟩
/-- One slot. -/
theorem toSK_ok {i : Nat} {k : SK} {x : k.den} {u : Heap} (G : RelG B D η O σ a w) (hal : ∀ j t, k = .sh j t → a.tmps.getD i undef = a.tmps.getD j undef) (h : toS'.toSK σ.h σ.t i k = some (x, u)) :
    ∃ D' O' E, RelG B D' η O' (σ.after none .un u) a w ∧ (∀ b, D b → D' b) ∧ FrzO σ.h (u ++ σ.h) O O' ∧ FSK w D' η (fun i => a.tmps.getD i undef) i k x E ∧ Fl O' σ.h (u ++ σ.h) E := by
  cases k with
  | one l =>
    simp only [toS'.toSK] at h
    split at h
    case h_2 => cases h
    rename_i v hv
    split at h
    · rename_i y u' hf hl
      cases h
      exact one_ok i G (G.tmps i v hv).2 hf hl
    · cases h
  | sh j t =>
    have e : u = [] := by
      simp only [toS'.toSK] at h
      split at h
      · split at h
        · cases h; rfl
        · cases h
      · cases h
    subst e
    exact ⟨D, O, [], G.same0, fun _ h => h, FrzO.refl _ _, ⟨hal j t rfl, rfl⟩, Fl.nil _ _ _⟩
  | box fx ls =>
    simp only [toS'.toSK] at h
    split at h
    case h_2 => cases h
    rename_i r hv
    split at h
    case h_2 => cases h
    rename_i cs hb hq
    split at h
    case h_2 => cases h
    rename_i y u' hl
    cases h
    obtain ⟨b, c, T, h1, h2, h3, h4, h5⟩ := G.objs r _ hq
    have hvr := (G.tmps i _ hv).2
    have hval : a.tmps.getD i undef = .pointer (some ⟨b, 0, none⟩) := by
      generalize a.tmps.getD i undef = z at hvr
      cases hvr with
      | ptr _ _ _ hlf hr hx => exact hx cs b hq h1
    have G1 := G.gone r (look_some_isSome hq)
    have F1 : FrzO σ.h ([(r, none)] ++ σ.h) O O := ⟨FrzH.gone _ _ (look_some_isSome hq), fun _ _ => rfl⟩
    have hc : CellsL w D η σ.h cs c.toList := by
      have e : ∀ i, c.toList.getD i undef = c.getD i undef := fun i => by rw [getD_of (l := c.toList) (by simp) i]; rfl
      refine ⟨⟨by simp [h3], fun i hi => by rw [e]; exact (h4 i hi).2⟩, fun y hy => ?_⟩
      obtain ⟨i, hi, rfl⟩ := List.getElem_of_mem hy
      have := (h4 i (by rw [← h3]; simpa using hi)).1
      have e2 : c.getD i undef = c.toList[i] := by simp at hi; simp [Array.getD, hi]
      rwa [e2] at this
    obtain ⟨D', O', us, cs', E', G', a1, a2, a3, a4, a5, a6⟩ := toLs_ok ls (10000 * (i + 1)) G1 (by rw [St.after_h]; exact hc.mono (F1.toFrzH.evo (fun _ h => h) w η)) (by rw [St.after_h]; exact hl)
    rw [after_after] at G'
    rw [St.after_h] at a2 a4 a6
    have e : cs' = [] := List.eq_nil_of_length_eq_zero a4.1.1
    rw [e, List.append_nil] at a3
    have Fe : Fl O σ.h ([(r, none)] ++ σ.h) [⟨i, .box (ofLs (10000 * (i + 1)) ls x).1, .box b, fun y => y = b⟩] :=
      ⟨fun e he y hy => by
        obtain rfl := List.mem_singleton.1 he
        exact ⟨r, by simp [look, fnd_cons], by rw [hq]; simp, (h5 y).2 hy⟩, List.pairwise_singleton _ _⟩
    refine ⟨D', O', _ :: E', G', a1, by rw [List.append_assoc]; exact F1.trans a2, ⟨b, c, T, E', hval, h2, by rw [a3]; exact a5, rfl, fun hfx => ?_⟩, ?_⟩
    · subst hfx
      simp only [Bool.not_true, Bool.false_or] at hb
      rw [← Nat.eq_of_beq_eq_true hb]; exact h1
    rw [List.append_assoc]
    exact Fl.swap (E1 := [_]) (Fl.join G' F1.toFrzH a2 Fe a6)
end
end Go.Proofs.YtpoppblfnaipbaaDoor.Eng
/-! ## The engine: cuts' frames: whole. -/
namespace Go.Proofs.YtpoppblfnaipbaaDoor.Eng
open Go
set_option autoImplicit false
set_option linter.unusedVariables false
set_option linter.unusedSimpArgs false

section
variable {P : Program} {B : Base} {D : Bs} {η : Nat → Gh} {O : Nat → Bs} {σ : St} {a : Act} {w : World}

theorem F1.heap' {κ : Nat} {l : L} {x : l.den} {z : Value} {E : List Ent} (H : F1 w D κ l x z E) : (ofRV κ (.one l) x).2 = hpE E := by
  have h := H.heap
  cases l with
  | pv t => cases t <;> simpa [ofRV, L.agg, Ty.agg, ofL, leaves] using h
  | any => simpa [ofRV, L.agg, ofL] using h
  | own t n => simpa [ofRV, L.agg, ofL] using h
theorem FSK.heap {tv : Nat → Value} {i : Nat} {k : SK} {x : k.den} {E : List Ent} (H : FSK w D η tv i k x E) : (ofSK i k x).2 = hpE E := by
  cases k with
  | one l => exact F1.heap' H
  | sh j t => obtain ⟨_, rfl⟩ := H; rfl
  | box fx ls =>
    obtain ⟨b, c, T, E', h1, h2, h3, rfl, h4⟩ := H
    simp only [ofSK, hpE, List.map_cons]
    rw [h3.heap]; rfl
theorem FS.heap {tv : Nat → Value} : ∀ {ks : List (Nat × SK)} {x : denS ks} {E : List Ent}, FS w D η tv ks x E → (ofS ks x).h = hpE E
  | [], x, E, H => by obtain rfl : E = [] := H; rfl
  | [k], x, E, H => FSK.heap (k := k.2) H
  | k :: m :: r, x, E, H => by
    obtain ⟨E1, E2, rfl, h1, h2⟩ := H
    have e1 := h1.heap
    have e2 := FS.heap (ks := m :: r) h2
    show (ofSK k.1 k.2 x.1).2 ++ (ofS (m :: r) x.2).h = _
    rw [e1, e2]; simp [hpE]
/-- All slots. -/
theorem toS_ok : ∀ (ks : List (Nat × SK)) {D : Bs} {O : Nat → Bs} {σ : St} {x : denS ks}, RelG B D η O σ a w → (∀ i j t, (i, SK.sh j t) ∈ ks → (∃ x u, toS'.toSK σ.h σ.t i (.sh j t) = some (x, u)) → a.tmps.getD i undef = a.tmps.getD j undef) → toS' σ.h σ.t ks = some x →
    ∃ D' O' σ' E, RelG B D' η O' σ' a w ∧ (∀ b, D b → D' b) ∧ FrzO σ.h σ'.h O O' ∧ FS w D' η (fun i => a.tmps.getD i undef) ks x E ∧ Fl O' σ.h σ'.h E
  | [], D, O, σ, x, G, hal, h => ⟨D, O, σ, [], G, fun _ h => h, FrzO.refl _ _, rfl, Fl.nil _ _ _⟩
  | [k], D, O, σ, x, G, hal, h => by
    obtain ⟨i, k⟩ := k
    simp only [toS'] at h
    split at h
    case h_2 => cases h
    rename_i y u h1
    cases h
    obtain ⟨D', O', E, G', a1, a2, a3, a4⟩ := toSK_ok G (fun j t e => by subst e; exact hal i j t (by simp) ⟨_, _, h1⟩) h1
    have hst : (σ.after none .un u).h = u ++ σ.h := St.after_h _ _ _ _
    exact ⟨D', O', σ.after none .un u, E, G', a1, by rw [hst]; exact a2, a3, by rw [hst]; exact a4⟩
  | k :: m :: r, D, O, σ, x, G, hal, h => by
    obtain ⟨i, k⟩ := k
    simp only [toS'] at h
    split at h
    case h_2 => cases h
    rename_i y u h1
    split at h
    case h_2 => cases h
    rename_i z h2
    cases h
    obtain ⟨D1, O1, E1, G1, a1, a2, a3, a4⟩ := toSK_ok G (fun j t e => by subst e; exact hal i j t (by simp) ⟨_, _, h1⟩) h1
    have hst : (σ.after none .un u).h = u ++ σ.h := St.after_h _ _ _ _
    have htt : (σ.after none .un u).t = σ.t := rfl
    obtain ⟨D2, O2, σ2, E2, G2, b1, b2, b3, b4⟩ := toS_ok (m :: r) G1 (fun i' j t hm he => hal i' j t (by simp only [List.mem_cons] at hm ⊢; exact .inr hm) (by
      obtain ⟨x', u', he⟩ := he
      refine ⟨(), [], ?_⟩
      rw [htt] at he
      simp only [toS'.toSK] at he ⊢
      split at he
      · rename_i e1 e2
        split at he
        · rename_i e3; simp [e1, e2, e3]
        · cases he
      · cases he)) (by rw [hst, htt]; exact h2)
    rw [hst] at b2 b4
    exact ⟨D2, O2, σ2, E1 ++ E2, G2, fun b hb => b1 b (a1 b hb), a2.trans b2, ⟨E1, E2, rfl, a3.mono b1, b3⟩, Fl.swap (Fl.join G2 a2.toFrzH b2 a4 b4)⟩
end
end Go.Proofs.YtpoppblfnaipbaaDoor.Eng
/-! ## The engine: a cut's frame is sound. -/
namespace Go.Proofs.YtpoppblfnaipbaaDoor.Eng
open Go
set_option autoImplicit false
set_option linter.unusedVariables false
set_option linter.unusedSimpArgs false

theorem memB_iff {a : Nat} : ∀ {l : List Nat}, memB a l = true ↔ a ∈ l
  | [] => by simp [memB]
  | b :: l => by simp [memB, memB_iff (l := l)]
theorem nodupB_ok : ∀ {l : List Nat}, nodupB l = true → l.Nodup
  | [], _ => .nil
  | a :: l, h => by
    simp only [nodupB, Bool.and_eq_true, Bool.not_eq_true'] at h
    refine List.nodup_cons.2 ⟨fun hm => ?_, nodupB_ok h.2⟩
    rw [memB_iff.2 hm] at h
    exact absurd h.1 (by simp)

section
variable {P : Program} {B : Base} {D : Bs} {η : Nat → Gh} {O : Nat → Bs} {σ : St} {a : Act} {w : World}

theorem FL.ids {κ : Nat} {l : L} {x : l.den} {vs : List Value} {E : List Ent} (H : FL w D κ l x vs E) : E.map Ent.κ = idL κ l := by
  cases l with
  | pv t => obtain ⟨_, rfl⟩ := H; rfl
  | any => obtain ⟨v, _, _, _, rfl⟩ := H; rfl
  | own t n => obtain ⟨v, Q, _, _, _, rfl⟩ := H; rfl
theorem FLs.ids : ∀ {ls : List L} {κ : Nat} {x : denL ls} {vs : List Value} {E : List Ent}, FLs w D κ ls x vs E → E.map Ent.κ = idLs κ ls
  | [], _, _, _, _, H => by obtain ⟨_, rfl⟩ := H; rfl
  | [l], _, _, _, _, H => FL.ids (l := l) H
  | l :: m :: r, κ, x, vs, E, H => by
    obtain ⟨u, v, E1, E2, rfl, rfl, h1, h2⟩ := H
    rw [List.map_append, h1.ids, FLs.ids (ls := m :: r) h2]; rfl
theorem FSK.ids {tv : Nat → Value} {i : Nat} {k : SK} {x : k.den} {E : List Ent} (H : FSK w D η tv i k x E) : E.map Ent.κ = idSK i k := by
  cases k with
  | one l => rcases H with ⟨_, cs, _, H⟩ | ⟨_, H⟩ <;> exact H.ids
  | sh j t => obtain ⟨_, rfl⟩ := H; rfl
  | box fx ls =>
    obtain ⟨b, c, T, E', h1, h2, h3, rfl, h4⟩ := H
    simp only [List.map_cons, h3.ids, idSK]
theorem FS.ids {tv : Nat → Value} : ∀ {ks : List (Nat × SK)} {x : denS ks} {E : List Ent}, FS w D η tv ks x E → E.map Ent.κ = idS ks
  | [], x, E, H => by obtain rfl : E = [] := H; rfl
  | [k], x, E, H => FSK.ids (k := k.2) H
  | k :: m :: r, x, E, H => by
    obtain ⟨E1, E2, rfl, h1, h2⟩ := H
    rw [List.map_append, h1.ids, FS.ids (ks := m :: r) h2]; rfl
theorem FSK.objs {tv : Nat → Value} {i : Nat} {k : SK} {x : k.den} {E : List Ent} (H : FSK w D η tv i k x E) {h : Heap} {η : Nat → Gh} (T : There h η E) : ∀ e ∈ E, ObjOk w D η h e.κ e.ob e.Q := by
  cases k with
  | one l => exact F1.objs H T
  | sh j t => obtain ⟨_, rfl⟩ := H; intro e he; simp at he
  | box fx ls =>
    obtain ⟨b, c, T', E', h1, h2, h3, rfl, h4⟩ := H
    have TE : There h η E' := fun e he => T e (by simp [he])
    intro e he
    rcases List.mem_cons.1 he with rfl | he
    · have hc := h3.cells TE
      refine ⟨b, c, T', (T _ (List.mem_cons_self)).2, h2, by have := hc.1.1; simpa using this, fun j hj => ?_, fun y => Iff.rfl⟩
      have hlt : j < c.size := by have := hc.1.1; simp at this; omega
      have e1 : c.toList.getD j undef = c.getD j undef := by rw [getD_of (l := c.toList) (by simp) j]; rfl
      have e2 : c.getD j undef = c[j] := by simp [Array.getD, hlt]
      exact ⟨by rw [e2]; exact hc.2 _ (by simp), by rw [← e1]; exact hc.1.2 j hj⟩
    · exact h3.objs TE e he
theorem FS.objs {tv : Nat → Value} : ∀ {ks : List (Nat × SK)} {x : denS ks} {E : List Ent}, FS w D η tv ks x E → ∀ {h : Heap} {η : Nat → Gh}, There h η E → ∀ e ∈ E, ObjOk w D η h e.κ e.ob e.Q
  | [], x, E, H, h, η, T => by obtain rfl : E = [] := H; intro e he; simp at he
  | [k], x, E, H, h, η, T => FSK.objs (k := k.2) H T
  | k :: m :: r, x, E, H, h, η, T => by
    obtain ⟨E1, E2, rfl, h1, h2⟩ := H
    intro e he
    rcases List.mem_append.1 he with he | he
    · exact h1.objs T.left e he
    · exact FS.objs (ks := m :: r) h2 T.right e he
end
end Go.Proofs.YtpoppblfnaipbaaDoor.Eng
/-! ## The engine: a cut's frame is sound, whole. -/
namespace Go.Proofs.YtpoppblfnaipbaaDoor.Eng
open Go
set_option autoImplicit false
set_option linter.unusedVariables false
set_option linter.unusedSimpArgs false

section
variable {P : Program} {B : Base} {D : Bs} {η : Nat → Gh} {O : Nat → Bs} {σ : St} {a : Act} {w : World}

/-- A row's root. -/
def RowEnt (E : List Ent) (j : Nat) (z : Value) : Prop := ∃ e ∈ E, e.κ = j ∧ e.gh = .row z ∧ Leaf z
theorem own_ent {tv : Nat → Value} {i : Nat} {t : Ty} {n : Nat} {x : (SK.one (.own t n)).den} {E : List Ent} (H : FSK w D η tv i (.one (.own t n)) x E) : RowEnt E i (tv i) := by
  rcases H with ⟨h, _⟩ | ⟨_, H⟩
  · simp [L.agg] at h
  · obtain ⟨v, Q, e, hl, ho, rfl⟩ := H
    have : tv i = v := by simpa using e
    exact ⟨_, List.mem_cons_self, rfl, by rw [this], by rw [this]; exact hl⟩
theorem RowEnt.left {E1 E2 : List Ent} {j : Nat} {z : Value} (H : RowEnt E1 j z) : RowEnt (E1 ++ E2) j z := by
  obtain ⟨e, h1, h2⟩ := H; exact ⟨e, by simp [h1], h2⟩
theorem RowEnt.right {E1 E2 : List Ent} {j : Nat} {z : Value} (H : RowEnt E2 j z) : RowEnt (E1 ++ E2) j z := by
  obtain ⟨e, h1, h2⟩ := H; exact ⟨e, by simp [h1], h2⟩
theorem FS.own {tv : Nat → Value} {j : Nat} : ∀ {ks : List (Nat × SK)} {x : denS ks} {E : List Ent}, FS w D η tv ks x E → ownAt j ks = true → RowEnt E j (tv j)
  | [], x, E, H, h => by simp [ownAt] at h
  | [k], x, E, H, h => by
    obtain ⟨i, k⟩ := k
    cases k with
    | one l => cases l with
      | own t n =>
        simp only [ownAt, Bool.or_false] at h
        obtain rfl := Nat.eq_of_beq_eq_true h
        exact own_ent H
      | _ => simp [ownAt] at h
    | _ => simp [ownAt] at h
  | k :: m :: r, x, E, H, h => by
    obtain ⟨E1, E2, rfl, h1, h2⟩ := H
    obtain ⟨i, k⟩ := k
    have rest : ownAt j (m :: r) = true → RowEnt (E1 ++ E2) j (tv j) := fun h => (FS.own (ks := m :: r) h2 h).right
    cases k with
    | one l => cases l with
      | own t n =>
        have h : (Nat.beq i j || ownAt j (m :: r)) = true := h
        rcases Bool.or_eq_true _ _ ▸ h with h | h
        · obtain rfl := Nat.eq_of_beq_eq_true h
          exact (own_ent h1).left
        · exact rest h
      | _ => exact rest h
    | _ => exact rest h
theorem FSK.val {tv : Nat → Value} {i : Nat} {k : SK} {x : k.den} {E : List Ent} (H : FSK w D η tv i k x E) {h : Heap} {η : Nat → Gh} (T : There h η E) {Eall : List Ent} (Tall : There h η Eall) (hal : ∀ j t, k = .sh j t → RowEnt Eall j (tv j)) : Vr w D η h (ofSK i k x).1 (tv i) := by
  cases k with
  | one l => exact (F1.val H T).1
  | sh j t =>
    obtain ⟨e1, _⟩ := H
    obtain ⟨e, h1, h2, h3, hl⟩ := hal j t rfl
    obtain ⟨t1, t2⟩ := Tall e h1
    rw [h2] at t1 t2
    rw [e1]
    refine .ref j [] j t _ hl (look_some_isSome t1) (look_some_isSome t1) (fun t0 n0 v0 fz xs hv hq _ he => ?_)
    rw [t2, h3] at he; cases he
    exact ⟨by cases t0 <;> trivial, by simp [hdrAt]⟩
  | box fx ls =>
    obtain ⟨b, c, T', E', h1, h2, h3, rfl, h4⟩ := H
    obtain ⟨t1, t2⟩ := T _ (List.mem_cons_self)
    rw [h1]
    refine .ptr i 0 _ Leaf.pointer (look_some_isSome t1) (fun l' b' hl he => ?_)
    simp only at t2
    rw [t2] at he; cases he; rfl
theorem FS.tmps {tv : Nat → Value} {h : Heap} {η' : Nat → Gh} {Eall : List Ent} (Tall : There h η' Eall) : ∀ {ks : List (Nat × SK)} {x : denS ks} {E : List Ent}, FS w D η tv ks x E → There h η' E → (∀ i j t, (i, SK.sh j t) ∈ ks → RowEnt Eall j (tv j)) → ∀ i v, fnd (ofS ks x).t i = some v → (∃ k, (i, k) ∈ ks) ∧ Vr w D η' h v (tv i)
  | [], x, E, H, T, hal, i, v, hv => by simp [ofS, fnd] at hv
  | [k], x, E, H, T, hal, i, v, hv => by
    obtain ⟨i', k⟩ := k
    simp only [ofS, fnd_cons] at hv
    split at hv
    · rename_i e; subst e; cases hv
      exact ⟨⟨k, by simp⟩, FSK.val H T Tall (fun j t e => hal i' j t (by rw [← (e : k = SK.sh j t)]; simp))⟩
    · simp [fnd] at hv
  | k :: m :: r, x, E, H, T, hal, i, v, hv => by
    obtain ⟨E1, E2, rfl, h1, h2⟩ := H
    obtain ⟨i', k⟩ := k
    simp only [ofS, fnd_cons] at hv
    split at hv
    · rename_i e; subst e; cases hv
      exact ⟨⟨k, by simp⟩, FSK.val h1 T.left Tall (fun j t e => hal i' j t (by rw [← (e : k = SK.sh j t)]; simp))⟩
    · obtain ⟨⟨k', hk⟩, hr⟩ := FS.tmps Tall (ks := m :: r) h2 T.right (fun i j t hm => hal i j t (by simp only [List.mem_cons] at hm ⊢; exact .inr hm)) i v hv
      exact ⟨⟨k', by simp only [List.mem_cons] at hk ⊢; exact .inr hk⟩, hr⟩
theorem FS.box {tv : Nat → Value} {i b : Nat} (hb : η i = .box b) : ∀ {ks : List (Nat × SK)} {x : denS ks} {E : List Ent}, FS w D η tv ks x E → boxAt i ks = true → ∃ e ∈ E, e.κ = i ∧ e.gh = .box b
  | [], x, E, H, h => by simp [boxAt] at h
  | [k], x, E, H, h => by
    obtain ⟨j, k⟩ := k
    cases k with
    | box fx ls =>
      cases fx with
      | false => simp [boxAt] at h
      | true =>
      simp only [boxAt, Bool.or_false] at h
      obtain rfl := Nat.eq_of_beq_eq_true h
      obtain ⟨b', c, T, E', h1, h2, h3, rfl, h4⟩ := H
      rw [h4 rfl] at hb; cases hb
      exact ⟨_, List.mem_cons_self, rfl, rfl⟩
    | _ => simp [boxAt] at h
  | k :: m :: r, x, E, H, h => by
    obtain ⟨E1, E2, rfl, h1, h2⟩ := H
    obtain ⟨j, k⟩ := k
    have rest : boxAt i (m :: r) = true → ∃ e ∈ E1 ++ E2, e.κ = i ∧ e.gh = .box b := fun h => by
      obtain ⟨e, g1, g2⟩ := FS.box hb (ks := m :: r) h2 h
      exact ⟨e, by simp [g1], g2⟩
    cases k with
    | box fx ls =>
      cases fx with
      | false => exact rest h
      | true =>
      have h : (Nat.beq j i || boxAt i (m :: r)) = true := h
      rcases Bool.or_eq_true _ _ ▸ h with h | h
      · obtain rfl := Nat.eq_of_beq_eq_true h
        obtain ⟨b', c, T, E', g1, g2, g3, rfl, g4⟩ := h1
        rw [g4 rfl] at hb; cases hb
        exact ⟨_, List.mem_append_left _ List.mem_cons_self, rfl, rfl⟩
      · exact rest h
    | _ => exact rest h
end
end Go.Proofs.YtpoppblfnaipbaaDoor.Eng
/-! ## The engine: HFrame. -/
namespace Go.Proofs.YtpoppblfnaipbaaDoor.Eng
open Go
set_option autoImplicit false
set_option linter.unusedVariables false
set_option linter.unusedSimpArgs false

section
variable {P : Program} {B : Base} {D : Bs} {η : Nat → Gh} {O : Nat → Bs} {σ : St} {a : Act} {w : World}

theorem toSK_some {h : Heap} {T : Tmps} {i : Nat} {k : SK} {r : k.den × Heap} (H : toS'.toSK h T i k = some r) : (fnd T i).isSome := by
  cases k <;> simp only [toS'.toSK] at H <;> split at H <;> first | (rename_i h1 h2; rw [h1]; rfl) | (rename_i h1; rw [h1]; rfl) | cases H
theorem toS_some : ∀ (ks : List (Nat × SK)) {h : Heap} {T : Tmps} {x : denS ks}, toS' h T ks = some x → ∀ i k, (i, k) ∈ ks → (fnd T i).isSome
  | [], h, T, x, H, i, k, hm => by simp at hm
  | [k0], h, T, x, H, i, k, hm => by
    simp only [toS'] at H
    split at H
    case h_2 => cases H
    rename_i y u h1
    obtain rfl := List.mem_singleton.1 hm
    exact toSK_some h1
  | k0 :: m :: r, h, T, x, H, i, k, hm => by
    simp only [toS'] at H
    split at H
    case h_2 => cases H
    rename_i y u h1
    split at H
    case h_2 => cases H
    rename_i z h2
    rcases List.mem_cons.1 hm with rfl | hm
    · exact toSK_some h1
    · exact toS_some (m :: r) h2 i k hm
theorem alsOk_mem {h : Heap} {T : Tmps} : ∀ {ks : List (Nat × SK)}, alsOk h T ks = true → ∀ i j t, (i, SK.sh j t) ∈ ks → ∃ q v s t0 n v0 fz, ∃ xs : List (Ty.den t0), fnd T i = some (.ref q [] v s) ∧ look h q = some (.row t0 n v0 fz xs)
  | [], _, i, j, t, hm => by simp at hm
  | (i0, k) :: r, H, i, j, t, hm => by
    cases k with
    | sh j0 t0 =>
      simp only [alsOk] at H
      split at H
      · rename_i q v s hq
        split at H
        · rename_i t1 n v0 fz xs hl
          rcases List.mem_cons.1 hm with e | hm
          · cases e; exact ⟨q, v, s, t1, n, v0, fz, xs, hq, hl⟩
          · exact alsOk_mem H i j t hm
        · cases H
      · cases H
    | _ =>
      have H : alsOk h T r = true := H
      rcases List.mem_cons.1 hm with e | hm
      · cases e
      · exact alsOk_mem H i j t hm
theorem alsTo_mem {all : List (Nat × SK)} : ∀ {ks : List (Nat × SK)}, alsTo all ks = true → ∀ i j t, (i, SK.sh j t) ∈ ks → ownAt j all = true
  | [], _, i, j, t, hm => by simp at hm
  | (i0, k) :: r, H, i, j, t, hm => by
    cases k with
    | sh j0 t0 =>
      simp only [alsTo, Bool.and_eq_true] at H
      rcases List.mem_cons.1 hm with e | hm
      · cases e; exact H.1
      · exact alsTo_mem H.2 i j t hm
    | _ =>
      have H : alsTo all r = true := H
      rcases List.mem_cons.1 hm with e | hm
      · cases e
      · exact alsTo_mem H i j t hm
/-- A frame is told anew. -/
theorem frame_ok {ks : List (Nat × SK)} (hk : cutOk ks = true) (hbx : ∀ i b, B.hand i b → boxAt i ks = true) {x : denS ks} (h : toS σ.h σ.t ks = some x) (hR : Rel B σ a w) : Rel B (ofS ks x) a w := by
  obtain ⟨D, η, O, G⟩ := hR
  unfold toS at h
  split at h
  case h_2 => cases h
  rename_i ha
  simp only [cutOk, Bool.and_eq_true] at hk
  obtain ⟨D', O', σ', E, G', h1, h2, h3, h4⟩ := toS_ok ks G (fun i j t hm he => by
    obtain ⟨q, v, s, t0, n, v0, fz, xs, e1, e2⟩ := alsOk_mem ha i j t hm
    obtain ⟨x', u', he⟩ := he
    simp only [toS'.toSK] at he
    split at he
    case h_2 => cases he
    rename_i r v1 t1 r' v1' t1' f1 f2
    split at he
    case h_2 => cases he
    rename_i hb
    obtain rfl := Nat.eq_of_beq_eq_true hb
    rw [e1] at f1; cases f1
    obtain ⟨hd, g1, _⟩ := G.row e2
    have key : ∀ {v : Nat} {s : Ty} {z : Value}, Vr w D η σ.h (.ref q [] v s) z → z = hd := by
      intro v s z hz
      cases hz with
      | ref _ _ _ _ _ hlf hr hv hx =>
        obtain ⟨_, h4⟩ := hx t0 n v0 fz xs hd e2 (.inl rfl) g1
        cases hd <;> simpa [hdrAt] using h4.symm
    rw [key (G.tmps i _ e1).2, key (G.tmps j _ f2).2]) h
  have hsz : ∀ i k, (i, k) ∈ ks → i < a.tmps.size := fun i k hm => by
    have := toS_some ks h i k hm
    obtain ⟨v, hv⟩ := Option.isSome_iff_exists.1 this
    exact (G.tmps i v hv).1
  have hfin := G'.anew E (ofS ks x).t (by rw [h3.ids]; exact nodupB_ok hk.1) (fun e he b hb => by
    obtain ⟨r, _, _, hr⟩ := h4.gone e he b hb
    exact ⟨r, hr⟩) h4.dis (fun h η T => h3.objs T) (fun h η T i v hv => by
    obtain ⟨⟨k, hm⟩, hvr⟩ := FS.tmps T h3 T (fun i j t hm => h3.own (alsTo_mem hk.2 i j t hm)) i v hv
    exact ⟨hsz i k hm, hvr⟩) B.hand (fun i b hh => h3.box (G.hb i b hh).2 (hbx i b hh))
  have e : ofS ks x = ⟨(ofS ks x).t, hpE E⟩ := by rw [← h3.heap]
  rw [e]; exact hfin
end
end Go.Proofs.YtpoppblfnaipbaaDoor.Eng
/-! ## The engine: results told. -/
namespace Go.Proofs.YtpoppblfnaipbaaDoor.Eng
open Go
set_option autoImplicit false
set_option linter.unusedVariables false
set_option linter.unusedSimpArgs false

section
variable {P : Program} {B : Base} {D : Bs} {η : Nat → Gh} {O : Nat → Bs} {σ : St} {a : Act} {w : World}

/-- What a result is. -/
def FRV (w : World) (D : Bs) (κ : Nat) : (a : RV) → a.den → Value → List Ent → Prop
  | .one l, x, z, E => F1 w D κ l x z E
  | .agg ls, x, z, E => ∃ cs, z = .agg cs ∧ FLs w D (10000 * (κ + 1)) ls x cs.toList E
  | .ptr ls, x, z, E => ∃ b c T E', z = .pointer (some ⟨b, 0, none⟩) ∧ w.heap[b]? = some (.cells c T (0, 0)) ∧ FLs w D (10000 * (κ + 1)) ls x c.toList E' ∧ E = ⟨κ, .box (ofLs (10000 * (κ + 1)) ls x).1, .box b, fun y => y = b⟩ :: E'
/-- What the results are, each numbered from nought. -/
def FRs (w : World) (D : Bs) : (as : List RV) → denR as → List Value → List Ent → Prop
  | [], _, zs, E => zs = [] ∧ E = []
  | [a], x, zs, E => ∃ z, zs = [z] ∧ FRV w D 0 a x z E
  | a :: b :: r, x, zs, E => ∃ z zs' E1 E2, zs = z :: zs' ∧ E = E2 ++ E1 ∧ FRV w D 0 a x.1 z E1 ∧ FRs w D (b :: r) x.2 zs' E2
theorem FRV.mono {D' : Bs} (hD : ∀ b, D b → D' b) {κ : Nat} {a : RV} {x : a.den} {z : Value} {E : List Ent} (H : FRV w D κ a x z E) : FRV w D' κ a x z E := by
  cases a with
  | one l => exact F1.mono hD H
  | agg ls => obtain ⟨cs, h1, h2⟩ := H; exact ⟨cs, h1, h2.mono hD⟩
  | ptr ls => obtain ⟨b, c, T, E', h1, h2, h3, h4⟩ := H; exact ⟨b, c, T, E', h1, h2, h3.mono hD, h4⟩
theorem FRs.mono {D' : Bs} (hD : ∀ b, D b → D' b) : ∀ {as : List RV} {x : denR as} {zs : List Value} {E : List Ent}, FRs w D as x zs E → FRs w D' as x zs E
  | [], _, _, _, H => H
  | [a], _, _, _, H => by obtain ⟨z, h1, h2⟩ := H; exact ⟨z, h1, h2.mono hD⟩
  | a :: b :: r, x, zs, E, H => by
    obtain ⟨z, zs', E1, E2, h1, h2, h3, h4⟩ := H
    exact ⟨z, zs', E1, E2, h1, h2, h3.mono hD, FRs.mono hD (as := b :: r) h4⟩

/-! other numbers -/
theorem FL.renum {κ κ' : Nat} {l : L} {x : l.den} {vs : List Value} {E : List Ent} (H : FL w D κ l x vs E) : ∃ E', FL w D κ' l x vs E' ∧ E'.map Ent.Q = E.map Ent.Q := by
  cases l with
  | pv t => obtain ⟨h, rfl⟩ := H; exact ⟨[], ⟨h, rfl⟩, rfl⟩
  | any => obtain ⟨v, h1, h2, h3, rfl⟩ := H; exact ⟨[], ⟨v, h1, h2, h3, rfl⟩, rfl⟩
  | own t n => obtain ⟨v, Q, h1, h2, h3, rfl⟩ := H; exact ⟨[_], ⟨v, Q, h1, h2, h3, rfl⟩, rfl⟩
theorem FLs.renum : ∀ {ls : List L} {x : denL ls} {vs : List Value} {E : List Ent} {κ κ' : Nat}, FLs w D κ ls x vs E → ∃ E', FLs w D κ' ls x vs E' ∧ E'.map Ent.Q = E.map Ent.Q
  | [], _, _, _, _, _, H => by obtain ⟨h, rfl⟩ := H; exact ⟨[], ⟨h, rfl⟩, rfl⟩
  | [l], _, _, _, _, _, H => FL.renum (l := l) H
  | l :: m :: r, x, vs, E, κ, κ', H => by
    obtain ⟨u, v, E1, E2, h1, rfl, h3, h4⟩ := H
    obtain ⟨E1', g1, g2⟩ := h3.renum (κ' := κ')
    obtain ⟨E2', g3, g4⟩ := FLs.renum (ls := m :: r) (κ := κ + 1) (κ' := κ' + 1) h4
    exact ⟨E2' ++ E1', ⟨u, v, E1', E2', h1, rfl, g1, g3⟩, by simp [g2, g4]⟩
theorem FRV.renum {κ κ' : Nat} {a : RV} {x : a.den} {z : Value} {E : List Ent} (H : FRV w D κ a x z E) : ∃ E', FRV w D κ' a x z E' ∧ E'.map Ent.Q = E.map Ent.Q := by
  cases a with
  | one l =>
    rcases H with ⟨ha, cs, e, H⟩ | ⟨ha, H⟩
    · obtain ⟨E', h1, h2⟩ := H.renum (κ' := κ'); exact ⟨E', .inl ⟨ha, cs, e, h1⟩, h2⟩
    · obtain ⟨E', h1, h2⟩ := H.renum (κ' := κ'); exact ⟨E', .inr ⟨ha, h1⟩, h2⟩
  | agg ls =>
    obtain ⟨cs, e, H⟩ := H
    obtain ⟨E', h1, h2⟩ := FLs.renum (κ' := 10000 * (κ' + 1)) H
    exact ⟨E', ⟨cs, e, h1⟩, h2⟩
  | ptr ls =>
    obtain ⟨b, c, T, E1, h1, h2, h3, rfl⟩ := H
    obtain ⟨E', h4, h5⟩ := FLs.renum (κ' := 10000 * (κ' + 1)) h3
    exact ⟨_, ⟨b, c, T, E', h1, h2, h4, rfl⟩, by simp [h5]⟩

/-! at the caller's -/
theorem FRV.heap {κ : Nat} {a : RV} {x : a.den} {z : Value} {E : List Ent} (H : FRV w D κ a x z E) : (ofRV κ a x).2 = hpE E := by
  cases a with
  | one l => exact F1.heap' H
  | agg ls => obtain ⟨cs, e, H⟩ := H; exact H.heap
  | ptr ls =>
    obtain ⟨b, c, T, E', h1, h2, h3, rfl⟩ := H
    simp only [ofRV, hpE, List.map_cons]
    rw [h3.heap]; rfl
theorem box_obj {ls : List L} {κ' κ : Nat} {x : denL ls} {c : Array Value} {T : TypeId} {E' : List Ent} {b : Nat} (h2 : w.heap[b]? = some (.cells c T (0, 0))) (h3 : FLs w D κ' ls x c.toList E') {h : Heap} {η : Nat → Gh} (TE : There h η E') (hη : η κ = .box b) :
    ObjOk w D η h κ (.box (ofLs κ' ls x).1) (fun y => y = b) := by
  have hc := h3.cells TE
  refine ⟨b, c, T, hη, h2, by have := hc.1.1; simpa using this, fun j hj => ?_, fun y => Iff.rfl⟩
  have hlt : j < c.size := by have := hc.1.1; simp at this; omega
  have e1 : c.toList.getD j undef = c.getD j undef := by rw [getD_of (l := c.toList) (by simp) j]; rfl
  have e2 : c.getD j undef = c[j] := by simp [Array.getD, hlt]
  exact ⟨by rw [e2]; exact hc.2 _ (by simp), by rw [← e1]; exact hc.1.2 j hj⟩
theorem FRV.objs {κ : Nat} {a : RV} {x : a.den} {z : Value} {E : List Ent} (H : FRV w D κ a x z E) {h : Heap} {η : Nat → Gh} (T : There h η E) : ∀ e ∈ E, ObjOk w D η h e.κ e.ob e.Q := by
  cases a with
  | one l => exact F1.objs H T
  | agg ls => obtain ⟨cs, e, H⟩ := H; exact H.objs T
  | ptr ls =>
    obtain ⟨b, c, T', E', h1, h2, h3, rfl⟩ := H
    have TE : There h η E' := fun e he => T e (by simp [he])
    intro e he
    rcases List.mem_cons.1 he with rfl | he
    · exact box_obj h2 h3 TE (T _ (List.mem_cons_self)).2
    · exact h3.objs TE e he
theorem FRV.val {κ : Nat} {a : RV} {x : a.den} {z : Value} {E : List Ent} (H : FRV w D κ a x z E) {h : Heap} {η : Nat → Gh} (T : There h η E) : Vr w D η h (ofRV κ a x).1 z := by
  cases a with
  | one l => exact (F1.val H T).1
  | agg ls =>
    obtain ⟨cs, rfl, H⟩ := H
    have hc := H.cells T
    refine .agg _ _ (by have := hc.1.1; simpa using this) (fun i hi => ?_) (fun i hi => ?_)
    · have hlt : i < cs.size := by have := hc.1.1; simp at this; omega
      have e2 : cs.getD i undef = cs[i] := by simp [Array.getD, hlt]
      rw [e2]; exact hc.2 _ (by simp)
    · have e : cs.toList.getD i undef = cs.getD i undef := by rw [getD_of (l := cs.toList) (by simp) i]; rfl
      rw [← e]; exact hc.1.2 i hi
  | ptr ls =>
    obtain ⟨b, c, T', E', rfl, h2, h3, rfl⟩ := H
    obtain ⟨t1, t2⟩ := T _ (List.mem_cons_self)
    refine .ptr κ 0 _ Leaf.pointer (look_some_isSome t1) (fun l' b' hl he => ?_)
    simp only at t2
    rw [t2] at he; cases he; rfl
/-- Results as the caller numbers them. -/
theorem FRs.came : ∀ {as : List RV} (κ : Nat) {x : denR as} {zs : List Value} {E : List Ent}, FRs w D as x zs E →
    ∃ E', E'.map Ent.Q = E.map Ent.Q ∧ (ofRs κ as x).2 = hpE E' ∧ (∀ h η, There h η E' → (∀ e ∈ E', ObjOk w D η h e.κ e.ob e.Q) ∧ Cells w D η h (ofRs κ as x).1 zs)
  | [], κ, x, zs, E, H => by
    obtain ⟨rfl, rfl⟩ := H
    exact ⟨[], rfl, rfl, fun h η T => ⟨fun e he => by simp at he, rfl, fun i hi => absurd hi (Nat.not_lt_zero _)⟩⟩
  | [a], κ, x, zs, E, H => by
    obtain ⟨z, rfl, H⟩ := H
    obtain ⟨E', h1, h2⟩ := H.renum (κ' := κ)
    refine ⟨E', h2, h1.heap, fun h η T => ⟨h1.objs T, rfl, fun i hi => ?_⟩⟩
    obtain rfl : i = 0 := by simpa [ofRs] using hi
    exact h1.val T
  | a :: b :: r, κ, x, zs, E, H => by
    obtain ⟨z, zs', E1, E2, rfl, rfl, h1, h2⟩ := H
    obtain ⟨E1', g1, g2⟩ := h1.renum (κ' := κ)
    obtain ⟨E2', g3, g4, g5⟩ := FRs.came (as := b :: r) (10000 * (κ + 1) + 100) h2
    refine ⟨E2' ++ E1', by simp [g2, g3], ?_, fun h η T => ?_⟩
    · show (ofRs (10000 * (κ + 1) + 100) (b :: r) x.2).2 ++ (ofRV κ a x.1).2 = _
      rw [g4, g1.heap]; simp [hpE]
    · obtain ⟨k1, k2⟩ := g5 h η T.left
      refine ⟨fun e he => ?_, ?_⟩
      · rcases List.mem_append.1 he with he | he
        · exact k1 e he
        · exact g1.objs T.right e he
      · refine ⟨by have := k2.1; simp [ofRs, this], fun i hi => ?_⟩
        cases i with
        | zero => exact g1.val T.right
        | succ i => exact k2.2 i (by simpa [ofRs] using hi)

/-! told -/
theorem toRV_ok (κ : Nat) {a' : RV} {v : V} {z : Value} {x : a'.den} {u : Heap} (G : RelG B D η O σ a w) (hv : Vr w D η σ.h v z) (h : toRV σ.h a' v = some (x, u)) :
    ∃ D' O' E, RelG B D' η O' (σ.after none .un u) a w ∧ (∀ b, D b → D' b) ∧ FrzO σ.h (u ++ σ.h) O O' ∧ FRV w D' κ a' x z E ∧ Fl O' σ.h (u ++ σ.h) E := by
  cases a' with
  | one l =>
    have h : (match fit l.agg v, toL σ.h l v.cells with | true, some (x, [], u) => some (x, u) | _, _ => none) = some (x, u) := by cases v <;> exact h
    split at h
    · rename_i y u' hf hl
      cases h
      exact one_ok κ G hv hf hl
    · cases h
  | agg ls =>
    cases hv with
    | agg l cs hs hl hr =>
      simp only [toRV] at h
      split at h
      · rename_i y u' hl'
        cases h
        have hf : fit true (V.agg l) = true := rfl
        obtain ⟨l', cs', e1, e2, H⟩ := fit_agg (.agg l cs hs hl hr) hf
        cases e1; cases e2
        obtain ⟨D', O', us, cs', E, G', h1, h2, h3, h4, h5, h6⟩ := toLs_ok ls (10000 * (κ + 1)) G H hl'
        have e : cs' = [] := List.eq_nil_of_length_eq_zero h4.1.1
        rw [e, List.append_nil] at h3
        exact ⟨D', O', E, G', h1, h2, ⟨_, rfl, by rw [h3]; exact h5⟩, h6⟩
      · cases h
    | _ => simp [toRV] at h
  | ptr ls =>
    have h : ∃ r cs y u', v = .ptr r 0 ∧ look σ.h r = some (.box cs) ∧ toLs ((r, none) :: σ.h) ls cs = some (y, [], u') ∧ x = y ∧ u = u' ++ [(r, none)] := by
      cases v with
      | ptr r o =>
        cases o with
        | zero =>
          simp only [toRV] at h
          split at h
          · rename_i cs hq
            split at h
            · rename_i y u' hl
              cases h
              exact ⟨r, cs, _, _, rfl, hq, hl, rfl, rfl⟩
            · cases h
          · cases h
        | succ o => simp [toRV] at h
      | _ => simp [toRV] at h
    obtain ⟨r, cs, y, u', rfl, hq, hl, rfl, rfl⟩ := h
    obtain ⟨b, c, T, h1, h2, h3, h4, h5⟩ := G.objs r _ hq
    have hval : z = .pointer (some ⟨b, 0, none⟩) := by
      cases hv with
      | ptr _ _ _ hlf hr hx => exact hx cs b hq h1
    have G1 := G.gone r (look_some_isSome hq)
    have F1 : FrzO σ.h ([(r, none)] ++ σ.h) O O := ⟨FrzH.gone _ _ (look_some_isSome hq), fun _ _ => rfl⟩
    have hc : CellsL w D η σ.h cs c.toList := by
      have e : ∀ i, c.toList.getD i undef = c.getD i undef := fun i => by rw [getD_of (l := c.toList) (by simp) i]; rfl
      refine ⟨⟨by simp [h3], fun i hi => by rw [e]; exact (h4 i hi).2⟩, fun y hy => ?_⟩
      obtain ⟨i, hi, rfl⟩ := List.getElem_of_mem hy
      have := (h4 i (by rw [← h3]; simpa using hi)).1
      have e2 : c.getD i undef = c.toList[i] := by simp at hi; simp [Array.getD, hi]
      rwa [e2] at this
    obtain ⟨D', O', us, cs', E', G', a1, a2, a3, a4, a5, a6⟩ := toLs_ok ls (10000 * (κ + 1)) G1 (by rw [St.after_h]; exact hc.mono (F1.toFrzH.evo (fun _ h => h) w η)) (by rw [St.after_h]; exact hl)
    rw [after_after] at G'
    rw [St.after_h] at a2 a4 a6
    have e : cs' = [] := List.eq_nil_of_length_eq_zero a4.1.1
    rw [e, List.append_nil] at a3
    have Fe : Fl O σ.h ([(r, none)] ++ σ.h) [⟨κ, .box (ofLs (10000 * (κ + 1)) ls x).1, .box b, fun y => y = b⟩] :=
      ⟨fun e he y hy => by
        obtain rfl := List.mem_singleton.1 he
        exact ⟨r, by simp [look, fnd_cons], by rw [hq]; simp, (h5 y).2 hy⟩, List.pairwise_singleton _ _⟩
    refine ⟨D', O', _ :: E', G', a1, by rw [List.append_assoc]; exact F1.trans a2, ⟨b, c, T, E', hval, h2, by rw [a3]; exact a5, rfl⟩, ?_⟩
    rw [List.append_assoc]
    exact Fl.swap (E1 := [_]) (Fl.join G' F1.toFrzH a2 Fe a6)
theorem toRs_ok : ∀ (as : List RV) {D : Bs} {O : Nat → Bs} {σ : St} {vs : List V} {zs : List Value} {x : denR as}, RelG B D η O σ a w → Cells w D η σ.h vs zs → toRs σ.h as vs = some x →
    ∃ D' O' σ' E, RelG B D' η O' σ' a w ∧ (∀ b, D b → D' b) ∧ FrzO σ.h σ'.h O O' ∧ FRs w D' as x zs E ∧ Fl O' σ.h σ'.h E
  | [], D, O, σ, vs, zs, x, G, H, h => by
    cases vs with
    | nil => exact ⟨D, O, σ, [], G, fun _ h => h, FrzO.refl _ _, ⟨List.eq_nil_of_length_eq_zero H.1, rfl⟩, Fl.nil _ _ _⟩
    | cons v vs => simp [toRs] at h
  | [a'], D, O, σ, vs, zs, x, G, H, h => by
    match vs, h, H with
    | [], h, _ => simp [toRs] at h
    | [v], h, H =>
      simp only [toRs] at h
      split at h
      case h_2 => cases h
      rename_i y u h1
      cases h
      obtain ⟨z, cs', rfl, hv, H'⟩ := H.cons
      obtain rfl : cs' = [] := List.eq_nil_of_length_eq_zero H'.1
      obtain ⟨D', O', E, G', a1, a2, a3, a4⟩ := toRV_ok 0 G hv h1
      have hst : (σ.after none .un u).h = u ++ σ.h := St.after_h _ _ _ _
      exact ⟨D', O', σ.after none .un u, E, G', a1, by rw [hst]; exact a2, ⟨z, rfl, a3⟩, by rw [hst]; exact a4⟩
    | _ :: _ :: _, h, _ => simp [toRs] at h
  | a' :: b' :: r, D, O, σ, vs, zs, x, G, H, h => by
    match vs, h, H with
    | [], h, _ => simp [toRs] at h
    | v :: vs, h, H =>
      simp only [toRs] at h
      split at h
      case h_2 => cases h
      rename_i y u h1
      split at h
      case h_2 => cases h
      rename_i y2 h2
      cases h
      obtain ⟨z, cs', rfl, hv, H'⟩ := H.cons
      obtain ⟨D1, O1, E1, G1, a1, a2, a3, a4⟩ := toRV_ok 0 G hv h1
      have hst : (σ.after none .un u).h = u ++ σ.h := St.after_h _ _ _ _
      obtain ⟨D2, O2, σ2, E2, G2, b1, b2, b3, b4⟩ := toRs_ok (b' :: r) G1 (by rw [hst]; exact H'.mono (a2.toFrzH.evo a1 w η)) (by rw [hst]; exact h2)
      rw [hst] at b2 b4
      exact ⟨D2, O2, σ2, E2 ++ E1, G2, fun b hb => b1 b (a1 b hb), a2.trans b2, ⟨z, cs', E1, E2, rfl, rfl, a3.mono b1, b3⟩, Fl.join G2 a2.toFrzH b2 a4 b4⟩
end
end Go.Proofs.YtpoppblfnaipbaaDoor.Eng
/-! ## The engine: what a call is given, what it hands back. -/
namespace Go.Proofs.YtpoppblfnaipbaaDoor.Eng
open Go
set_option autoImplicit false
set_option linter.unusedVariables false
set_option linter.unusedSimpArgs false

/-- An argument as it comes. -/
inductive GV (w : World) (D : Bs) (i : Nat) : V → Value → List Ent → Prop
  | v (v : V) (z : Value) (h1 : ∀ t n (xs : List (Ty.den t)), v ≠ .ow t n xs) (h2 : ∀ l, v ≠ .bx l) (hv : ∀ η h, Vr w D η h v z) : GV w D i v z []
  | ow (t : Ty) (n : Nat) (xs : List t.den) (z : Value) (Q : Bs) (hl : Leaf z) (ho : OwnE w D (.sl t) (n + 1) xs [z] Q) : GV w D i (.ow t n xs) z [⟨i, .row t n i false xs, .row z, Q⟩]
  | bx (l : List V) (b : Nat) (c : Array Value) (T : TypeId) (hb : w.heap[b]? = some (.cells c T (0, 0))) (hc : ∀ η h, CellsL w D η h l c.toList) : GV w D i (.bx l) (.pointer (some ⟨b, 0, none⟩)) [⟨i, .box l, .box b, fun y => y = b⟩]
inductive GVs (w : World) (D : Bs) : Nat → List V → List Value → List Ent → Prop
  | nil (i : Nat) : GVs w D i [] [] []
  | cons (i : Nat) (v : V) (vs : List V) (z : Value) (zs : List Value) (E1 E2 : List Ent) (h : GV w D i v z E1) (t : GVs w D (i + 1) vs zs E2) : GVs w D i (v :: vs) (z :: zs) (E1 ++ E2)

def tupW : List Value → Value | [z] => z | zs => .tuple zs.toArray
def handedW (args : List Value) : List (Nat × RV) → List Value
  | [] => [] | (i, .ptr _) :: r => args.getD i undef :: handedW args r | _ :: r => handedW args r
/-- What a call hands back. -/
structure Ret (A : Ann) (f : Nat) (w : World) (keep D0 : Bs) (args : List Value) (x : A.out f) (v : Value) (w' : World) : Prop where
  ex : ∃ D' zs hz E', v = tupW zs ∧ (zs.length = (A.fa f).res.length) ∧
    hz = handedW args (A.fa f).hand ∧
    FRs w' D' (A.fa f).outs x (zs ++ hz) E' ∧ (∀ b, D0 b → D' b) ∧ (∀ b, D' b → D0 b ∨ ¬ keep b) ∧ (∀ b, D' b → b < w'.heap.size) ∧
    (∀ e ∈ E', ∀ b, e.Q b → ¬ keep b ∧ b < w'.heap.size ∧ ¬ D' b) ∧ E'.Pairwise (fun e e' => ∀ b, e.Q b → ¬ e'.Q b)
  os : w'.os = w.os
  tape : w'.tape = w.tape
  output : w'.output = w.output
  size : w.heap.size ≤ w'.heap.size
  same : ∀ b, keep b → w'.heap[b]? = w.heap[b]?
/-- A call is as told. -/
def CallOk (P : Program) (A : Ann) (f : Nat) (vs : List V) (x : A.out f) : Prop :=
  ∀ (w : World) (keep D0 : Bs) (args : Array Value) (E : List Ent), (∀ b, keep b → b < w.heap.size) → (∀ b, D0 b → keep b) → GVs w D0 0 vs args.toList E →
    (∀ e ∈ E, ∀ b, e.Q b → b < w.heap.size ∧ ¬ keep b) → E.Pairwise (fun e e' => ∀ b, e.Q b → ¬ e'.Q b) →
    Calls P f args w fun e w' => match e with | .returned v => Ret A f w keep D0 args.toList x v w' | _ => False

section
variable {w : World} {D : Bs}
theorem GV.stab {i : Nat} {v : V} {z : Value} {E : List Ent} (H : GV w D i v z E) : (∃ e, E = [e] ∧ e.κ = i) ∨ E = [] := by
  cases H with
  | v => exact .inr rfl
  | ow => exact .inl ⟨_, rfl, rfl⟩
  | bx => exact .inl ⟨_, rfl, rfl⟩
theorem GVs.ids : ∀ {vs : List V} {i : Nat} {zs : List Value} {E : List Ent}, GVs w D i vs zs E → (E.map Ent.κ).Nodup ∧ ∀ e ∈ E, i ≤ e.κ
  | [], i, zs, E, H => by cases H; exact ⟨.nil, fun e he => by simp at he⟩
  | v :: vs, i, zs, E, H => by
    cases H with
    | cons _ _ _ z zs E1 E2 h t =>
      obtain ⟨h1, h2⟩ := GVs.ids t
      rcases h.stab with ⟨e, rfl, rfl⟩ | rfl
      · refine ⟨by simpa using ⟨fun y hy e' => by have := h2 y hy; omega, h1⟩, fun y hy => ?_⟩
        rcases List.mem_append.1 hy with hy | hy
        · rw [List.mem_singleton.1 hy]; exact Nat.le_refl _
        · exact Nat.le_of_succ_le (h2 y hy)
      · exact ⟨by simpa using h1, fun y hy => Nat.le_of_succ_le (h2 y (by simpa using hy))⟩
theorem GVs.length : ∀ {vs : List V} {i : Nat} {zs : List Value} {E : List Ent}, GVs w D i vs zs E → zs.length = vs.length
  | [], i, zs, E, H => by cases H; rfl
  | v :: vs, i, zs, E, H => by cases H with | cons _ _ _ z zs E1 E2 h t => simp [GVs.length t]
theorem entry_cons (i : Nat) (v : V) (vs : List V) : (entry i (v :: vs)).h = (match v with | .bx l => [(i, some (.box l))] | .ow t n xs => [(i, some (.row t n i false xs))] | _ => []) ++ (entry (i + 1) vs).h := by
  cases v <;> rfl
theorem GVs.heap : ∀ {vs : List V} {i : Nat} {zs : List Value} {E : List Ent}, GVs w D i vs zs E → (entry i vs).h = hpE E
  | [], i, zs, E, H => by cases H; rfl
  | v :: vs, i, zs, E, H => by
    cases H with
    | cons _ _ _ z zs E1 E2 h t =>
      rw [entry_cons, GVs.heap t]
      cases h with
      | v _ _ h1 h2 _ =>
        cases v with
        | ow t n xs => exact absurd rfl (h1 t n xs)
        | bx l => exact absurd rfl (h2 l)
        | _ => rfl
      | ow => rfl
      | bx => rfl
theorem GV.obj {i : Nat} {v : V} {z : Value} {E : List Ent} (H : GV w D i v z E) {h : Heap} {η : Nat → Gh} (T : There h η E) : ∀ e ∈ E, ObjOk w D η h e.κ e.ob e.Q := by
  cases H with
  | v => intro e he; simp at he
  | ow t n xs z Q hl ho =>
    intro e he
    obtain rfl := List.mem_singleton.1 he
    obtain ⟨t1, t2⟩ := T _ List.mem_cons_self
    exact ⟨z, t2, ho, look_some_isSome t1⟩
  | bx l b c T' hb hc =>
    intro e he
    obtain rfl := List.mem_singleton.1 he
    obtain ⟨t1, t2⟩ := T _ List.mem_cons_self
    have hc := hc η h
    refine ⟨b, c, T', t2, hb, by have := hc.1.1; simpa using this, fun j hj => ?_, fun y => Iff.rfl⟩
    have hlt : j < c.size := by have := hc.1.1; simp at this; omega
    have e1 : c.toList.getD j undef = c.getD j undef := by rw [getD_of (l := c.toList) (by simp) j]; rfl
    have e2 : c.getD j undef = c[j] := by simp [Array.getD, hlt]
    exact ⟨by rw [e2]; exact hc.2 _ (by simp), by rw [← e1]; exact hc.1.2 j hj⟩
theorem GVs.objs : ∀ {vs : List V} {i : Nat} {zs : List Value} {E : List Ent}, GVs w D i vs zs E → ∀ {h : Heap} {η : Nat → Gh}, There h η E → ∀ e ∈ E, ObjOk w D η h e.κ e.ob e.Q
  | [], i, zs, E, H, h, η, T => by cases H; intro e he; simp at he
  | v :: vs, i, zs, E, H, h, η, T => by
    cases H with
    | cons _ _ _ z zs E1 E2 g t =>
      intro e he
      rcases List.mem_append.1 he with he | he
      · exact g.obj T.left e he
      · exact GVs.objs t T.right e he
/-- An argument's slot. -/
def argV1 (i : Nat) : V → V | .bx _ => .ptr i 0 | .ow t _ _ => .ref i [] i t | v => v
theorem entry_t (i : Nat) (v : V) (vs : List V) : (entry i (v :: vs)).t = (i, argV1 i v) :: (entry (i + 1) vs).t := by
  cases v <;> rfl
theorem GV.val {i : Nat} {v : V} {z : Value} {E : List Ent} (H : GV w D i v z E) {h : Heap} {η : Nat → Gh} (T : There h η E) : Vr w D η h (argV1 i v) z := by
  cases H with
  | v _ _ h1 h2 hv =>
    have : argV1 i v = v := by
      cases v with
      | ow t n xs => exact absurd rfl (h1 t n xs)
      | bx l => exact absurd rfl (h2 l)
      | _ => rfl
    rw [this]; exact hv η h
  | ow t n xs z Q hl ho =>
    obtain ⟨t1, t2⟩ := T _ List.mem_cons_self
    refine .ref i [] i t z hl (look_some_isSome t1) (look_some_isSome t1) (fun t0 n0 v0 fz xs hv hq _ he => ?_)
    simp only at t1 t2
    rw [t1] at hq; cases hq
    rw [t2] at he; cases he
    exact ⟨by cases t <;> trivial, by simp [hdrAt]⟩
  | bx l b c T' hb hc =>
    obtain ⟨t1, t2⟩ := T _ List.mem_cons_self
    refine .ptr i 0 _ Leaf.pointer (look_some_isSome t1) (fun l' b' hl he => ?_)
    simp only at t2
    rw [t2] at he; cases he; rfl
theorem GVs.tmps : ∀ {vs : List V} {i : Nat} {zs : List Value} {E : List Ent}, GVs w D i vs zs E → ∀ {h : Heap} {η : Nat → Gh}, There h η E → ∀ j v, fnd (entry i vs).t j = some v → i ≤ j ∧ j < i + zs.length ∧ Vr w D η h v (zs.getD (j - i) undef)
  | [], i, zs, E, H, h, η, T, j, v, hv => by simp [entry, fnd] at hv
  | v0 :: vs, i, zs, E, H, h, η, T, j, v, hv => by
    cases H with
    | cons _ _ _ z zs E1 E2 g t =>
      rw [entry_t, fnd_cons] at hv
      split at hv
      · rename_i e; subst e; cases hv
        refine ⟨Nat.le_refl _, by simp, ?_⟩
        rw [Nat.sub_self]; exact g.val T.left
      · obtain ⟨h1, h2, h3⟩ := GVs.tmps t T.right j v hv
        refine ⟨by omega, by simp; omega, ?_⟩
        have : j - i = (j - (i + 1)) + 1 := by omega
        rw [this]; exact h3
/-- A call's beginning. -/
theorem entry_ok {keep D0 : Bs} {vs : List V} {args : Array Value} {E : List Ent} (N : Nat) (hk : ∀ b, keep b → b < w.heap.size) (hD : ∀ b, D0 b → keep b) (H : GVs w D0 0 vs args.toList E)
    (hE : ∀ e ∈ E, ∀ b, e.Q b → b < w.heap.size ∧ ¬ keep b) (hdis : E.Pairwise (fun e e' => ∀ b, e.Q b → ¬ e'.Q b)) :
    Rel ⟨w, keep, D0, (args ++ Array.replicate (N - args.size) undef).size, fun i b => ∃ e ∈ E, e.κ = i ∧ e.gh = .box b⟩ (entry 0 vs) { tmps := args ++ Array.replicate (N - args.size) undef, defers := [] } w := by
  let B : Base := ⟨w, keep, D0, (args ++ Array.replicate (N - args.size) undef).size, fun i b => False⟩
  have G0 : RelG B D0 (fun _ => .box 0) (fun r b => r = 0 ∧ ∃ e ∈ E, e.Q b) ⟨[], []⟩ { tmps := args ++ Array.replicate (N - args.size) undef, defers := [] } w :=
    { os := rfl, tape := rfl, output := rfl, size := Nat.le_refl _, keep := fun _ _ => rfl, klt := hk
      okeep := fun r b ⟨_, e, he, hb⟩ => (hE e he b hb).2
      dlt := fun b hb => hk b (hD b hb), dbase := fun b hb => .inl hb, base := fun b hb => hb
      olt := fun r b ⟨_, e, he, hb⟩ => ⟨(hE e he b hb).1, fun h => (hE e he b hb).2 (hD b h)⟩
      odis := fun r r' b h h' => h.1.trans h'.1.symm
      objs := fun r o h => by simp [look, fnd] at h
      tmps := fun i v h => by simp [fnd] at h
      defers := rfl, tsz := rfl, hb := fun i b h => h.elim }
  have key := G0.anew E (entry 0 vs).t H.ids.1 (fun e he b hb => ⟨0, rfl, e, he, hb⟩) hdis (fun h η T => H.objs T) (fun h η T i v hv => by
    obtain ⟨_, h2, h3⟩ := H.tmps T i v hv
    have h2 : i < args.size := by simpa using h2
    refine ⟨by simp; omega, ?_⟩
    have e : (args ++ Array.replicate (N - args.size) undef).getD i undef = args.toList.getD (i - 0) undef := by
      simp [Array.getD, h2, Array.getElem_append_left, List.getD]
      omega
    rw [e]; exact h3) (fun i b => ∃ e ∈ E, e.κ = i ∧ e.gh = .box b) (fun i b h => h)
  have e : entry 0 vs = ⟨(entry 0 vs).t, hpE E⟩ := by rw [← H.heap]
  rw [e]; exact key
end
end Go.Proofs.YtpoppblfnaipbaaDoor.Eng
/-! ## The engine: a call's arguments. -/
namespace Go.Proofs.YtpoppblfnaipbaaDoor.Eng
open Go
set_option autoImplicit false
set_option linter.unusedVariables false
set_option linter.unusedSimpArgs false

/-- A value that asks nothing of the roots. -/
structure SV (w : World) (D : Bs) (v : V) (z : Value) : Prop where
  ow : ∀ t n (xs : List (Ty.den t)), v ≠ .ow t n xs
  bx : ∀ l, v ≠ .bx l
  vr : ∀ η h, Vr w D η h v z

section
variable {P : Program} {B : Base} {D : Bs} {η : Nat → Gh} {O : Nat → Bs} {σ : St} {a : Act} {w : World}

theorem SV.mono {D' : Bs} (hD : ∀ b, D b → D' b) {v : V} {z : Value} (H : SV w D v z) : SV w D' v z :=
  ⟨H.ow, H.bx, fun η h => (H.vr η h).mono ((FrzH.refl h).evo hD w η)⟩
theorem SV.gv {v : V} {z : Value} (H : SV w D v z) (i : Nat) : GV w D i v z [] := .v v z H.ow H.bx H.vr
theorem sv_stable {h : Heap} {v : V} {z : Value} (hv : Vr w D η h v z) (hs : stable v = true) : SV w D v z :=
  ⟨fun t n xs e => (by subst e; simp [stable] at hs), fun l e => (by subst e; simp [stable] at hs), fun η h => stable_vr hv hs⟩
theorem GV.mono {D' : Bs} (hD : ∀ b, D b → D' b) {i : Nat} {v : V} {z : Value} {E : List Ent} (H : GV w D i v z E) : GV w D' i v z E := by
  cases H with
  | v _ _ h1 h2 hv => exact .v _ _ h1 h2 fun η h => (hv η h).mono ((FrzH.refl h).evo hD w η)
  | ow t n xs z Q hl ho => exact .ow t n xs z Q hl (OwnE.mono hD (Same.refl _ _) _ _ _ _ _ (fun _ _ => rfl) ho)
  | bx l b c T hb hc => exact .bx l b c T hb fun η h => (hc η h).mono ((FrzH.refl h).evo hD w η)
theorem GVs.mono {D' : Bs} (hD : ∀ b, D b → D' b) {i : Nat} {vs : List V} {zs : List Value} {E : List Ent} (H : GVs w D i vs zs E) : GVs w D' i vs zs E := by
  induction H with
  | nil i => exact .nil i
  | cons i v vs z zs E1 E2 h t ih => exact .cons i v vs z zs E1 E2 (h.mono hD) ih

/-! lent -/
theorem rowOf_ref (G : RelG B D η O σ a w) {r : Nat} {is : List Nat} {v' : Nat} {t : Ty} {x : Value} (hv : Vr w D η σ.h (.ref r is v' t) x) {c : C} (hc : rowOf σ.h (.ref r is v' t) = some c) :
    ∃ s ys m O', c = ⟨.sl s, ys⟩ ∧ OwnE w D (.sl s) m ys [x] O' ∧ ∀ b, O' b → O r b := by
  simp only [rowOf] at hc
  split at hc
  case h_2 => cases hc
  rename_i t0 n v0 fz xs hq
  obtain ⟨hd, h1, h2⟩ := G.row hq
  cases hv with
  | ref _ _ _ _ _ hlf hr hv' hx =>
    split at hc
    · cases hc
      obtain ⟨h3, h4⟩ := hx t0 n v0 fz xs hd hq (.inl rfl) h1
      obtain ⟨s, ys, O', g1, g2, g3⟩ := row_at [] t0 _ xs hd x _ ⟨.sl t0, xs⟩ h2 h3 h4 (by cases t0 <;> rfl)
      exact ⟨s, ys, _, O', g1, g2, g3⟩
    · rename_i i is' hb
      have hb := Nat.eq_of_beq_eq_true hb
      obtain ⟨h3, h4⟩ := hx t0 n v0 fz xs hd hq (.inr hb.symm) h1
      obtain ⟨s, ys, O', g1, g2, g3⟩ := row_at _ t0 _ xs hd x _ c h2 h3 h4 hc
      exact ⟨s, ys, _, O', g1, g2, g3⟩
    · cases hc
theorem lentC_ok (G : RelG B D η O σ a w) {v v' : V} {z : Value} {q : List Nat} (hv : Vr w D η σ.h v z) (h : lentC σ.h v = some (v', q)) {Dc : Bs} (hD : ∀ b, D b → Dc b) (hq : ∀ r ∈ q, ∀ b, O r b → Dc b) : SV w Dc v' z := by
  have st : (match stable v with | true => some (v, ([] : List Nat)) | false => none) = some (v', q) → SV w Dc v' z := fun h => by
    split at h
    · rename_i hs; cases h; exact (sv_stable hv hs).mono hD
    · cases h
  cases v with
  | ref r is ver t =>
    simp only [lentC] at h
    split at h
    · rename_i s xs hr
      cases h
      obtain ⟨s', ys, m, O', e, ho, hO⟩ := rowOf_ref G hv hr
      cases e
      have := OwnE.freeze hD _ _ _ _ _ (fun b hb => hq r (by simp) b (hO b hb)) ho
      exact ⟨fun t n xs e => (by cases e), fun l e => (by cases e), fun η h => .d _ _ _ rfl this⟩
    · cases h
  | _ => exact st h
theorem lentCs_ok (G : RelG B D η O σ a w) {Dc : Bs} (hD : ∀ b, D b → Dc b) : ∀ (l : List V) {l' : List V} {f : Nat → Value} {q : List Nat}, (∀ i (hi : i < l.length), Vr w D η σ.h l[i] (f i)) → lentCs σ.h l = some (l', q) → (∀ r ∈ q, ∀ b, O r b → Dc b) →
    l'.length = l.length ∧ ∀ i (hi : i < l'.length), ∀ η h, Vr w Dc η h l'[i] (f i)
  | [], l', f, q, H, h, hq => by
    simp only [lentCs] at h
    cases h
    exact ⟨rfl, fun i hi => absurd hi (Nat.not_lt_zero _)⟩
  | v :: l, l', f, q, H, h, hq => by
    simp only [lentCs] at h
    split at h
    case h_2 => cases h
    rename_i v1 q1 l1 q2 h1 h2
    cases h
    have k1 := lentC_ok G (H 0 (by simp)) h1 hD (fun r hr => hq r (by simp [hr]))
    obtain ⟨k2, k3⟩ := lentCs_ok G hD l (f := fun i => f (i + 1)) (fun i hi => H (i + 1) (by simpa using hi)) h2 (fun r hr => hq r (by simp [hr]))
    refine ⟨by simp [k2], fun i hi η h => ?_⟩
    cases i with
    | zero => exact k1.vr η h
    | succ i => exact k3 i (by simpa using hi) η h
theorem lentV_ok (G : RelG B D η O σ a w) {v v' : V} {z : Value} {q : List Nat} (hv : Vr w D η σ.h v z) (h : lentV σ.h v = some (v', q)) {Dc : Bs} (hD : ∀ b, D b → Dc b) (hq : ∀ r ∈ q, ∀ b, O r b → Dc b) : SV w Dc v' z := by
  cases v with
  | ptr r o =>
    simp only [lentV] at h
    split at h
    case h_2 => cases h
    rename_i cs hr
    split at h
    case h_2 => cases h
    rename_i l1 q1 h1
    cases h
    obtain ⟨b, c, T, g1, g2, g3, g4, g5⟩ := G.objs r _ hr
    have ez : z = .pointer (some ⟨b, o, none⟩) := by
      cases hv with
      | ptr _ _ _ _ _ hx => exact hx cs b hr g1
    subst ez
    have hb : Dc b := hq r (by simp) b ((g5 b).2 rfl)
    obtain ⟨k1, k2⟩ := lentCs_ok G hD cs (f := fun i => c.getD i undef) (fun i hi => (g4 i hi).2) h1 (fun r hr => hq r (by simp [hr]))
    refine ⟨fun t n xs e => (by cases e), fun l e => (by cases e), fun η h => .eb l1 o b (fun i => c.getD i undef) hb (fun i hi => ⟨(g4 i (by omega)).1, ?_⟩) (fun i hi => k2 i hi η h)⟩
    have hlt : i < c.size := by omega
    simp [World.cell?, g2, Array.getD, hlt]
  | _ => exact lentC_ok G hv h hD hq
theorem lentL_ok (G : RelG B D η O σ a w) {Dc : Bs} (hD : ∀ b, D b → Dc b) : ∀ (l : List V) {l' : List V} {zs : List Value} {q : List Nat}, Cells w D η σ.h l zs → lentL σ.h l = some (l', q) → (∀ r ∈ q, ∀ b, O r b → Dc b) → ∀ η h, Cells w Dc η h l' zs
  | [], l', zs, q, H, h, hq => by
    simp only [lentL] at h
    cases h
    exact fun η h => ⟨H.1, fun i hi => absurd hi (Nat.not_lt_zero _)⟩
  | v :: l, l', zs, q, H, h, hq => by
    simp only [lentL] at h
    split at h
    case h_2 => cases h
    rename_i v1 q1 l1 q2 h1 h2
    cases h
    obtain ⟨z, zs', rfl, hv, H'⟩ := H.cons
    have k1 := lentV_ok G hv h1 hD (fun r hr => hq r (by simp [hr]))
    have k2 := lentL_ok G hD l H' h2 (fun r hr => hq r (by simp [hr]))
    intro η h
    refine ⟨by simp [(k2 η h).1], fun i hi => ?_⟩
    cases i with
    | zero => exact k1.vr η h
    | succ i => exact (k2 η h).2 i (by simpa using hi)
theorem lend0_ok (G : RelG B D η O σ a w) {Dc : Bs} (hD : ∀ b, D b → Dc b) : ∀ (l : List V) {l' : List V} {zs : List Value} {q : List Nat}, Cells w D η σ.h l zs → lend0 σ.h l = some (l', q) → (∀ r ∈ q, ∀ b, O r b → Dc b) → ∀ η h, Cells w Dc η h l' zs
  | [], l', zs, q, H, h, hq => by
    simp only [lend0] at h
    cases h
    exact fun η h => ⟨H.1, fun i hi => absurd hi (Nat.not_lt_zero _)⟩
  | v :: l, l', zs, q, H, h, hq => by
    obtain ⟨z, zs', rfl, hv, H'⟩ := H.cons
    have st : (match stable v, lend0 σ.h l with | true, some (l, q) => some (v :: l, q) | _, _ => none) = some (l', q) → ∀ η h, Cells w Dc η h l' (z :: zs') := fun h => by
      split at h
      case h_2 => cases h
      rename_i l1 q1 hs h1
      cases h
      have k1 := (sv_stable hv hs).mono hD
      have k2 := lend0_ok G hD l H' h1 hq
      intro η h
      refine ⟨by simp [(k2 η h).1], fun i hi => ?_⟩
      cases i with
      | zero => exact k1.vr η h
      | succ i => exact (k2 η h).2 i (by simpa using hi)
    cases v with
    | ptr r o =>
      simp only [lend0] at h
      split at h
      case h_2 => cases h
      rename_i cs hr
      split at h
      case h_2 => cases h
      rename_i l1 q1 hs h1
      cases h
      have k2 := lend0_ok G hD l H' h1 (fun r hr => hq r (by simp [hr]))
      obtain ⟨b, c, T, g1, g2, g3, g4, g5⟩ := G.objs r _ hr
      have ez : z = .pointer (some ⟨b, o, none⟩) := by
        cases hv with
        | ptr _ _ _ _ _ hx => exact hx cs b hr g1
      subst ez
      have hb : Dc b := hq r (by simp) b ((g5 b).2 rfl)
      intro η h
      refine ⟨by simp [(k2 η h).1], fun i hi => ?_⟩
      cases i with
      | zero =>
        refine .eb cs o b (fun i => c.getD i undef) hb (fun i hi => ⟨(g4 i hi).1, ?_⟩) (fun i hi => ?_)
        · have hlt : i < c.size := by omega
          simp [World.cell?, g2, Array.getD, hlt]
        · exact (stable_vr (g4 i hi).2 (stables_get cs hs i hi)).mono ((FrzH.refl h).evo hD w η)
      | succ i => exact (k2 η h).2 i (by simpa using hi)
    | _ => exact st h

theorem lend_ok (G : RelG B D η O σ a w) {Dc : Bs} (hD : ∀ b, D b → Dc b) : ∀ (l : List V) {l' : List V} {zs : List Value} {q : List Nat}, Cells w D η σ.h l zs → lend σ.h l = some (l', q) → (∀ r ∈ q, ∀ b, O r b → Dc b) → ∀ η h, Cells w Dc η h l' zs
  | [], l', zs, q, H, h, hq => by
    simp only [lend] at h
    cases h
    exact fun η h => ⟨H.1, fun i hi => absurd hi (Nat.not_lt_zero _)⟩
  | v :: l, l', zs, q, H, h, hq => by
    obtain ⟨z, zs', rfl, hv, H'⟩ := H.cons
    have st : (match stable v, lend σ.h l with | true, some (l, q) => some (v :: l, q) | _, _ => none) = some (l', q) → ∀ η h, Cells w Dc η h l' (z :: zs') := fun h => by
      split at h
      case h_2 => cases h
      rename_i l1 q1 hs h1
      cases h
      have k1 := (sv_stable hv hs).mono hD
      have k2 := lend_ok G hD l H' h1 hq
      intro η h
      refine ⟨by simp [(k2 η h).1], fun i hi => ?_⟩
      cases i with
      | zero => exact k1.vr η h
      | succ i => exact (k2 η h).2 i (by simpa using hi)
    cases v with
    | ptr r o =>
      simp only [lend] at h
      split at h
      case h_3 => cases h
      case h_1 =>
        rename_i f caps hr
        split at h
        case h_2 => cases h
        rename_i c0 q0 l1 q1 h0 h1
        cases h
        have k2 := lend_ok G hD l H' h1 (fun r hr => hq r (by simp [hr]))
        obtain ⟨b, c, T, g1, g2, g3, g4, g5⟩ := G.objs r _ hr
        have ez : z = .pointer (some ⟨b, o, none⟩) := by
          cases hv with
          | ptr _ _ _ _ _ hx => exact hx _ b hr g1
        subst ez
        have hb : Dc b := hq r (by simp) b ((g5 b).2 rfl)
        obtain ⟨gl, gv⟩ := g4 0 (by simp)
        have hcs : c.size = 1 := g3
        have hcell : w.cell? ⟨b, 0, none⟩ = some (c.getD 0 undef) := by simp [World.cell?, g2, Array.getD, hcs]
        have kf : ∀ η h, Vr w Dc η h (.fn f c0) (c.getD 0 undef) := by
          have gv : Vr w D η σ.h (.fn f caps) (c.getD 0 undef) := gv
          generalize c.getD 0 undef = y at gv
          cases gv with
          | fn _ _ cs hs hr' =>
            have e : ∀ i, cs.toList.getD i undef = cs.getD i undef := fun i => by rw [getD_of (l := cs.toList) (by simp) i]; rfl
            have kc := lend0_ok G hD caps (zs := cs.toList) ⟨by simp [hs], fun i hi => by rw [e]; exact hr' i hi⟩ h0 (fun r hr => hq r (by simp [hr]))
            intro η h
            have hlen : cs.size = c0.length := by have := (kc η h).1; simpa using this
            exact .fn f c0 cs hlen (fun i hi => by have := (kc η h).2 i hi; rwa [e] at this)
        intro η h
        refine ⟨by simp [(k2 η h).1], fun i hi => ?_⟩
        cases i with
        | zero =>
          refine .eb [.fn f c0] o b (fun _ => c.getD 0 undef) hb (fun i hi => ?_) (fun i hi => ?_)
          · obtain rfl : i = 0 := by simpa using hi
            exact ⟨gl, hcell⟩
          · obtain rfl : i = 0 := by simpa using hi
            exact kf η h
        | succ i => exact (k2 η h).2 i (by simpa using hi)
      rename_i cs _ hr
      split at h
      case h_2 => cases h
      rename_i l1 q1 hs h1
      cases h
      have k2 := lend_ok G hD l H' h1 (fun r hr => hq r (by simp [hr]))
      obtain ⟨b, c, T, g1, g2, g3, g4, g5⟩ := G.objs r _ hr
      have ez : z = .pointer (some ⟨b, o, none⟩) := by
        cases hv with
        | ptr _ _ _ _ _ hx => exact hx cs b hr g1
      subst ez
      have hb : Dc b := hq r (by simp) b ((g5 b).2 rfl)
      intro η h
      refine ⟨by simp [(k2 η h).1], fun i hi => ?_⟩
      cases i with
      | zero =>
        refine .eb cs o b (fun i => c.getD i undef) hb (fun i hi => ⟨(g4 i hi).1, ?_⟩) (fun i hi => ?_)
        · have hlt : i < c.size := by omega
          simp [World.cell?, g2, Array.getD, hlt]
        · exact (stable_vr (g4 i hi).2 (stables_get cs hs i hi)).mono ((FrzH.refl h).evo hD w η)
      | succ i => exact (k2 η h).2 i (by simpa using hi)
    | _ => exact st h

/-! frozen -/
theorem frozV_ok (G : RelG B D η O σ a w) {v v' : V} {z : Value} {u : Heap} (hv : Vr w D η σ.h v z) (h : frozV σ.h v = some (v', u)) :
    ∃ D' O', RelG B D' η O' (σ.after none .un u) a w ∧ (∀ b, D b → D' b) ∧ FrzO σ.h (u ++ σ.h) O O' ∧ SV w D' v' z := by
  have st : (match stable v with | true => some (v, ([] : Heap)) | false => none) = some (v', u) → ∃ D' O', RelG B D' η O' (σ.after none .un u) a w ∧ (∀ b, D b → D' b) ∧ FrzO σ.h (u ++ σ.h) O O' ∧ SV w D' v' z := fun h => by
    split at h
    · rename_i hs; cases h; exact ⟨D, O, G.same0, fun _ h => h, FrzO.refl _ _, sv_stable hv hs⟩
    · cases h
  cases v with
  | ref r is ver t =>
    simp only [frozV] at h
    split at h
    · rename_i x u' hr
      cases h
      obtain ⟨D', O', G', h1, h2, h3⟩ := leafD_ok G hv hr
      exact ⟨D', O', G', h1, h2, fun t n xs e => (by cases e), fun l e => (by cases e), fun η h => .d _ _ _ rfl h3⟩
    · cases h
  | _ => exact st h
theorem froz_ok : ∀ (l : List V) {D : Bs} {O : Nat → Bs} {σ : St} {l' : List V} {zs : List Value} {u : Heap}, RelG B D η O σ a w → Cells w D η σ.h l zs → froz σ.h l = some (l', u) →
    ∃ D' O', RelG B D' η O' (σ.after none .un u) a w ∧ (∀ b, D b → D' b) ∧ FrzO σ.h (u ++ σ.h) O O' ∧ ∀ η h, Cells w D' η h l' zs
  | [], D, O, σ, l', zs, u, G, H, h => by
    simp only [froz] at h
    cases h
    exact ⟨D, O, G.same0, fun _ h => h, FrzO.refl _ _, fun η h => ⟨H.1, fun i hi => absurd hi (Nat.not_lt_zero _)⟩⟩
  | v :: l, D, O, σ, l', zs, u, G, H, h => by
    simp only [froz] at h
    split at h
    case h_2 => cases h
    rename_i v1 u1 h1
    split at h
    case h_2 => cases h
    rename_i l1 u2 h2
    cases h
    obtain ⟨z, zs', rfl, hv, H'⟩ := H.cons
    obtain ⟨D1, O1, G1, a1, a2, a3⟩ := frozV_ok G hv h1
    obtain ⟨D2, O2, G2, b1, b2, b3⟩ := froz_ok l G1 (by rw [St.after_h]; exact H'.mono (a2.toFrzH.evo a1 w η)) (by rw [St.after_h]; exact h2)
    rw [after_after] at G2
    rw [St.after_h] at b2
    refine ⟨D2, O2, G2, fun b hb => b1 b (a1 b hb), by rw [List.append_assoc]; exact a2.trans b2, fun η h => ⟨by simp [(b3 η h).1], fun i hi => ?_⟩⟩
    cases i with
    | zero => exact (a3.mono b1).vr η h
    | succ i => exact (b3 η h).2 i (by simpa using hi)

/-! all arguments -/
theorem agg_of {D' : Bs} {h0 : Heap} {l l' : List V} {z : Value} (hv : Vr w D η h0 (.agg l) z) : ∃ cs, z = .agg cs ∧ Cells w D η h0 l cs.toList ∧ ((∀ η h, Cells w D' η h l' cs.toList) → SV w D' (.agg l') z) := by
  cases hv with
  | agg _ cs hs hl hr =>
    have e : ∀ i, cs.toList.getD i undef = cs.getD i undef := fun i => by rw [getD_of (l := cs.toList) (by simp) i]; rfl
    refine ⟨cs, rfl, ⟨by simp [hs], fun i hi => by rw [e]; exact hr i hi⟩, fun H => ⟨fun t n xs e => (by cases e), fun l e => (by cases e), fun η h => ?_⟩⟩
    have hlen : cs.size = l'.length := by have := (H η h).1; simpa using this
    exact .agg l' cs hlen (fun i hi => hl i (by omega)) (fun i hi => by have := (H η h).2 i hi; rwa [e] at this)
theorem fn_of {D' : Bs} {h0 : Heap} {f : Nat} {l l' : List V} {z : Value} (hv : Vr w D η h0 (.fn f l) z) : ∃ cs : Array Value, z = .func (.func f) #[] cs ∧ Cells w D η h0 l cs.toList ∧ ((∀ η h, Cells w D' η h l' cs.toList) → SV w D' (.fn f l') z) := by
  cases hv with
  | fn _ _ cs hs hr =>
    have e : ∀ i, cs.toList.getD i undef = cs.getD i undef := fun i => by rw [getD_of (l := cs.toList) (by simp) i]; rfl
    refine ⟨cs, rfl, ⟨by simp [hs], fun i hi => by rw [e]; exact hr i hi⟩, fun H => ⟨fun t n xs e => (by cases e), fun l e => (by cases e), fun η h => ?_⟩⟩
    have hlen : cs.size = l'.length := by have := (H η h).1; simpa using this
    exact .fn f l' cs hlen (fun i hi => by have := (H η h).2 i hi; rwa [e] at this)
/-- Handed boxes: where they stand. -/
def BxOk (η : Nat → Gh) (hand : List (Nat × RV)) (h h' : Heap) (O : Nat → Bs) (i : Nat) (zs : List Value) (b : List Nat) : Prop :=
  ∀ r ∈ b, ∃ j blk l ls, i ≤ j ∧ fnd hand j = some (.ptr ls) ∧ zs.getD (j - i) undef = .pointer (some ⟨blk, 0, none⟩) ∧ η r = .box blk ∧ look h r = some (.box l) ∧ look h' r = none
/-- What is handed. -/
theorem hand_ok (G : RelG B D η O σ a w) {hand : List (Nat × RV)} {bw : Bool} {i : Nat} {v v' : V} {z : Value} {u : Heap} {b q : List Nat} (hv : Vr w D η σ.h v z)
    (hh : (∃ ls, fnd hand i = some (.ptr ls)) ∨ (∃ t n, fnd hand i = some (.one (.own t n)))) (h : argV σ.h hand bw i v = some (v', u, b, q)) :
    ∃ E, RelG B D η O (σ.after none .un u) a w ∧ FrzO σ.h (u ++ σ.h) O O ∧ GV w D i v' z E ∧ Fl O σ.h (u ++ σ.h) E ∧ q = [] ∧
      (∀ r ∈ b, ∃ blk l ls, fnd hand i = some (.ptr ls) ∧ z = .pointer (some ⟨blk, 0, none⟩) ∧ η r = .box blk ∧ look σ.h r = some (.box l) ∧ look (u ++ σ.h) r = none) := by
  unfold argV at h
  rcases hh with ⟨ls, hf⟩ | ⟨t, n, hf⟩
  · rw [hf] at h
    simp only at h
    split at h
    case h_2 => cases h
    rename_i r
    split at h
    case h_2 => cases h
    rename_i cs hr
    split at h
    case h_2 => cases h
    rename_i hs
    cases h
    obtain ⟨b, c, T, g1, g2, g3, g4, g5⟩ := G.objs r _ hr
    have ez : z = .pointer (some ⟨b, 0, none⟩) := by
      cases hv with
      | ptr _ _ _ _ _ hx => exact hx cs b hr g1
    subst ez
    have F1 : FrzO σ.h ([(r, none)] ++ σ.h) O O := ⟨FrzH.gone _ _ (look_some_isSome hr), fun _ _ => rfl⟩
    refine ⟨_, G.gone r (look_some_isSome hr), F1, .bx cs b c T g2 (fun η h => ⟨⟨by simp [g3], fun i hi => ?_⟩, fun y hy => ?_⟩), ⟨fun e he y hy => ?_, List.pairwise_singleton _ _⟩, rfl, fun r' hr' => ?_⟩
    · have e : c.toList.getD i undef = c.getD i undef := by rw [getD_of (l := c.toList) (by simp) i]; rfl
      rw [e]; exact stable_vr (g4 i hi).2 (stables_get cs hs i hi)
    · obtain ⟨i, hi, rfl⟩ := List.getElem_of_mem hy
      have := (g4 i (by rw [← g3]; simpa using hi)).1
      have e2 : c.getD i undef = c.toList[i] := by simp at hi; simp [Array.getD, hi]
      rwa [e2] at this
    · obtain rfl := List.mem_singleton.1 he
      exact ⟨r, by simp [look, fnd_cons], by rw [hr]; simp, (g5 y).2 hy⟩
    · obtain rfl := List.mem_singleton.1 hr'
      exact ⟨b, cs, ls, hf, rfl, g1, hr, by simp [look, fnd_cons]⟩
  · rw [hf] at h
    simp only at h
    split at h
    case h_2 => cases h
    rename_i xs m u' hb
    cases h
    obtain ⟨Ox, G1, F1, hrow, hOx⟩ := baseV_ok G hv hb
    refine ⟨_, G1, F1, .ow t m xs z Ox ?_ hrow, ⟨fun e he y hy => ?_, List.pairwise_singleton _ _⟩, rfl, fun r' hr' => by simp at hr'⟩
    · exact hrow.leaf
    · obtain rfl := List.mem_singleton.1 he
      exact hOx y hy
theorem argV_lent (G : RelG B D η O σ a w) {hand : List (Nat × RV)} {i : Nat} {v v' : V} {z : Value} {u : Heap} {b q : List Nat} (hv : Vr w D η σ.h v z) (h : argV σ.h hand true i v = some (v', u, b, q)) {Dc : Bs} (hD : ∀ b, D b → Dc b) (hq : ∀ r ∈ q, ∀ b, O r b → Dc b) :
    ∃ E, RelG B D η O (σ.after none .un u) a w ∧ FrzO σ.h (u ++ σ.h) O O ∧ GV w Dc i v' z E ∧ Fl O σ.h (u ++ σ.h) E ∧
      (∀ r ∈ b, ∃ blk l ls, fnd hand i = some (.ptr ls) ∧ z = .pointer (some ⟨blk, 0, none⟩) ∧ η r = .box blk ∧ look σ.h r = some (.box l) ∧ look (u ++ σ.h) r = none) := by
  by_cases hh : (∃ ls, fnd hand i = some (.ptr ls)) ∨ (∃ t n, fnd hand i = some (.one (.own t n)))
  · obtain ⟨E, h1, h2, h3, h4, h5, h6⟩ := hand_ok G hv hh h
    exact ⟨E, h1, h2, h3.mono hD, h4, h6⟩
  · have fin : ∀ {v' : V}, SV w Dc v' z → ∃ E, RelG B D η O (σ.after none .un []) a w ∧ FrzO σ.h ([] ++ σ.h) O O ∧ GV w Dc i v' z E ∧ Fl O σ.h ([] ++ σ.h) E ∧
      (∀ r ∈ ([] : List Nat), ∃ blk l ls, fnd hand i = some (.ptr ls) ∧ z = .pointer (some ⟨blk, 0, none⟩) ∧ η r = .box blk ∧ look σ.h r = some (.box l) ∧ look ([] ++ σ.h) r = none) :=
      fun H => ⟨[], G.same0, FrzO.refl _ _, H.gv i, Fl.nil _ _ _, fun r hr => by simp at hr⟩
    unfold argV at h
    split at h
    · rename_i ls e; exact absurd (.inl ⟨ls, e⟩) hh
    · rename_i t n e; exact absurd (.inr ⟨t, n, e⟩) hh
    · split at h
      · split at h
        case h_2 => cases h
        rename_i l' q' hl
        cases h
        obtain ⟨cs, e, H, k⟩ := agg_of (D' := Dc) (l' := l') hv
        exact fin (k (lentL_ok G hD _ H hl hq))
      · rename_i hbw; cases hbw
      · split at h
        case h_2 => cases h
        rename_i l' q' hl
        cases h
        obtain ⟨cs, e, H, k⟩ := fn_of (D' := Dc) (l' := l') hv
        exact fin (k (lend_ok G hD _ H hl hq))
      · split at h
        case h_2 => cases h
        rename_i v1 q1 hl
        cases h
        exact fin (lentV_ok G hv hl hD hq)
      · rename_i hbw; cases hbw
theorem argV_frz (G : RelG B D η O σ a w) {hand : List (Nat × RV)} {i : Nat} {v v' : V} {z : Value} {u : Heap} {b q : List Nat} (hv : Vr w D η σ.h v z) (h : argV σ.h hand false i v = some (v', u, b, q)) :
    ∃ D' O' E, RelG B D' η O' (σ.after none .un u) a w ∧ (∀ b, D b → D' b) ∧ FrzO σ.h (u ++ σ.h) O O' ∧ GV w D' i v' z E ∧ Fl O' σ.h (u ++ σ.h) E ∧
      (∀ r ∈ b, ∃ blk l ls, fnd hand i = some (.ptr ls) ∧ z = .pointer (some ⟨blk, 0, none⟩) ∧ η r = .box blk ∧ look σ.h r = some (.box l) ∧ look (u ++ σ.h) r = none) := by
  by_cases hh : (∃ ls, fnd hand i = some (.ptr ls)) ∨ (∃ t n, fnd hand i = some (.one (.own t n)))
  · obtain ⟨E, h1, h2, h3, h4, h5, h6⟩ := hand_ok G hv hh h
    exact ⟨D, O, E, h1, fun _ h => h, h2, h3, h4, h6⟩
  · unfold argV at h
    split at h
    · rename_i ls e; exact absurd (.inl ⟨ls, e⟩) hh
    · rename_i t n e; exact absurd (.inr ⟨t, n, e⟩) hh
    · split at h
      · rename_i hbw; cases hbw
      · split at h
        case h_2 => cases h
        rename_i l' u' hl
        cases h
        obtain ⟨cs, e, H, _⟩ := agg_of (D' := D) (l' := l') hv
        obtain ⟨D', O', G', h1, h2, h3⟩ := froz_ok _ G H hl
        obtain ⟨cs', e', H', k⟩ := agg_of (D' := D') (l' := l') hv
        rw [e] at e'; cases e'
        exact ⟨D', O', [], G', h1, h2, (k h3).gv i, Fl.nil _ _ _, fun r hr => by simp at hr⟩
      · rename_i hbw; cases hbw
      · rename_i hbw; cases hbw
      · split at h
        case h_2 => cases h
        rename_i v1 u1 hl
        cases h
        obtain ⟨D', O', G', h1, h2, h3⟩ := frozV_ok G hv hl
        exact ⟨D', O', [], G', h1, h2, h3.gv i, Fl.nil _ _ _, fun r hr => by simp at hr⟩
theorem bx_join {hand : List (Nat × RV)} {i : Nat} {z : Value} {zs : List Value} {h h1 h2 : Heap} {b b' : List Nat} (F1 : FrzH h h1) (F2 : FrzH h1 h2)
    (H1 : ∀ r ∈ b, ∃ blk l ls, fnd hand i = some (.ptr ls) ∧ z = .pointer (some ⟨blk, 0, none⟩) ∧ η r = .box blk ∧ look h r = some (.box l) ∧ look h1 r = none)
    (H2 : BxOk η hand h1 h2 O (i + 1) zs b') : BxOk η hand h h2 O i (z :: zs) (b ++ b') := by
  intro r hr
  rcases List.mem_append.1 hr with hr | hr
  · obtain ⟨blk, l, ls, g1, g2, g3, g4, g5⟩ := H1 r hr
    exact ⟨i, blk, l, ls, Nat.le_refl _, g1, by simpa using g2, g3, g4, F2.none g5⟩
  · obtain ⟨j, blk, l, ls, g0, g1, g2, g3, g4, g5⟩ := H2 r hr
    refine ⟨j, blk, l, ls, by omega, g1, ?_, g3, F1.box r l g4, g5⟩
    have : j - i = (j - (i + 1)) + 1 := by omega
    rw [this]; exact g2
theorem argVs_lent : ∀ (vs : List V) {σ : St} {hand : List (Nat × RV)} {i : Nat} {vs' : List V} {zs : List Value} {u : Heap} {b q : List Nat}, RelG B D η O σ a w → Cells w D η σ.h vs zs → argVs σ.h true hand i vs = some (vs', u, b, q) → ∀ {Dc : Bs}, (∀ b, D b → Dc b) → (∀ r ∈ q, ∀ b, O r b → Dc b) →
    ∃ E, RelG B D η O (σ.after none .un u) a w ∧ FrzO σ.h (u ++ σ.h) O O ∧ GVs w Dc i vs' zs E ∧ Fl O σ.h (u ++ σ.h) E ∧ BxOk η hand σ.h (u ++ σ.h) O i zs b
  | [], σ, hand, i, vs', zs, u, b, q, G, H, h, Dc, hD, hq => by
    simp only [argVs] at h
    cases h
    obtain rfl : zs = [] := List.eq_nil_of_length_eq_zero H.1
    exact ⟨[], G.same0, FrzO.refl _ _, .nil i, Fl.nil _ _ _, fun r hr => by simp at hr⟩
  | v :: vs, σ, hand, i, vs', zs, u, b, q, G, H, h, Dc, hD, hq => by
    simp only [argVs] at h
    split at h
    case h_2 => cases h
    rename_i v1 u1 b1 q1 h1
    split at h
    case h_2 => cases h
    rename_i l2 u2 b2 q2 h2
    cases h
    obtain ⟨z, zs', rfl, hv, H'⟩ := H.cons
    obtain ⟨E1, G1, F1, a1, a2, a3⟩ := argV_lent G hv h1 hD (fun r hr => hq r (by simp [hr]))
    obtain ⟨E2, G2, F2, c1, c2, c3⟩ := argVs_lent vs G1 (by rw [St.after_h]; exact H'.mono (F1.toFrzH.evo (fun _ h => h) w η)) (by rw [St.after_h]; exact h2) hD (fun r hr => hq r (by simp [hr]))
    rw [after_after] at G2
    rw [St.after_h] at F2 c2 c3
    refine ⟨E1 ++ E2, G2, by rw [List.append_assoc]; exact F1.trans F2, .cons i _ _ z zs' E1 E2 a1 c1, by rw [List.append_assoc]; exact Fl.swap (Fl.join G2 F1.toFrzH F2 a2 c2), ?_⟩
    rw [List.append_assoc]
    exact bx_join F1.toFrzH F2.toFrzH a3 c3
theorem argVs_frz : ∀ (vs : List V) {D : Bs} {O : Nat → Bs} {σ : St} {hand : List (Nat × RV)} {i : Nat} {vs' : List V} {zs : List Value} {u : Heap} {b q : List Nat}, RelG B D η O σ a w → Cells w D η σ.h vs zs → argVs σ.h false hand i vs = some (vs', u, b, q) →
    ∃ D' O' E, RelG B D' η O' (σ.after none .un u) a w ∧ (∀ b, D b → D' b) ∧ FrzO σ.h (u ++ σ.h) O O' ∧ GVs w D' i vs' zs E ∧ Fl O' σ.h (u ++ σ.h) E ∧ BxOk η hand σ.h (u ++ σ.h) O' i zs b
  | [], D, O, σ, hand, i, vs', zs, u, b, q, G, H, h => by
    simp only [argVs] at h
    cases h
    obtain rfl : zs = [] := List.eq_nil_of_length_eq_zero H.1
    exact ⟨D, O, [], G.same0, fun _ h => h, FrzO.refl _ _, .nil i, Fl.nil _ _ _, fun r hr => by simp at hr⟩
  | v :: vs, D, O, σ, hand, i, vs', zs, u, b, q, G, H, h => by
    simp only [argVs] at h
    split at h
    case h_2 => cases h
    rename_i v1 u1 b1 q1 h1
    split at h
    case h_2 => cases h
    rename_i l2 u2 b2 q2 h2
    cases h
    obtain ⟨z, zs', rfl, hv, H'⟩ := H.cons
    obtain ⟨D1, O1, E1, G1, hD1, F1, a1, a2, a3⟩ := argV_frz G hv h1
    obtain ⟨D2, O2, E2, G2, hD2, F2, c1, c2, c3⟩ := argVs_frz vs G1 (by rw [St.after_h]; exact H'.mono (F1.toFrzH.evo hD1 w η)) (by rw [St.after_h]; exact h2)
    rw [after_after] at G2
    rw [St.after_h] at F2 c2 c3
    refine ⟨D2, O2, E1 ++ E2, G2, fun b hb => hD2 b (hD1 b hb), by rw [List.append_assoc]; exact F1.trans F2, .cons i _ _ z zs' E1 E2 (a1.mono hD2) c1, by rw [List.append_assoc]; exact Fl.swap (Fl.join G2 F1.toFrzH F2 a2 c2), ?_⟩
    rw [List.append_assoc]
    exact bx_join F1.toFrzH F2.toFrzH a3 c3
end
end Go.Proofs.YtpoppblfnaipbaaDoor.Eng

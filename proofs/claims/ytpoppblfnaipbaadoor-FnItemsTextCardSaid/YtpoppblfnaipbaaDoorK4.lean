/- The engine, part 4: a pure evaluator of the model's code over typed values, and its soundness over any program. what comes back from a call. a call of a value is sound. a call's end. every round is sound. what an operation yields hangs on the roots that it names. one operation, whatever is asked of what it yields. regions of a drawn order: the walk in the order of the text, told step by step. regions of a drawn order are sound. a law over bytes. -/
import Derived.Test.YtpoppblfnaipbaaDoorK3
import Derived.Orders
import Derived.Below
/-! ## The engine: what comes back from a call. -/
namespace Go.Proofs.YtpoppblfnaipbaaDoor.Eng
open Go
set_option autoImplicit false
set_option linter.unusedVariables false
set_option linter.unusedSimpArgs false

section
variable {P : Program} {B : Base} {D : Bs} {η : Nat → Gh} {O : Nat → Bs} {σ : St} {a : Act} {w : World}

theorem hpE_none {E : List Ent} {r : Nat} (h : ∀ e ∈ E, e.κ ≠ r) : fnd (hpE E) r = none := by
  cases e : fnd (hpE E) r with
  | none => rfl
  | some o =>
    obtain ⟨e', h1, h2, _⟩ := hpE_mem E r o e
    exact absurd h2 (h e' h1)
/-- What comes back. -/
theorem RelG.came {D2 D3 : Bs} {O2 : Nat → Bs} {ua : Heap} (G : RelG B D η O σ a w) (G2 : RelG B D2 η O2 (σ.after none .un ua) a w) (F : FrzO σ.h (ua ++ σ.h) O O2) (hDD : ∀ b, D b → D2 b)
    {w' : World} (E : List Ent) {v : V} {x : Value} {dst : Option Nat} (hd : ∀ d, dst = some d → d < B.N) (hn : (E.map Ent.κ).Nodup)
    (hkey : ∀ e ∈ E, fnd σ.h e.κ = none ∨ (η e.κ = e.gh ∧ (∃ l l', look σ.h e.κ = some (.box l) ∧ e.ob = .box l') ∧ look (ua ++ σ.h) e.κ = none))
    (keep : Bs) (hkeep : ∀ b, B.keep b → keep b) (hsame : ∀ b, keep b → w'.heap[b]? = w.heap[b]?) (hD2 : ∀ b, D2 b → D3 b) (hDk : ∀ b, D2 b → keep b)
    (hOk : ∀ r o b, look (ua ++ σ.h) r = some o → O2 r b → keep b) (hD3 : ∀ b, D3 b → D2 b ∨ ¬ keep b) (hD3l : ∀ b, D3 b → b < w'.heap.size)
    (hQ : ∀ e ∈ E, ∀ b, e.Q b → ¬ keep b ∧ b < w'.heap.size ∧ ¬ D3 b) (hdis : E.Pairwise fun e e' => ∀ b, e.Q b → ¬ e'.Q b)
    (hos : w'.os = w.os) (htape : w'.tape = w.tape) (hout : w'.output = w.output) (hsz : w.heap.size ≤ w'.heap.size)
    (hob : ∀ h η, There h η E → (∀ e ∈ E, ObjOk w' D3 η h e.κ e.ob e.Q) ∧ Vr w' D3 η h v x) : Rel B (σ.after dst v (hpE E ++ ua)) (a.put dst x) w' := by
  have hst : (σ.after none .un ua).h = ua ++ σ.h := St.after_h _ _ _ _
  have ex : ∀ κ, ∃ g : Gh × Bs, (∀ e ∈ E, e.κ = κ → g = (e.gh, e.Q)) ∧ ((∀ e ∈ E, e.κ ≠ κ) → g = (η κ, fun b => (∃ o, look (ua ++ σ.h) κ = some o) ∧ O2 κ b)) := by
    intro κ
    by_cases h : ∃ e ∈ E, e.κ = κ
    · obtain ⟨e, h1, h2⟩ := h
      exact ⟨(e.gh, e.Q), fun e' h1' h2' => by rw [fl_unique hn h1' h1 (h2'.trans h2.symm)], fun h => absurd h2 (h e h1)⟩
    · exact ⟨_, fun e h1 h2 => absurd ⟨e, h1, h2⟩ h, fun _ => rfl⟩
  obtain ⟨g, hg⟩ : ∃ g : Nat → Gh × Bs, ∀ κ, (∀ e ∈ E, e.κ = κ → g κ = (e.gh, e.Q)) ∧ ((∀ e ∈ E, e.κ ≠ κ) → g κ = (η κ, fun b => (∃ o, look (ua ++ σ.h) κ = some o) ∧ O2 κ b)) := ⟨fun κ => Classical.choose (ex κ), fun κ => Classical.choose_spec (ex κ)⟩
  let η' : Nat → Gh := fun κ => (g κ).1
  let O' : Nat → Bs := fun κ b => (g κ).2 b
  have hin : ∀ e ∈ E, η' e.κ = e.gh ∧ O' e.κ = e.Q := fun e he => by
    have := (hg e.κ).1 e he rfl
    exact ⟨by simp [η', this], by funext b; simp [O', this]⟩
  have hnot : ∀ κ, (∀ e ∈ E, e.κ ≠ κ) → η' κ = η κ ∧ ∀ b, O' κ b ↔ (∃ o, look (ua ++ σ.h) κ = some o) ∧ O2 κ b := fun κ h => by
    have := (hg κ).2 h
    exact ⟨by simp [η', this], fun b => by simp [O', this]⟩
  have hc : ∀ κ, (∃ e ∈ E, e.κ = κ) ∨ (∀ e ∈ E, e.κ ≠ κ) := fun κ => by
    by_cases h : ∃ e ∈ E, e.κ = κ
    · exact .inl h
    · exact .inr fun e he h' => h ⟨e, he, h'⟩
  have hO' : ∀ κ b, O' κ b → (∃ e ∈ E, e.κ = κ ∧ e.Q b) ∨ ((∀ e ∈ E, e.κ ≠ κ) ∧ (∃ o, look (ua ++ σ.h) κ = some o) ∧ O2 κ b) := fun κ b h => by
    rcases hc κ with ⟨e, he, rfl⟩ | hk
    · rw [(hin e he).2] at h; exact .inl ⟨e, he, rfl, h⟩
    · exact .inr ⟨hk, ((hnot κ hk).2 b).1 h⟩
  have hassoc : (hpE E ++ ua) ++ σ.h = hpE E ++ (ua ++ σ.h) := List.append_assoc _ _ _
  have hlkE : ∀ e ∈ E, look ((hpE E ++ ua) ++ σ.h) e.κ = some e.ob := fun e he => by
    rw [hassoc]; simp only [look, fnd_append, hpE_fnd E hn e he]
  have hlkN : ∀ κ, (∀ e ∈ E, e.κ ≠ κ) → look ((hpE E ++ ua) ++ σ.h) κ = look (ua ++ σ.h) κ := fun κ h => by
    rw [hassoc]; exact look_append_none (hpE_none h)
  have T : There ((hpE E ++ ua) ++ σ.h) η' E := fun e he => ⟨hlkE e he, (hin e he).1⟩
  have hs2 : Same D2 w w' := fun b hb => hsame b (hDk b hb)
  have hsO : ∀ r o, look (ua ++ σ.h) r = some o → Same (O2 r) w w' := fun r o hr b hb => hsame b (hOk r o b hr hb)
  have hη : ∀ r, (fnd σ.h r).isSome → η' r = η r := fun r hr => by
    rcases hc r with ⟨e, he, rfl⟩ | hk
    · rcases hkey e he with h | ⟨h, _⟩
      · rw [h] at hr; cases hr
      · rw [(hin e he).1, h]
    · exact (hnot r hk).1
  have rowfact : ∀ r (t : Ty) n v fz (xs : List t.den), look (ua ++ σ.h) r = some (.row t n v fz xs) → ∀ hv, η r = .row hv → (∀ is, Valid t xs is → hdrAt w' hv is = hdrAt w hv is) ∧ ∀ is p, ValidE t xs is → elPtr w' p hv t is = elPtr w p hv t is := by
    intro r t n v fz xs hl hv he
    obtain ⟨hv', he', hob', _⟩ := G2.objs r _ (by rw [hst]; exact hl)
    obtain rfl : hv' = hv := by rw [he'] at he; cases he; rfl
    have hO := hsO r _ hl
    cases fz with
    | true => exact ⟨fun is hval => hdr_Rz hs2 is t xs hv' hob'.1 hval, fun is p hval => el_Rz hs2 p is t xs hv' hob'.1 hval⟩
    | false => exact ⟨fun is hval => hdr_Own hs2 is t (n + 1) xs hv' (O2 r) hO hob' hval, fun is p hval => el_Own hs2 p is t (n + 1) xs hv' (O2 r) hO hob' hval⟩
  have Ev : Evo w D η σ.h w' D3 η' ((hpE E ++ ua) ++ σ.h) := {
    dsub := fun b hb => hD2 b (hDD b hb)
    same := fun b hb => hs2 b (hDD b hb)
    old := fun r hr => fnd_isSome_append hr
    eta := hη
    box := fun r l' hr hl => by
      rcases hc r with ⟨e, he, rfl⟩ | hk
      · rcases hkey e he with h | ⟨_, ⟨l, l2, h, _⟩, _⟩
        · rw [h] at hr; cases hr
        · exact ⟨l, h⟩
      · rw [hlkN r hk] at hl
        exact ⟨l', F.box r l' hl⟩
    row := fun r t n v fz xs hr hl => by
      rcases hc r with ⟨e, he, rfl⟩ | hk
      · rcases hkey e he with h | ⟨_, ⟨l, l2, _, h⟩, _⟩
        · rw [h] at hr; cases hr
        · rw [hlkE e he, h] at hl; cases hl
      · rw [hlkN r hk] at hl
        obtain ⟨n0, fz0, h0⟩ := F.row r t n v fz xs hl
        exact ⟨n0, v, fz0, xs, h0, fun hv he => ⟨fun is _ hval => ⟨hval, (rowfact r t n v fz xs hl hv he).1 is hval⟩, fun _ is p hval => ⟨hval, (rowfact r t n v fz xs hl hv he).2 is p hval⟩⟩⟩
    ver := fun r t n v fz xs t0 n0 v0 fz0 xs0 hr hl hl0 => by
      rcases hc r with ⟨e, he, rfl⟩ | hk
      · rcases hkey e he with h | ⟨_, ⟨l, l2, _, h⟩, _⟩
        · rw [h] at hr; cases hr
        · rw [hlkE e he, h] at hl; cases hl
      · rw [hlkN r hk] at hl
        obtain ⟨n1, fz1, h1⟩ := F.row r t n v fz xs hl
        rw [h1] at hl0; cases hl0; exact .inl rfl }
  refine ⟨D3, η', O', G.go hd Ev hos htape hout hsz (fun b hb => hsame b (hkeep b hb)) ?_ hD3l ?_ ?_ ?_ ?_ (hob _ _ T).2⟩
  · intro r b h
    rcases hO' r b h with ⟨e, he, _, hb⟩ | ⟨_, _, hb⟩
    · exact fun hk => (hQ e he b hb).1 (hkeep b hk)
    · exact G2.okeep r b hb
  · intro b hb
    rcases hD3 b hb with h | h
    · rcases G2.dbase b h with h | h
      · exact .inl (G.base b h)
      · exact .inr h
    · exact .inr fun hk => h (hkeep b hk)
  · intro r b h
    rcases hO' r b h with ⟨e, he, _, hb⟩ | ⟨_, ⟨o, ho⟩, hb⟩
    · exact (hQ e he b hb).2
    · refine ⟨Nat.lt_of_lt_of_le (G2.olt r b hb).1 hsz, fun h3 => ?_⟩
      rcases hD3 b h3 with h | h
      · exact (G2.olt r b hb).2 h
      · exact h (hOk r o b ho hb)
  · intro r r' b h h'
    rcases hO' r b h with ⟨e, he, e1, hb⟩ | ⟨_, ⟨o, ho⟩, hb⟩ <;> rcases hO' r' b h' with ⟨e', he', e1', hb'⟩ | ⟨_, ⟨o', ho'⟩, hb'⟩
    · rw [← e1, ← e1', pw_sym hdis he he' hb hb']
    · exact absurd (hOk r' o' b ho' hb') (hQ e he b hb).1
    · exact absurd (hOk r o b ho hb) (hQ e' he' b hb').1
    · exact G2.odis r r' b hb hb'
  · intro r ob hr
    rcases hc r with ⟨e, he, rfl⟩ | hk
    · rw [hlkE e he] at hr; cases hr
      rw [(hin e he).2]
      exact (hob _ _ T).1 e he
    · rw [hlkN r hk] at hr
      have eO : ∀ b, O' r b ↔ O2 r b := fun b => ((hnot r hk).2 b).trans ⟨fun h => h.2, fun h => ⟨⟨ob, hr⟩, h⟩⟩
      have eO : O' r = O2 r := by funext b; exact propext (eO b)
      rw [eO]
      cases ob with
      | box l =>
        have hr0 := F.box r l hr
        have hob1 := G.objs r _ hr0
        obtain ⟨b2, c2, T2, k1, k2, k3, k4, k5⟩ := G2.objs r _ (by rw [hst]; exact hr)
        obtain ⟨b1, c1, T1, j1, j2, j3, j4, j5⟩ := hob1
        have eb : b1 = b2 := by rw [j1] at k1; cases k1; rfl
        subst eb
        have e2 : O2 r = O r := by funext b; exact propext ((k5 b).trans (j5 b).symm)
        rw [e2]
        exact ObjOk.mono Ev (look_some_isSome hr0) (fun b hb => hsO r _ hr b (by rw [e2]; exact hb)) ⟨b1, c1, T1, j1, j2, j3, j4, j5⟩
      | row t n v fz xs =>
        obtain ⟨n0, fz0, h0⟩ := F.row r t n v fz xs hr
        obtain ⟨hv, k1, k2, k3⟩ := G2.objs r _ (by rw [hst]; exact hr)
        rw [hst] at k3
        refine ⟨hv, (hη r (look_some_isSome h0)).trans k1, ?_, by rw [hassoc]; exact fnd_isSome_append k3⟩
        cases fz with
        | true => exact ⟨Rz.mono hD2 hs2 _ _ _ k2.1, k2.2⟩
        | false => exact OwnE.mono hD2 hs2 _ _ _ _ _ (hsO r _ hr) k2

/-! tight results hang on nothing that others hold -/
theorem Rz.flat {D' : Bs} : ∀ (t : Ty), t.flat = true → ∀ (x : t.den) (vs : List Value), Rz w D t x vs → Rz w D' t x vs
  | .int _, _, _, _, h => h
  | .bool, _, _, _, h => h
  | .str, _, _, _, h => h
  | .unit, _, _, _, h => h
  | .pair a b, hf, x, vs, ⟨u, v, e, h1, h2⟩ => by
    simp only [Ty.flat, Bool.and_eq_true] at hf
    exact ⟨u, v, e, Rz.flat a hf.1 _ _ h1, Rz.flat b hf.2 _ _ h2⟩
  | .sl _, hf, _, _, _ => by simp [Ty.flat] at hf
  | .tree, hf, _, _, _ => by simp [Ty.flat] at hf
  | .ent _ _, _, _, _, h => h.elim
theorem OwnE.flat {D' : Bs} : ∀ (n : Nat) (t : Ty), t.flatAt n = true → ∀ (x : t.den) (vs : List Value) (Q : Bs), OwnE w D t n x vs Q → OwnE w D' t n x vs Q
  | 0, t, hf, x, vs, Q, h => OwnE.zero.2 ⟨Rz.flat t (by simpa [Ty.flatAt] using hf) _ _ (OwnE.zero.1 h).1, (OwnE.zero.1 h).2⟩
  | n + 1, .sl t, hf, x, vs, Q, h => by
    obtain ⟨v, e, h⟩ := h
    exact ⟨v, e, h.imp (fun h => ⟨h.1, OwnRow.mono (fun _ _ => rfl) (fun i us Oi _ _ hp => OwnE.flat n t (by simpa [Ty.flatAt] using hf) _ _ _ hp) h.2⟩) id⟩
  | n + 1, .int _, hf, x, vs, Q, h => (OwnE.other (fun _ => by simp)).2 ⟨Rz.flat _ (by simpa [Ty.flatAt] using hf) _ _ ((OwnE.other (fun _ => by simp)).1 h).1, ((OwnE.other (fun _ => by simp)).1 h).2⟩
  | n + 1, .bool, hf, x, vs, Q, h => (OwnE.other (fun _ => by simp)).2 ⟨Rz.flat _ (by simpa [Ty.flatAt] using hf) _ _ ((OwnE.other (fun _ => by simp)).1 h).1, ((OwnE.other (fun _ => by simp)).1 h).2⟩
  | n + 1, .str, hf, x, vs, Q, h => (OwnE.other (fun _ => by simp)).2 ⟨Rz.flat _ (by simpa [Ty.flatAt] using hf) _ _ ((OwnE.other (fun _ => by simp)).1 h).1, ((OwnE.other (fun _ => by simp)).1 h).2⟩
  | n + 1, .unit, hf, x, vs, Q, h => (OwnE.other (fun _ => by simp)).2 ⟨Rz.flat _ (by simpa [Ty.flatAt] using hf) _ _ ((OwnE.other (fun _ => by simp)).1 h).1, ((OwnE.other (fun _ => by simp)).1 h).2⟩
  | n + 1, .pair _ _, hf, x, vs, Q, h => (OwnE.other (fun _ => by simp)).2 ⟨Rz.flat _ (by simpa [Ty.flatAt] using hf) _ _ ((OwnE.other (fun _ => by simp)).1 h).1, ((OwnE.other (fun _ => by simp)).1 h).2⟩
  | n + 1, .tree, hf, x, vs, Q, h => by simp [Ty.flatAt, Ty.flat] at hf
  | n + 1, .ent _ _, hf, x, vs, Q, h => ((OwnE.other (fun _ => by simp)).1 h).1.elim
theorem FL.tight {D' : Bs} {κ : Nat} {l : L} (ht : l.tight = true) {x : l.den} {vs : List Value} {E : List Ent} (H : FL w D κ l x vs E) : FL w D' κ l x vs E := by
  cases l with
  | pv t => exact ⟨Rz.flat t ht _ _ H.1, H.2⟩
  | any => simp [L.tight] at ht
  | own t n =>
    obtain ⟨v, Q, h1, h2, h3, h4⟩ := H
    exact ⟨v, Q, h1, h2, OwnE.flat (n + 1) (.sl t) (by simpa [Ty.flatAt, L.tight] using ht) _ _ _ h3, h4⟩
theorem FLs.tight {D' : Bs} : ∀ {ls : List L} {κ : Nat} {x : denL ls} {vs : List Value} {E : List Ent}, tights ls = true → FLs w D κ ls x vs E → FLs w D' κ ls x vs E
  | [], _, _, _, _, _, H => H
  | [l], _, _, _, _, ht, H => by
    simp only [tights, Bool.and_true] at ht
    exact FL.tight (l := l) ht H
  | l :: m :: r, κ, x, vs, E, ht, H => by
    obtain ⟨u, v, E1, E2, h1, h2, h3, h4⟩ := H
    have ht : (l.tight && tights (m :: r)) = true := ht
    rw [Bool.and_eq_true] at ht
    exact ⟨u, v, E1, E2, h1, h2, h3.tight ht.1, FLs.tight (ls := m :: r) ht.2 h4⟩
theorem FRV.tight {D' : Bs} {κ : Nat} {a : RV} (ht : a.tight = true) {x : a.den} {z : Value} {E : List Ent} (H : FRV w D κ a x z E) : FRV w D' κ a x z E := by
  cases a with
  | one l =>
    rcases H with ⟨ha, cs, e, H⟩ | ⟨ha, H⟩
    · exact .inl ⟨ha, cs, e, H.tight ht⟩
    · exact .inr ⟨ha, H.tight ht⟩
  | agg ls => obtain ⟨cs, e, H⟩ := H; exact ⟨cs, e, H.tight ht⟩
  | ptr ls => obtain ⟨b, c, T, E', h1, h2, h3, h4⟩ := H; exact ⟨b, c, T, E', h1, h2, h3.tight ht, h4⟩
theorem FRs.tight {D' : Bs} : ∀ {as : List RV} {x : denR as} {zs : List Value} {E : List Ent}, tightR as = true → FRs w D as x zs E → FRs w D' as x zs E
  | [], _, _, _, _, H => H
  | [a], _, _, _, ht, H => by
    obtain ⟨z, h1, h2⟩ := H
    simp only [tightR, Bool.and_true] at ht
    exact ⟨z, h1, h2.tight ht⟩
  | a :: b :: r, x, zs, E, ht, H => by
    obtain ⟨z, zs', E1, E2, h1, h2, h3, h4⟩ := H
    have ht : (a.tight && tightR (b :: r)) = true := ht
    rw [Bool.and_eq_true] at ht
    exact ⟨z, zs', E1, E2, h1, h2, h3.tight ht.1, FRs.tight (as := b :: r) ht.2 h4⟩
/-- Results and what is given back. -/
theorem FRs.split : ∀ {as bs : List RV} {x : denR (as ++ bs)} {zs zs' : List Value} {E : List Ent}, zs.length = as.length → FRs w D (as ++ bs) x (zs ++ zs') E →
    ∃ E1 E2, E = E2 ++ E1 ∧ FRs w D as (splitR as bs x).1 zs E1 ∧ FRs w D bs (splitR as bs x).2 zs' E2
  | [], bs, x, zs, zs', E, hl, H => by
    obtain rfl : zs = [] := List.eq_nil_of_length_eq_zero hl
    exact ⟨[], E, by simp, ⟨rfl, rfl⟩, H⟩
  | [a], [], x, zs, zs', E, hl, H => by
    obtain ⟨z, rfl⟩ : ∃ z, zs = [z] := by match zs, hl with | [z], _ => exact ⟨z, rfl⟩
    obtain ⟨z', e, H⟩ := H
    have e : z = z' ∧ zs' = [] := by simpa using e
    obtain ⟨rfl, rfl⟩ := e
    exact ⟨E, [], rfl, ⟨z, rfl, H⟩, ⟨rfl, rfl⟩⟩
  | [a], b :: bs, x, zs, zs', E, hl, H => by
    obtain ⟨z, rfl⟩ : ∃ z, zs = [z] := by match zs, hl with | [z], _ => exact ⟨z, rfl⟩
    obtain ⟨z', zs2, E1, E2, e, rfl, h1, h2⟩ := H
    have e : z = z' ∧ zs' = zs2 := by simpa using e
    obtain ⟨rfl, rfl⟩ := e
    exact ⟨E1, E2, rfl, ⟨z, rfl, h1⟩, h2⟩
  | a :: a' :: as, bs, x, zs, zs', E, hl, H => by
    obtain ⟨z, zs1, rfl⟩ : ∃ z zs1, zs = z :: zs1 := by match zs, hl with | z :: zs1, _ => exact ⟨z, zs1, rfl⟩
    obtain ⟨z', zs2, E1, E2, e, rfl, h1, h2⟩ := H
    have e : z = z' ∧ zs1 ++ zs' = zs2 := by simpa using e
    obtain ⟨rfl, rfl⟩ := e
    obtain ⟨E3, E4, rfl, h3, h4⟩ := FRs.split (as := a' :: as) (bs := bs) (zs := zs1) (by simpa using hl) h2
    exact ⟨E3 ++ E1, E4, by simp, ⟨z, zs1, E1, E3, rfl, rfl, h1, h3⟩, h4⟩
end
end Go.Proofs.YtpoppblfnaipbaaDoor.Eng
/-! ## The engine: a call of a value is sound. -/
namespace Go.Proofs.YtpoppblfnaipbaaDoor.Eng
open Go
set_option autoImplicit false
set_option linter.unusedVariables false
set_option linter.unusedSimpArgs false

theorem freshAll_ok : ∀ {u h : Heap}, freshAll h u = true → (∀ e ∈ u, fnd h e.1 = none) ∧ (u.map Prod.fst).Nodup
  | [], h, _ => ⟨fun e he => by simp at he, .nil⟩
  | (r, o) :: u, h, H => by
    simp only [freshAll, Bool.and_eq_true] at H
    obtain ⟨h1, h2⟩ := freshAll_ok H.2
    have h3 : ∀ e ∈ u, e.1 ≠ r ∧ fnd h e.1 = none := fun e he => by
      have := h1 e he
      rw [fnd_cons] at this
      split at this
      · cases this
      · rename_i hne; exact ⟨Ne.symm hne, this⟩
    refine ⟨fun e he => ?_, by simpa using ⟨fun o ho => (h3 _ ho).1 rfl, h2⟩⟩
    rcases List.mem_cons.1 he with rfl | he
    · exact fresh_none H.1
    · exact (h3 e he).2
theorem backs_nil : ∀ {hand : List (Nat × RV)} {args : List Value}, backs hand = [] → handedW args hand = []
  | [], _, _ => rfl
  | (i, a) :: r, args, h => by
    cases a with
    | ptr ls => simp [backs] at h
    | _ => exact backs_nil (hand := r) (args := args) h
theorem backs_none : ∀ {hand : List (Nat × RV)}, backs hand = [] → ∀ j ls, fnd hand j ≠ some (.ptr ls)
  | [], _, j, ls => by simp [fnd]
  | (i, a) :: r, h, j, ls => by
    cases a with
    | ptr ls => simp [backs] at h
    | _ =>
      simp only [backs] at h
      rw [fnd_cons]; split
      · simp
      · exact backs_none h j ls
theorem backs_one : ∀ {hand : List (Nat × RV)} {args : List Value} {a : RV}, backs hand = [a] → ∃ j ls, a = .ptr ls ∧ handedW args hand = [args.getD j undef] ∧ ∀ j' ls', fnd hand j' = some (.ptr ls') → j' = j
  | [], _, _, h => by simp [backs] at h
  | (i, a') :: r, args, a, h => by
    cases a' with
    | ptr ls =>
      simp only [backs, List.cons.injEq] at h
      obtain ⟨rfl, h⟩ := h
      refine ⟨i, ls, rfl, by simp [handedW, backs_nil (args := args) h], fun j' ls' hf => ?_⟩
      rw [fnd_cons] at hf
      split at hf
      · rename_i e; exact e.symm
      · exact absurd hf (backs_none h _ _)
    | _ =>
      simp only [backs] at h
      obtain ⟨j, ls, h1, h2, h3⟩ := backs_one (args := args) h
      refine ⟨j, ls, h1, h2, fun j' ls' hf => ?_⟩
      rw [fnd_cons] at hf
      split at hf
      · cases hf
      · exact h3 j' ls' hf

/-- A function that can be entered. -/
def Enters (P : Program) (g : Nat) : Prop := ∃ fn, P.funcs[g]? = some fn ∧ fn.body.isNone = false ∧ (fn.name == "runtime.NumGoroutine") = false
/-- What is known of calls. -/
def Calld (P : Program) {A : Ann} (S : Sm A) : Prop := ∀ g vs x, S.call g vs = some x → Enters P g ∧ CallOk P A g vs x

/-- Functions that write numbers over the rows of an automaton do so. -/
def MarksOk (P : Program) (A : Ann) : Prop := ∀ g, mvT A.mks g = true → Enters P g ∧
  ∀ (w : World) (D : Bs) (bv k : Int) (s1 s2 : Value) (n1 n2 : Nat) (xs : List Bool) (gs : List (List Int)) (O1 O2 : Bs),
    OwnE w D (.sl .bool) (n1 + 1) xs [s1] O1 → 1 ≤ n2 → OwnE w D (.sl (.sl (.int .i64))) (n2 + 1) gs [s2] O2 → (∀ b, O1 b → b < w.heap.size ∧ ¬ O2 b) → (∀ b, O2 b → b < w.heap.size) → (∀ b, D b → b < w.heap.size ∧ ¬ O1 b ∧ ¬ O2 b) →
    0 ≤ k → k + ((List.length xs + lenG gs : Nat) : Int) ≤ 1099511627776 →
    Calls P g #[.agg #[.int .i64 bv, s1, s2], .int .i64 k] w fun e w' => match e with
      | .returned v => v = .int .i64 (k + ((List.length xs + lenG gs : Nat) : Int)) ∧ OwnE w' D (.sl .bool) (n1 + 1) (markB k xs) [s1] O1 ∧ OwnE w' D (.sl (.sl (.int .i64))) (n2 + 1) (markG (k + (List.length xs : Nat)) gs) [s2] O2 ∧
          (∀ b, b < w.heap.size → ¬ O1 b → ¬ O2 b → w'.heap[b]? = w.heap[b]?) ∧ w.heap.size ≤ w'.heap.size ∧ w'.os = w.os ∧ w'.tape = w.tape ∧ w'.output = w.output
      | _ => False
section
variable {P : Program} {B : Base} {D : Bs} {η : Nat → Gh} {O : Nat → Bs} {σ : St} {a : Act} {w : World} {o : Oper} {next : Act → World → Prop} {Q : Exit → Act → World → Prop} {R : Type} {r : R} {K : V → Heap → Option R}

theorem tup_ok {D : Bs} {h : Heap} {vs : List V} {zs : List Value} (H : Cells w D η h vs zs) : Vr w D η h (tupV vs) (tupW zs) := by
  have go : ∀ {vs : List V} {zs : List Value}, Cells w D η h vs zs → Vr w D η h (.tup vs) (.tuple zs.toArray) := fun {vs zs} H => by
    refine .tup vs zs.toArray (by simp [H.1]) (fun i hi => ?_)
    have : zs.toArray.getD i undef = zs.getD i undef := by rw [getD_of (l := zs) (by simp) i]; rfl
    rw [this]; exact H.2 i hi
  match vs, zs, H with
  | [v], [z], H => exact H.2 0 (by simp)
  | [], [], H => exact go H
  | v :: v' :: vs, z :: z' :: zs, H => exact go H
  | [], _ :: _, H => exact absurd H.1 (by simp)
  | [_], [], H => exact absurd H.1 (by simp)
  | [_], _ :: _ :: _, H => exact absurd H.1 (by simp)
  | _ :: _ :: _, [], H => exact absurd H.1 (by simp)
  | _ :: _ :: _, [_], H => exact absurd H.1 (by simp)
theorem cells_list {l : List Operand} (G : RelG B D η O σ a w) : Cells w D η σ.h (l.map σ.eval) (l.map a.eval) := by
  refine ⟨by simp, fun i hi => ?_⟩
  have hi' : i < l.length := by simpa using hi
  simp only [List.getElem_map, List.getD_eq_getElem?_getD, List.getElem?_map, List.getElem?_eq_getElem hi', Option.map_some, Option.getD_some]
  exact G.eval _

theorem back_ok {D3 : Bs} {h0 h1 : Heap} (κ' : Nat) : ∀ {bs : List RV} {x2 : denR bs} {hz : List Value} {E2 : List Ent} {b : List Nat}, okB bs b = true → FRs w D3 bs x2 hz E2 →
    (∀ a', bs = [a'] → ∀ r, b = [r] → ∃ blk l ls, a' = .ptr ls ∧ hz = [.pointer (some ⟨blk, 0, none⟩)] ∧ η r = .box blk ∧ look h0 r = some (.box l) ∧ look h1 r = none) →
    ∃ E2', E2'.map Ent.Q = E2.map Ent.Q ∧ giveBack κ' bs x2 b = hpE E2' ∧ (∀ h η', There h η' E2' → ∀ e ∈ E2', ObjOk w D3 η' h e.κ e.ob e.Q) ∧
      (E2' = [] ∨ ∃ e0 Et, E2' = e0 :: Et ∧ η e0.κ = e0.gh ∧ (∃ l l', look h0 e0.κ = some (.box l) ∧ e0.ob = .box l') ∧ look h1 e0.κ = none)
  | [], x2, hz, E2, b, hok, H, hp => by
    obtain ⟨_, rfl⟩ := H
    exact ⟨[], rfl, rfl, fun h η' T e he => by simp at he, .inl rfl⟩
  | [a'], x2, hz, E2, b, hok, H, hp => by
    obtain ⟨r, rfl⟩ : ∃ r, b = [r] := by
      match b, hok with
      | [r], _ => exact ⟨r, rfl⟩
    obtain ⟨blk, l, ls, rfl, ehz, g1, g2, g3⟩ := hp a' rfl r rfl
    obtain ⟨z, ez, b', c, T, E3, k1, k2, k3, rfl⟩ := H
    rw [ehz] at ez
    have eb : b' = blk := by rw [k1] at ez; simp at ez; exact ez.symm
    subst eb
    obtain ⟨E3', k4, k5⟩ := FLs.renum (κ' := κ') k3
    refine ⟨⟨r, .box (ofLs κ' ls x2).1, .box b', fun y => y = b'⟩ :: E3', by simp [k5], ?_, fun h η' T e he => ?_, .inr ⟨_, _, rfl, g1, ⟨l, _, g2, rfl⟩, g3⟩⟩
    · have := k4.heap
      simp only [giveBack, hpE, List.map_cons]
      rw [this]; rfl
    · have TE : There h η' E3' := fun e he => T e (by simp [he])
      rcases List.mem_cons.1 he with rfl | he
      · exact box_obj k2 k4 TE (T _ List.mem_cons_self).2
      · exact k4.objs TE e he
  | _ :: _ :: _, x2, hz, E2, b, hok, H, hp => by cases b with
    | nil => simp [okB] at hok
    | cons _ b => cases b <;> simp [okB] at hok

/-- The call's end at the caller's. -/
theorem call_end {A : Ann} {g : Nat} {κ : Nat} {zargs : Array Value} {x : A.out g} {u : Heap} {b : List Nat} (G : RelG B D η O σ a w) (hd : ∀ d, o.dst = some d → d < B.N)
    {D1 D0 : Bs} {O1 : Nat → Bs} {E : List Ent} (G1 : RelG B D1 η O1 (σ.after none .un u) a w) (F : FrzO σ.h (u ++ σ.h) O O1) (hDD : ∀ b, D b → D1 b) (hD0 : ∀ b, D1 b → D0 b)
    (hor : D0 = D1 ∨ tightR (A.fa g).outs = true) (Fe : Fl O1 σ.h (u ++ σ.h) E) (Bx : BxOk η (A.fa g).hand σ.h (u ++ σ.h) O1 0 zargs.toList b)
    (hE0 : ∀ b, D0 b → b < w.heap.size ∧ ∀ e ∈ E, ¬ e.Q b)
    (hfr : freshAll σ.h (ofRs κ (A.fa g).res (splitR (A.fa g).res (backs (A.fa g).hand) x).1).2 = true)
    (hfz : freshAll ((ofRs κ (A.fa g).res (splitR (A.fa g).res (backs (A.fa g).hand) x).1).2 ++ σ.h) (giveBack (10000 * (κ + 1) + 5000) (backs (A.fa g).hand) (splitR (A.fa g).res (backs (A.fa g).hand) x).2 b).tail = true)
    (hok : okB (backs (A.fa g).hand) b = true) {v : Value} {w' : World}
    (hr : Ret A g w (fun b => b < w.heap.size ∧ ∀ e ∈ E, ¬ e.Q b) D0 zargs.toList x v w') :
    Rel B (σ.after o.dst (tupV (ofRs κ (A.fa g).res (splitR (A.fa g).res (backs (A.fa g).hand) x).1).1) (giveBack (10000 * (κ + 1) + 5000) (backs (A.fa g).hand) (splitR (A.fa g).res (backs (A.fa g).hand) x).2 b ++ ((ofRs κ (A.fa g).res (splitR (A.fa g).res (backs (A.fa g).hand) x).1).2 ++ u))) (a.put o.dst v) w' := by
  obtain ⟨⟨D', zs, hz, E', rfl, hlen, hhz, hF, h0, h1, h2, h3, h4⟩, hos, htape, hout, hsz, hsame⟩ := hr
  -- the datum region of the results
  obtain ⟨D3, hF3, h31, h32, h33, h34⟩ : ∃ D3, FRs w' D3 (A.fa g).outs x (zs ++ hz) E' ∧ (∀ b, D1 b → D3 b) ∧ (∀ b, D3 b → D1 b ∨ ¬ (b < w.heap.size ∧ ∀ e ∈ E, ¬ e.Q b)) ∧ (∀ b, D3 b → b < w'.heap.size) ∧ ∀ b, D3 b → D' b := by
    rcases hor with rfl | ht
    · exact ⟨D', hF, h0, h1, h2, fun _ h => h⟩
    · exact ⟨D1, hF.tight ht, fun _ h => h, fun _ h => .inl h, fun b hb => h2 b (h0 b (hD0 b hb)), fun b hb => h0 b (hD0 b hb)⟩
  obtain ⟨E1, E2, rfl, f1, f2⟩ := FRs.split (as := (A.fa g).res) (bs := backs (A.fa g).hand) hlen hF3
  obtain ⟨E1', q1, q2, q3⟩ := f1.came κ
  obtain ⟨E2', p1, p2, p3, p4⟩ := back_ok (h0 := σ.h) (h1 := u ++ σ.h) (η := η) (10000 * (κ + 1) + 5000) hok f2 (fun a' hbk r hbr => by
    obtain ⟨j, ls, rfl, hj, huniq⟩ := backs_one (args := zargs.toList) hbk
    rw [hj] at hhz
    obtain ⟨j', blk, l, ls', _, g1, g2, g3, g4, g5⟩ := Bx r (by rw [hbr]; simp)
    obtain rfl := huniq j' ls' g1
    rw [Nat.sub_zero] at g2
    exact ⟨blk, l, ls, rfl, by rw [hhz, g2], g3, g4, g5⟩)
  have hpk : ∀ E : List Ent, (hpE E).map Prod.fst = E.map Ent.κ := fun E => by simp [hpE]
  rw [q2] at hfr hfz ⊢
  rw [p2] at hfz ⊢
  obtain ⟨k1, k2⟩ := freshAll_ok hfr
  obtain ⟨k3, k4⟩ := freshAll_ok hfz
  have ht : (hpE E2').tail = hpE E2'.tail := by cases E2' <;> rfl
  rw [ht] at k3 k4
  rw [hpk] at k2 k4
  have k1 : ∀ e ∈ E1', fnd σ.h e.κ = none := fun e he => k1 (e.κ, some e.ob) (by simp only [hpE, List.mem_map]; exact ⟨e, he, rfl⟩)
  have k3 : ∀ e ∈ E2'.tail, fnd σ.h e.κ = none ∧ ∀ e' ∈ E1', e'.κ ≠ e.κ := fun e he => by
    have := k3 (e.κ, some e.ob) (by simp only [hpE, List.mem_map]; exact ⟨e, he, rfl⟩)
    rw [fnd_append] at this
    split at this
    · cases this
    · rename_i hn
      refine ⟨this, fun e' he' h => ?_⟩
      have := hpE_fnd E1' k2 e' he'
      rw [h] at this
      rw [this] at hn; cases hn
  have hold : ∀ e0 : Ent, (∃ l l', look σ.h e0.κ = some (.box l) ∧ e0.ob = .box l') → fnd σ.h e0.κ ≠ none := fun e0 ⟨l, l', h, _⟩ h' => by
    have := look_some_isSome h; rw [h'] at this; cases this
  have hn2 : (E2'.map Ent.κ).Nodup := by
    rcases p4 with rfl | ⟨e0, Et, rfl, g1, g2, g3⟩
    · exact .nil
    · refine List.nodup_cons.2 ⟨fun hm => ?_, k4⟩
      obtain ⟨e, he, h⟩ := List.mem_map.1 hm
      exact hold e0 g2 (h ▸ (k3 e he).1)
  have hn : ((E2' ++ E1').map Ent.κ).Nodup := by
    rw [List.map_append]
    refine List.nodup_append.2 ⟨hn2, k2, fun y hy y' hy' => ?_⟩
    obtain ⟨e, he, rfl⟩ := List.mem_map.1 hy
    obtain ⟨e', he', rfl⟩ := List.mem_map.1 hy'
    intro heq
    rcases p4 with rfl | ⟨e0, Et, rfl, g1, g2, g3⟩
    · simp at he
    · rcases List.mem_cons.1 he with rfl | he
      · exact hold e g2 (heq ▸ k1 e' he')
      · exact (k3 e he).2 e' he' heq.symm
  have hkey : ∀ e ∈ E2' ++ E1', fnd σ.h e.κ = none ∨ (η e.κ = e.gh ∧ (∃ l l', look σ.h e.κ = some (.box l) ∧ e.ob = .box l') ∧ look (u ++ σ.h) e.κ = none) := fun e he => by
    rcases List.mem_append.1 he with he | he
    · rcases p4 with rfl | ⟨e0, Et, rfl, g1, g2, g3⟩
      · simp at he
      · rcases List.mem_cons.1 he with rfl | he
        · exact .inr ⟨g1, g2, g3⟩
        · exact .inl (k3 e he).1
    · exact .inl (k1 e he)
  have hQm : (E2' ++ E1').map Ent.Q = (E2 ++ E1).map Ent.Q := by simp [p1, q1]
  have hQ3 : ∀ Q ∈ (E2' ++ E1').map Ent.Q, ∀ b, Q b → ¬ (b < w.heap.size ∧ ∀ e ∈ E, ¬ e.Q b) ∧ b < w'.heap.size ∧ ¬ D' b := by
    rw [hQm]
    intro Q hQ b hb
    obtain ⟨e, he, rfl⟩ := List.mem_map.1 hQ
    exact h3 e he b hb
  have hdis : (E2' ++ E1').Pairwise fun e e' => ∀ b, e.Q b → ¬ e'.Q b := by
    have h5 : ((E2 ++ E1).map Ent.Q).Pairwise fun p q => ∀ b, p b → ¬ q b := List.pairwise_map.2 h4
    rw [← hQm] at h5
    exact List.pairwise_map.1 h5
  have hke : ∀ b, B.keep b → (b < w.heap.size ∧ ∀ e ∈ E, ¬ e.Q b) := fun b hb => ⟨Nat.lt_of_lt_of_le (G.klt b hb) G.size, fun e he hq => by
    obtain ⟨r, _, _, hr⟩ := Fe.gone e he b hq
    exact G1.okeep r b hr hb⟩
  have key := G.came G1 F hDD (E2' ++ E1') (dst := o.dst) (x := (tupW zs)) (v := tupV (ofRs κ (A.fa g).res (splitR (A.fa g).res (backs (A.fa g).hand) x).1).1) hd hn hkey
    (fun b => b < w.heap.size ∧ ∀ e ∈ E, ¬ e.Q b) hke hsame h31 (fun b hb => hE0 b (hD0 b hb)) (fun r ob b hr hb => ⟨(G1.olt r b hb).1, fun e he hq => by
      obtain ⟨r', hr', _, ho⟩ := Fe.gone e he b hq
      have := G1.odis r r' b hb ho
      rw [this, hr'] at hr; cases hr⟩) h32 h33
    (fun e he b hb => by
      obtain ⟨g1, g2, g3⟩ := hQ3 e.Q (List.mem_map.2 ⟨e, he, rfl⟩) b hb
      exact ⟨g1, g2, fun h => g3 (h34 b h)⟩) hdis hos htape hout hsz (fun h η' T => by
      obtain ⟨g1, g2⟩ := q3 h η' T.right
      refine ⟨fun e he => ?_, tup_ok g2⟩
      rcases List.mem_append.1 he with he | he
      · exact p3 h η' T.left e he
      · exact g1 e he)
  have e : hpE E2' ++ (hpE E1' ++ u) = hpE (E2' ++ E1') ++ u := by simp [hpE]
  rw [e]; exact key

/-- Rows that a call writes over. -/
theorem RelG.marked (G : RelG B D η O σ a w) {dst : Option Nat} (hd : ∀ d, dst = some d → d < B.N) (Chg : Nat → Prop) {w' : World} {u : Heap}
    (hoth : ∀ b, b < w.heap.size → (∀ r, Chg r → ¬ O r b) → w'.heap[b]? = w.heap[b]?) (hsz : w.heap.size ≤ w'.heap.size)
    (hos : w'.os = w.os) (htape : w'.tape = w.tape) (hout : w'.output = w.output)
    (hchg : ∀ r, Chg r → ∃ (t : Ty) (n v v' : Nat) (xs zs : List t.den) (hv : Value), look σ.h r = some (.row t n v false xs) ∧ η r = .row hv ∧ OwnE w' D (.sl t) (n + 1) zs [hv] (O r) ∧ look (u ++ σ.h) r = some (.row t n v' false zs) ∧ fnd σ.h v' = none ∧ (fnd (u ++ σ.h) v').isSome)
    (hother : ∀ r, ¬ Chg r → look (u ++ σ.h) r = look σ.h r) {val : V} {x : Value} (hval : Vr w' D η (u ++ σ.h) val x) : RelG B D η O (σ.after dst val u) (a.put dst x) w' := by
  have hDs : Same D w w' := fun k hk => hoth k (G.dlt k hk) (fun r _ h => (G.olt r k h).2 hk)
  have hOs : ∀ r, ¬ Chg r → Same (O r) w w' := fun r hr k hk => hoth k (G.olt r k hk).1 (fun r' hr' h => hr ((G.odis r r' k hk h) ▸ hr'))
  have E : Evo w D η σ.h w' D η (u ++ σ.h) := G.evo (fun _ h => h) hDs (fun _ _ => rfl) (fun r hr => by
    by_cases e : Chg r
    · obtain ⟨t, n, v, v', xs, zs, hv, h1, h2, h3, h4, h5, h6⟩ := hchg r e
      have hne : v' ≠ v := fun e => by
        obtain ⟨_, _, _, h7⟩ := G.objs r _ h1
        rw [← e, h5] at h7; cases h7
      refine .row t n v false xs n v' false zs h1 h4 (.inr h5) (fun hv' he => ⟨fun is hc hval => ?_, fun hc => absurd hc hne⟩)
      rcases hc with rfl | hc
      · exact ⟨by cases t <;> trivial, by simp [hdrAt]⟩
      · exact absurd hc hne
    · exact .same (hother r e) (hOs r e))
  refine G.go hd E hos htape hout hsz (fun k hk => hoth k (Nat.lt_of_lt_of_le (G.klt k hk) G.size) (fun r _ h => G.okeep r k h hk)) G.okeep (fun k hk => Nat.lt_of_lt_of_le (G.dlt k hk) hsz) (fun _ h => .inl h) (fun r k hk => ⟨Nat.lt_of_lt_of_le (G.olt r k hk).1 hsz, (G.olt r k hk).2⟩) G.odis ?_ hval
  intro r ob hr
  by_cases e : Chg r
  · obtain ⟨t, n, v, v', xs, zs, hv, h1, h2, h3, h4, h5, h6⟩ := hchg r e
    rw [h4] at hr; cases hr
    exact ⟨hv, h2, h3, h6⟩
  · rw [hother r e] at hr
    exact (G.objs r ob hr).mono E (look_some_isSome hr) (hOs r e)
/-- A call of a value is sound. -/
theorem calls_ok {A : Ann} {S : Sm A} (HS : Calld P S) (HM : MarksOk P A) : HCall P S := by
  intro B D η O σ a w o next Q R r K κ G hn hd c f g caps ho hc hf h
  unfold callV at h
  split at h
  case h_1 =>
    rename_i hm
    obtain ⟨⟨fn, hfn, hbody, hname⟩, HC⟩ := HM g hm
    have hvf := G.eval f
    rw [hf] at hvf
    obtain ⟨cs, ef, Hcaps, _⟩ := fn_of (D' := D) (l' := []) hvf
    have Hall : Cells w D η σ.h (c.args.toList.map σ.eval ++ caps) ((c.args.map a.eval).toList ++ cs.toList) := by
      rw [Array.toList_map]; exact cells_append (cells_list G) Hcaps
    have hrun : (execOp a.eval o).run P w = .ok (.enter g ((c.args.map a.eval) ++ cs)) w := by
      have hname : ¬ (fn.name = "runtime.NumGoroutine") := by simpa using hname
      have hbody : ¬ (fn.body = none) := by intro e; rw [e] at hbody; cases hbody
      simp [execOp, ho, resolve, hc, ef, Deferred.ofValue, invoke, callFunc, hfn, hbody, hname]
    unfold Oper.wp
    rw [hrun, Oper.upon_enter]
    have hl : ((c.args.map a.eval) ++ cs).toList = (c.args.map a.eval).toList ++ cs.toList := by simp
    rw [← hl] at Hall
    generalize (c.args.map a.eval) ++ cs = zargs at Hall ⊢
    generalize c.args.toList.map σ.eval ++ caps = vs at h Hall
    unfold markV at h
    split at h
    case h_2 => cases h
    rename_i bI r1 v1 t1 r2 v2 t2 k
    split at h
    case h_2 => cases h
    rename_i n1 u1 xs n2 u2 gs hq1 hq2 hκ
    split at h
    case h_2 => cases h
    rename_i hn2
    obtain ⟨hk, h⟩ := ifE_some h
    obtain ⟨za, zs1, e1, va, H1⟩ := Hall.cons
    obtain ⟨zk, zs2, e2, vk, H2⟩ := H1.cons
    obtain rfl : zs2 = [] := List.eq_nil_of_length_eq_zero H2.1
    subst e2
    obtain rfl := vr_int vk
    obtain ⟨ca, rfl, hs, hlf, hr⟩ := vr_agg va
    have hlen : ca.toList.length = 3 := by simpa using hs
    obtain ⟨c0, s1, s2, hcs⟩ : ∃ c0 c1 c2, ca.toList = [c0, c1, c2] := by
      match h : ca.toList, hlen with
      | [a, b, c], _ => exact ⟨a, b, c, rfl⟩
    obtain rfl : ca = #[c0, s1, s2] := Array.ext' hcs
    obtain rfl := vr_int (hr 0 (by show 0 < 3; decide))
    have w1 : Vr w D η σ.h (.ref r1 [] v1 t1) s1 := hr 1 (by show 1 < 3; decide)
    have w2 : Vr w D η σ.h (.ref r2 [] v2 t2) s2 := hr 2 (by show 2 < 3; decide)
    obtain ⟨g1, o1⟩ := G.whole w1 hq1
    obtain ⟨g2, o2⟩ := G.whole w2 hq2
    have hne : r1 ≠ r2 := fun e => by subst e; rw [hq1] at hq2; cases hq2
    have hκn := fresh_none hκ
    have hκ1 : r1 ≠ κ := fun e => by have := look_some_isSome hq1; rw [e, hκn] at this; cases this
    have hκ2 : r2 ≠ κ := fun e => by have := look_some_isSome hq2; rw [e, hκn] at this; cases this
    obtain rfl : zargs = #[.agg #[.int .i64 bI, s1, s2], .int .i64 k] := Array.ext' e1
    refine (HC w D bI k s1 s2 n1 n2 xs gs (O r1) (O r2) o1 (Nat.le_of_ble_eq_true hn2) o2 (fun b h1 => ⟨(G.olt r1 b h1).1, fun h2 => hne (G.odis r1 r2 b h1 h2)⟩) (fun b h => (G.olt r2 b h).1) (fun b hb => ⟨G.dlt b hb, fun h => (G.olt r1 b h).2 hb, fun h => (G.olt r2 b h).2 hb⟩) hk.1 hk.2).mono fun e w' he => ?_
    cases e with
    | panicked chain => exact he.elim
    | outgrown => exact he.elim
    | returned v =>
      obtain ⟨rfl, p1, p2, p3, p4, p5, p6, p7⟩ := he
      refine hn _ _ _ w' h ⟨D, η, O, G.marked hd (fun r => r = r1 ∨ r = r2) (fun b hb hno => p3 b hb (hno r1 (.inl rfl)) (hno r2 (.inr rfl))) p4 p5 p6 p7 (fun r hr => ?_) (fun r hr => ?_) (mk_int _ _)⟩
      · rcases hr with rfl | rfl
        · exact ⟨_, n1, u1, κ, xs, _, s1, hq1, g1, p1, by simp [look, fnd_cons], hκn, by simp [fnd_cons, hκ1, hκ2]⟩
        · exact ⟨_, n2, u2, κ, gs, _, s2, hq2, g2, p2, by simp [look, fnd_cons, hne], hκn, by simp [fnd_cons, hκ1, hκ2]⟩
      · have h1 : r1 ≠ r := fun e => hr (.inl e.symm)
        have h2 : r2 ≠ r := fun e => hr (.inr e.symm)
        by_cases hk : κ = r
        · subst hk; simp [look, fnd_cons, h1, h2, hκn]
        · simp [look, fnd_cons, h1, h2, hk]
  unfold callN at h
  split at h
  case h_2 => cases h
  rename_i vs u b q hargs
  cases hcall : S.call g vs with
  | none => rw [hcall] at h; cases h
  | some x =>
  rw [hcall] at h
  simp only [Option.bind_some] at h
  split at h
  case h_2 => cases h
  rename_i hal hfr hfz hok
  obtain ⟨⟨fn, hfn, hbody, hname⟩, HC⟩ := HS g vs x hcall
  have hvf := G.eval f
  rw [hf] at hvf
  obtain ⟨cs, ef, Hcaps, _⟩ := fn_of (D' := D) (l' := []) hvf
  have Hall : Cells w D η σ.h (c.args.toList.map σ.eval ++ caps) ((c.args.map a.eval).toList ++ cs.toList) := by
    rw [Array.toList_map]; exact cells_append (cells_list G) Hcaps
  have hrun : (execOp a.eval o).run P w = .ok (.enter g ((c.args.map a.eval) ++ cs)) w := by
    have hname : ¬ (fn.name = "runtime.NumGoroutine") := by simpa using hname
    have hbody : ¬ (fn.body = none) := by intro e; rw [e] at hbody; cases hbody
    simp [execOp, ho, resolve, hc, ef, Deferred.ofValue, invoke, callFunc, hfn, hbody, hname]
  unfold Oper.wp
  rw [hrun, Oper.upon_enter]
  have hl : ((c.args.map a.eval) ++ cs).toList = (c.args.map a.eval).toList ++ cs.toList := by simp
  rw [← hl] at Hall
  generalize (c.args.map a.eval) ++ cs = zargs at Hall ⊢
  have fin : ∀ {D1 D0 : Bs} {O1 : Nat → Bs} {E : List Ent}, RelG B D1 η O1 (σ.after none .un u) a w → FrzO σ.h (u ++ σ.h) O O1 → (∀ b, D b → D1 b) → (∀ b, D1 b → D0 b) →
      (D0 = D1 ∨ tightR (A.fa g).outs = true) → Fl O1 σ.h (u ++ σ.h) E → BxOk η (A.fa g).hand σ.h (u ++ σ.h) O1 0 zargs.toList b →
      (∀ b, D0 b → b < w.heap.size ∧ ∀ e ∈ E, ¬ e.Q b) → GVs w D0 0 vs zargs.toList E →
      Calls P g zargs w fun
        | .returned v, w'' => next (a.put o.dst v) w''
        | .panicked chain, w'' => Q (.panic chain) a w''
        | .outgrown, _ => LetsOut Q := by
    intro D1 D0 O1 E G1 F hDD hD0 hor Fe Bx hE0 HG
    refine (HC w (fun b => b < w.heap.size ∧ ∀ e ∈ E, ¬ e.Q b) D0 zargs E (fun b hb => hb.1) hE0 HG (fun e he b hb => ?_) Fe.dis).mono (fun e w' he => ?_)
    · obtain ⟨r', _, _, ho⟩ := Fe.gone e he b hb
      exact ⟨(G1.olt r' b ho).1, fun hk => hk.2 e he hb⟩
    · cases e with
      | returned v => exact hn _ _ v w' h (call_end G hd G1 F hDD hD0 hor Fe Bx hE0 hfr hfz hok he)
      | panicked chain => exact he.elim
      | outgrown => exact he.elim
  cases hb : tightR (A.fa g).outs with
  | false =>
    rw [hb] at hargs
    obtain ⟨D1, O1, E, G1, hDD, F, HG, Fe, Bx⟩ := argVs_frz _ G Hall hargs
    exact fin G1 F hDD (fun _ h => h) (.inl rfl) Fe Bx (fun b hb => ⟨G1.dlt b hb, fun e he hq => by
      obtain ⟨r', _, _, ho⟩ := Fe.gone e he b hq
      exact (G1.olt r' b ho).2 hb⟩) HG
  | true =>
    rw [hb] at hargs
    obtain ⟨E, G1, F, HG, Fe, Bx⟩ := argVs_lent _ G Hall hargs (Dc := fun b => D b ∨ ∃ r ∈ q, O r b) (fun b h => .inl h) (fun r hr b hb => .inr ⟨r, hr, hb⟩)
    have hal' : ∀ {q : List Nat} {h : Heap}, alive h q = true → ∀ r ∈ q, look h r ≠ none := by
      intro q
      induction q with
      | nil => intro h _ r hr; simp at hr
      | cons r0 q ih =>
        intro h hq r hr
        simp only [alive] at hq
        split at hq
        · rename_i o ho
          rcases List.mem_cons.1 hr with rfl | hr
          · rw [ho]; simp
          · exact ih hq r hr
        · cases hq
    refine fin G1 F (fun _ h => h) (fun b h => .inl h) (.inr hb) Fe Bx (fun b hb => ?_) HG
    rcases hb with hb | ⟨r, hr, hb⟩
    · exact ⟨G.dlt b hb, fun e he hq => by
        obtain ⟨r', _, _, ho⟩ := Fe.gone e he b hq
        exact (G1.olt r' b ho).2 hb⟩
    · exact ⟨(G.olt r b hb).1, fun e he hq => by
        obtain ⟨r', hr', _, ho⟩ := Fe.gone e he b hq
        have := G.odis r r' b hb ho
        subst this
        exact hal' hal r hr hr'⟩
end
end Go.Proofs.YtpoppblfnaipbaaDoor.Eng
/-! ## The engine: a call's end. -/
namespace Go.Proofs.YtpoppblfnaipbaaDoor.Eng
open Go
set_option autoImplicit false
set_option linter.unusedVariables false
set_option linter.unusedSimpArgs false

section
variable {P : Program} {B : Base} {D : Bs} {η : Nat → Gh} {O : Nat → Bs} {σ : St} {a : Act} {w : World}

def resF (tmps : Array Value) : ResultVar → Sem Value
  | .tmp t => pure (tmps.getD t undef)
  | .cell c t => do loadVar t (← asAddr (tmps.getD c undef))
theorem resF_ok {A : Ann} (W : WF P A) (G : RelG B D η O σ a w) {rv : ResultVar} {v : V} (h : resV A σ rv = some v) : ∃ z, Vr w D η σ.h v z ∧ (resF a.tmps rv).run P w = .ok z w := by
  cases rv with
  | tmp i =>
    simp only [resV] at h
    cases h
    refine ⟨a.tmps.getD i undef, ?_, by simp [resF]⟩
    unfold St.get
    split
    · rename_i v hv; exact (G.tmps i v hv).2
    · exact .un _
  | cell i T =>
    simp only [resV] at h
    split at h
    case h_2 => cases h
    rename_i q c t hx ht
    split at h
    case h_2 => cases h
    rename_i l hq
    obtain ⟨i', d, F⟩ := W.facts ht
    have hv : Vr w D η σ.h (.ptr q c) (a.tmps.getD i undef) := by
      have := get_some hx (by simp)
      exact (G.tmps i _ this).2
    obtain ⟨b, cs, T', h1, h2, h3, h4, h5⟩ := G.box hv hq
    obtain ⟨v', y, hK, hv', hrun⟩ := getC_run F (o := c) (b := b) (fun j => cs.getD j undef) (fun j hj => ⟨cell_row h3 (by omega), h5 j hj⟩) h
    cases hK
    exact ⟨y, hv', by simp only [resF, h1, asAddr, Sem.run_bind, Sem.run_pure, Result.andThen_ok, hrun]⟩
theorem resFs_ok {A : Ann} (W : WF P A) (G : RelG B D η O σ a w) : ∀ (rs : List ResultVar) {vs : List V}, resVs A σ rs = some vs → ∃ zs, Cells w D η σ.h vs zs ∧ zs.length = rs.length ∧ (rs.mapM (resF a.tmps)).run P w = .ok zs w
  | [], vs, h => by
    simp only [resVs] at h
    cases h
    exact ⟨[], ⟨rfl, fun i hi => absurd hi (Nat.not_lt_zero _)⟩, rfl, by simp⟩
  | r :: rs, vs, h => by
    simp only [resVs] at h
    split at h
    case h_2 => cases h
    rename_i v l h1 h2
    cases h
    obtain ⟨z, hz, hr⟩ := resF_ok W G h1
    obtain ⟨zs, hzs, hlen, hrs⟩ := resFs_ok W G rs h2
    refine ⟨z :: zs, ⟨by simp [hzs.1], fun i hi => ?_⟩, by simp [hlen], ?_⟩
    · cases i with
      | zero => exact hz
      | succ i => exact hzs.2 i (by simpa using hi)
    · simp only [List.mapM_cons, Sem.run_bind, hr, Result.andThen_ok, hrs, Sem.run_pure]
theorem results_run {fn : Func} {zs : List Value} (h : (fn.results.toList.mapM (resF a.tmps)).run P w = .ok zs w) : (results fn a.tmps).run P w = .ok (tupW zs) w := by
  have e : results fn a.tmps = (do let vs ← fn.results.mapM (resF a.tmps); pure (if h : vs.size = 1 then vs[0] else .tuple vs)) := rfl
  rw [e, Array.mapM_eq_mapM_toList]
  simp only [map_eq_pure_bind, Sem.run_bind, h, Result.andThen_ok, Sem.run_pure]
  match zs with
  | [] => rfl
  | [z] => rfl
  | z :: z' :: zs => simp [tupW]
/-- Handed boxes, at the end. -/
theorem handed_ok (G : RelG B D η O σ a w) {args : List Value} : ∀ {hand : List (Nat × RV)}, (∀ i ls, (i, RV.ptr ls) ∈ hand → ∃ b, B.hand i b ∧ args.getD i undef = .pointer (some ⟨b, 0, none⟩)) → Cells w D η σ.h (handed hand) (handedW args hand)
  | [], _ => ⟨rfl, fun i hi => absurd hi (Nat.not_lt_zero _)⟩
  | (i, r) :: hand, H => by
    have rest := handed_ok G (args := args) (hand := hand) (fun i ls h => H i ls (List.mem_cons_of_mem _ h))
    cases r with
    | ptr ls =>
      obtain ⟨b, h1, h2⟩ := H i ls List.mem_cons_self
      obtain ⟨h3, h4⟩ := G.hb i b h1
      refine ⟨by simp [handed, handedW, rest.1], fun j hj => ?_⟩
      cases j with
      | zero =>
        show Vr w D η σ.h (.ptr i 0) (args.getD i undef)
        rw [h2]
        exact .ptr i 0 _ Leaf.pointer h3 (fun l b' hl he => by rw [h4] at he; cases he; rfl)
      | succ j => exact rest.2 j (by simpa [handed] using hj)
    | _ => exact rest
theorem handedW_len {args : List Value} : ∀ {hand : List (Nat × RV)}, (handedW args hand).length = (backs hand).length
  | [] => rfl
  | (i, r) :: hand => by
    cases r with
    | ptr ls => simp [handedW, backs, handedW_len (hand := hand)]
    | _ => exact handedW_len (hand := hand)
theorem FRs.len : ∀ {as : List RV} {x : denR as} {zs : List Value} {E : List Ent}, FRs w D as x zs E → zs.length = as.length
  | [], _, _, _, H => by rw [H.1]; rfl
  | [a], _, _, _, H => by obtain ⟨z, rfl, _⟩ := H; rfl
  | a :: b :: r, x, zs, E, H => by
    obtain ⟨z, zs', E1, E2, rfl, _, _, h4⟩ := H
    simp [FRs.len (as := b :: r) h4]
/-- A call's end. -/
theorem end_ok {A : Ann} {f : Nat} (W : WF P A) {fn : Func} {args : List Value} {x : A.out f} {xt : Xt} (hR : Rel B σ a w)
    (hand : ∀ i ls, (i, RV.ptr ls) ∈ (A.fa f).hand → ∃ b, B.hand i b ∧ args.getD i undef = .pointer (some ⟨b, 0, none⟩)) (h : K0 A f fn xt σ = some x) :
    bodyPost P fn (fun e w' => match e with | .returned v => Ret A f B.w0 B.keep B.D0 args x v w' | _ => False) (ex xt) a w := by
  obtain ⟨D, η, O, G⟩ := hR
  have key : (match resVs A σ fn.results.toList with | some vs => toRs σ.h (A.fa f).outs (vs ++ handed (A.fa f).hand) | none => none) = some x →
      a.defers = [] ∧ ∃ v, (results fn a.tmps).run P w = .ok v w ∧ Ret A f B.w0 B.keep B.D0 args x v w := by
    intro h
    split at h
    case h_2 => cases h
    rename_i vs hvs
    obtain ⟨zs, hzs, hlen, hrun⟩ := resFs_ok W G _ hvs
    obtain ⟨D', O', σ', E, G', h1, h2, h3, h4⟩ := toRs_ok (A.fa f).outs G (cells_append hzs (handed_ok G hand)) h
    refine ⟨G.defers, tupW zs, results_run hrun, ⟨⟨D', zs, _, E, rfl, ?_, rfl, h3, G'.base, G'.dbase, G'.dlt, fun e he b hb => ?_, h4.dis⟩, G.os, G.tape, G.output, G.size, G.keep⟩⟩
    · have l1 := h3.len
      have l2 : (handedW args (A.fa f).hand).length = (backs (A.fa f).hand).length := handedW_len
      simp only [List.length_append, FA.outs] at l1
      omega
    · obtain ⟨r, _, _, hr⟩ := h4.gone e he b hb
      exact ⟨G'.okeep r b hr, (G'.olt r b hr).1, (G'.olt r b hr).2⟩
  cases xt with
  | normal => exact key h
  | ret => exact key h
  | exit i => simp [K0] at h
end
end Go.Proofs.YtpoppblfnaipbaaDoor.Eng
/-! ## The engine: every round is sound. -/
namespace Go.Proofs.YtpoppblfnaipbaaDoor.Eng
open Go
set_option autoImplicit false
set_option linter.unusedVariables false
set_option linter.unusedSimpArgs false

theorem dstsOk_mono {N M : Nat} (h : N ≤ M) (c : Code) : dstsOk N c = true → dstsOk M c = true := by
  fun_induction dstsOk N c with
  | case1 id ops dr =>
    intro H
    simp only [dstsOk, List.all_eq_true, Bool.and_eq_true] at H ⊢
    refine ⟨?_, H.2⟩
    intro o ho
    have := H.1 o ho
    split at this
    · rename_i d _; have := blt_of this; simp; omega
    · rfl
  | case2 a b iha ihb => intro H; simp only [dstsOk, Bool.and_eq_true] at H ⊢; exact ⟨iha H.1, ihb H.2⟩
  | case3 _ a b iha ihb => intro H; simp only [dstsOk, Bool.and_eq_true] at H ⊢; exact ⟨iha H.1, ihb H.2⟩
  | case4 _ b ih => intro H; simp only [dstsOk] at H ⊢; exact ih H
  | case5 b ih => intro H; simp only [dstsOk] at H ⊢; exact ih H
  | case6 c h1 h2 h3 h4 h5 => intro _; unfold dstsOk; split <;> first | rfl | (exfalso; first | exact h1 _ _ _ rfl | exact h2 _ _ rfl | exact h3 _ _ _ rfl | exact h4 _ _ rfl | exact h5 _ rfl)
theorem pos_snoc : ∀ (p : List Bool) (n : Nat) (b : Bool), pos n (p ++ [b]) = 2 * pos n p + (match b with | true => 1 | false => 0)
  | [], n, b => by cases b <;> simp [pos]
  | false :: p, n, b => pos_snoc p _ b
  | true :: p, n, b => pos_snoc p _ b
theorem pos_ge (p : List Bool) : p.length < pos 1 p := by
  induction h : p.length generalizing p with
  | zero => obtain rfl := List.eq_nil_of_length_eq_zero h; simp [pos]
  | succ n ih =>
    obtain ⟨q, b, rfl⟩ : ∃ q b, p = q ++ [b] := by
      have hne : p ≠ [] := by intro e; simp [e] at h
      exact ⟨p.dropLast, p.getLast hne, by simp [List.dropLast_concat_getLast]⟩
    have := ih q (by simpa using h)
    rw [pos_snoc]; omega
theorem bits_step (k m : Nat) (hm : 0 < m) (b : Bool) (l : List Bool) : bits (k + 1) (2 * m + (match b with | true => 1 | false => 0)) l = bits k m (b :: l) := by
  have aux : ∀ n c : Nat, n = 2 * m + c → c < 2 → Nat.beq n 1 = false ∧ n / 2 = m ∧ n % 2 = c := fun n c h hc => by
    refine ⟨?_, by omega, by omega⟩
    cases hb : Nat.beq n 1 with
    | false => rfl
    | true => have := Nat.eq_of_beq_eq_true hb; omega
  cases b with
  | false =>
    obtain ⟨h1, h2, h3⟩ := aux (2 * m + 0) 0 rfl (by omega)
    show bits (k + 1) (2 * m + 0) l = _
    rw [bits, h1, h2, h3]
  | true =>
    obtain ⟨h1, h2, h3⟩ := aux (2 * m + 1) 1 rfl (by omega)
    show bits (k + 1) (2 * m + 1) l = _
    rw [bits, h1, h2, h3]
theorem bits_pos : ∀ (k : Nat) (p : List Bool) (l : List Bool), p.length < k → bits k (pos 1 p) l = p ++ l
  | 0, p, l, h => absurd h (Nat.not_lt_zero _)
  | k + 1, p, l, h => by
    by_cases hp : p = []
    · subst hp; simp [bits, pos]
    · obtain ⟨q, b, rfl⟩ : ∃ q b, p = q ++ [b] := ⟨p.dropLast, p.getLast hp, by simp [List.dropLast_concat_getLast]⟩
      have hq := pos_ge q
      rw [pos_snoc, bits_step k _ (by omega), bits_pos k q (b :: l) (by simp at h; omega)]
      simp

section
variable {P : Program} {A : Ann}
theorem WF.fn (W : WF P A) {f : Nat} {a : FA} (h : fnd A.fns f = some a) : funOk P f = true ∧ annOk a = true := by
  have := W.ok; simp only [progOk, Bool.and_eq_true] at this
  have := all_fnd (p := fun (p : Nat × FA) => funOk P p.1 && annOk p.2) (by simpa using this.2) h
  simpa using this
theorem fa_of {f : Nat} {a : FA} (h : fnd A.fns f = some a) : A.fa f = a := by simp [Ann.fa, h]
theorem cut_of {a : FA} {n : Nat} (h : annOk a = true) : a.cut n = [] ∨ (cutOk (a.cut n) = true ∧ boxesAt (a.cut n) a.hand = true) := by
  unfold FA.cut
  cases e : fnd a.cuts n with
  | none => exact .inl rfl
  | some l =>
    right
    have := all_fnd (p := fun (c : Nat × List (Nat × SK)) => cutOk c.2 && boxesAt c.2 a.hand) h e
    simpa using this
theorem boxes_at {ks : List (Nat × SK)} : ∀ {hand : List (Nat × RV)}, boxesAt ks hand = true → ∀ i ls, (i, RV.ptr ls) ∈ hand → boxAt i ks = true
  | [], _, i, ls, h => by simp at h
  | (j, r) :: hand, H, i, ls, h => by
    cases r with
    | ptr ls' =>
      simp only [boxesAt, Bool.and_eq_true] at H
      rcases List.mem_cons.1 h with e | h
      · cases e; exact H.1
      · exact boxes_at H.2 i ls h
    | _ =>
      rcases List.mem_cons.1 h with e | h
      · cases e
      · exact boxes_at (hand := hand) H i ls h
theorem hframe (W : WF P A) {f : Nat} {a : FA} (h : fnd A.fns f = some a) {B : Base} (hB : ∀ i b, B.hand i b → ∃ ls, (i, RV.ptr ls) ∈ a.hand) : HFrame A f B := by
  intro n x σ ac w hne hx hR
  have hfa := fa_of h
  rcases cut_of (n := n) (W.fn h).2 with e | ⟨e1, e2⟩
  · rw [hfa] at hne; exact absurd e hne
  · have e1 : cutOk ((A.fa f).cut n) = true := by rw [hfa]; exact e1
    have e2 : boxesAt ((A.fa f).cut n) a.hand = true := by rw [hfa]; exact e2
    exact frame_ok e1 (fun i b h => by obtain ⟨ls, hm⟩ := hB i b h; exact boxes_at e2 i ls hm) hx hR
theorem handOk_at : ∀ {hand : List (Nat × RV)} {vs : List V}, handOk hand vs = true → ∀ i ls, (i, RV.ptr ls) ∈ hand → ∃ l, nth vs i = some (.bx l)
  | [], vs, _, i, ls, h => by simp at h
  | (j, r) :: hand, vs, H, i, ls, h => by
    cases r with
    | ptr ls' =>
      simp only [handOk] at H
      split at H
      case h_2 => cases H
      rename_i l hl
      rcases List.mem_cons.1 h with e | h
      · cases e; exact ⟨l, hl⟩
      · exact handOk_at H i ls h
    | _ =>
      rcases List.mem_cons.1 h with e | h
      · cases e
      · exact handOk_at (hand := hand) H i ls h
theorem GVs.bx_at {w : World} {D : Bs} {l : List V} : ∀ {vs : List V} {i j : Nat} {zs : List Value} {E : List Ent}, GVs w D i vs zs E → nth vs j = some (.bx l) → ∃ b, (∃ e ∈ E, e.κ = i + j ∧ e.gh = .box b) ∧ zs.getD j undef = .pointer (some ⟨b, 0, none⟩)
  | [], i, j, zs, E, H, h => by simp [nth] at h
  | v :: vs, i, 0, zs, E, H, h => by
    cases H with
    | cons _ _ _ z zs E1 E2 g t =>
      simp only [nth, Option.some.injEq] at h
      subst h
      cases g with
      | v _ _ h1 h2 _ => exact absurd rfl (h2 l)
      | bx _ b c T hb hc => exact ⟨b, ⟨_, List.mem_append_left _ List.mem_cons_self, rfl, rfl⟩, rfl⟩
  | v :: vs, i, j + 1, zs, E, H, h => by
    cases H with
    | cons _ _ _ z zs E1 E2 g t =>
      obtain ⟨b, ⟨e, he, h1, h2⟩, h3⟩ := GVs.bx_at t (j := j) h
      exact ⟨b, ⟨e, List.mem_append_right _ he, by omega, h2⟩, h3⟩

/-- Functions that are told are as told. -/
def ExtOk (P : Program) (A : Ann) (X : Ext A) : Prop := ∀ (S : Sm A), Calld P S → ∀ f vs x, X.on f = true → X.call S f vs = some x → Enters P f ∧ CallOk P A f vs x
/-- A round is sound. -/
structure Sound (P : Program) {A : Ann} (S : Sm A) : Prop where
  call : Calld P S
  cut : ∀ {f : Nat} {fn : Func} {b : Code} {a : FA}, P.funcs[f]? = some fn → fn.body = some b → fnd A.fns f = some a → ∀ {B : Base} {r : A.out f} {Q : Exit → Act → World → Prop}, dstsOk B.N b = true → (∀ i b, B.hand i b → ∃ ls, (i, RV.ptr ls) ∈ a.hand) →
    (∀ e σ' a' w', K0 A f fn e σ' = some r → Rel B σ' a' w' → Q (ex e) a' w') → CutsOk P S f B r 1 b Q
theorem sound (W : WF P A) (HM : MarksOk P A) (HD : ∀ S : Sm A, HCall P S → HDraw P S) {X : Ext A} (HX : ExtOk P A X) : ∀ k, Sound P (sem P A X k)
  | 0 => ⟨fun g vs x h => by simp [sem] at h, fun _ _ _ B r Q _ _ _ p c' _ x h => by simp [sem] at h⟩
  | k + 1 => by
    have ih := sound W HM HD HX k
    have HC : HCall P (sem P A X k) := calls_ok ih.call HM
    have HDr : HDraw P (sem P A X k) := HD _ HC
    refine ⟨fun f vs x h => ?_, ?_⟩
    · simp only [sem, next] at h
      split at h
      · rename_i hon; exact HX _ ih.call f vs x hon h
      · split at h
        case h_2 => cases h
        rename_i fn a hf ha
        split at h
        case h_2 => cases h
        rename_i b hb
        split at h
        case h_2 => cases h
        rename_i hh
        have hfa := fa_of ha
        have hfun : dstsOk fn.ntmps b = true ∧ (fn.name == "runtime.NumGoroutine") = false := by
          have := (W.fn ha).1
          simp only [funOk, hf, hb, Bool.and_eq_true, Bool.not_eq_true'] at this
          exact this
        refine ⟨⟨fn, hf, by rw [hb]; rfl, hfun.2⟩, fun w keep D0 args E hk hD HG hE hdis => ?_⟩
        refine calls_of_wp hf hb ?_
        have hR := entry_ok fn.ntmps hk hD HG hE hdis
        have hbx : ∀ i ls, (i, RV.ptr ls) ∈ (A.fa f).hand → ∃ b, (∃ e ∈ E, e.κ = i ∧ e.gh = .box b) ∧ args.toList.getD i undef = .pointer (some ⟨b, 0, none⟩) := fun i ls hm => by
          obtain ⟨l, hl⟩ := handOk_at hh i ls hm
          obtain ⟨b, ⟨e, h1, h2, h3⟩, h4⟩ := HG.bx_at hl
          exact ⟨b, ⟨e, h1, by omega, h3⟩, h4⟩
        -- the base, with the handed boxes alone
        have hR : Rel ⟨w, keep, D0, (args ++ Array.replicate (fn.ntmps - args.size) undef).size, fun i b => (∃ e ∈ E, e.κ = i ∧ e.gh = .box b) ∧ ∃ ls, (i, RV.ptr ls) ∈ a.hand⟩ (entry 0 vs) { tmps := args ++ Array.replicate (fn.ntmps - args.size) undef, defers := [] } w := by
          obtain ⟨D, η, O, G⟩ := hR
          exact ⟨D, η, O, ⟨G.os, G.tape, G.output, G.size, G.keep, G.klt, G.okeep, G.dlt, G.dbase, G.base, G.olt, G.odis, G.objs, G.tmps, G.defers, G.tsz, fun i b h => G.hb i b h.1⟩⟩
        generalize hB : (⟨w, keep, D0, (args ++ Array.replicate (fn.ntmps - args.size) undef).size, fun i b => (∃ e ∈ E, e.κ = i ∧ e.gh = .box b) ∧ ∃ ls, (i, RV.ptr ls) ∈ a.hand⟩ : Base) = B at hR
        have hd : dstsOk B.N b = true := dstsOk_mono (by rw [← hB]; simp; omega) b hfun.1
        have hhand : ∀ i b, B.hand i b → ∃ ls, (i, RV.ptr ls) ∈ a.hand := by rw [← hB]; exact fun i b h => h.2
        have hend : ∀ e σ' a' w', K0 A f fn e σ' = some x → Rel B σ' a' w' → bodyPost P fn (fun e w' => match e with | .returned v => Ret A f w keep D0 args.toList x v w' | _ => False) (ex e) a' w' := by
          intro e σ' a' w' h1 h2
          have := end_ok W (args := args.toList) h2 (fun i ls hm => by
            obtain ⟨b, h3, h4⟩ := hbx i ls hm
            rw [hfa] at hm
            exact ⟨b, by rw [← hB]; exact ⟨h3, ls, hm⟩, h4⟩) h1
          have e1 : B.w0 = w := by rw [← hB]
          have e2 : B.keep = keep := by rw [← hB]
          have e3 : B.D0 = D0 := by rw [← hB]
          rw [e1, e2, e3] at this
          exact this
        have HF := hframe W ha hhand
        have HCu := ih.cut hf hb ha (Q := bodyPost P fn (fun e w' => match e with | .returned v => Ret A f w keep D0 args.toList x v w' | _ => False)) hd hhand hend
        exact goOn_ok HF HCu hR (fun h => ev_ok W HC HDr HF b 1 _ _ _ _ _ hd HCu hend hR h) h
    · intro f fn b a hf hb ha B r Q hd hhand hend p c' hc x h ac w hR
      have HF := hframe W ha hhand
      have HCu := ih.cut hf hb ha (Q := Q) hd hhand hend
      simp only [sem, next, hf, hb, ha] at h
      rw [bits_pos _ p [] (pos_ge p), List.append_nil] at h
      exact goTo_ok W HC HDr HF p b 1 _ Q _ ac w c' hc hd HCu hend hR h
end
end Go.Proofs.YtpoppblfnaipbaaDoor.Eng
/-! ## The engine: what an operation yields hangs on the roots that it names. -/
namespace Go.Proofs.YtpoppblfnaipbaaDoor.Eng
open Go
set_option autoImplicit false
set_option linter.unusedVariables false
set_option linter.unusedSimpArgs false

/-- Two heaps that agree on some roots. -/
def Ag (S : Nat → Prop) (h' h : Heap) : Prop := ∀ q, S q → fnd h' q = fnd h q
section
variable {S : Nat → Prop} {h' h : Heap}
theorem Ag.app (H : Ag S h' h) (u : Heap) : Ag S (u ++ h') (u ++ h) := fun q hq => by rw [fnd_append, fnd_append, H q hq]
theorem Ag.look (H : Ag S h' h) {q : Nat} (hq : S q) : look h' q = look h q := by unfold Eng.look; rw [H q hq]
def Nm (S : Nat → Prop) (v : V) : Prop := ∀ q ∈ named v, S q
def Nms (S : Nat → Prop) (l : List V) : Prop := ∀ q ∈ named.nameds l, S q
theorem Nms.head {v : V} {l : List V} (H : Nms S (v :: l)) : Nm S v := fun q hq => H q (by simp [named.nameds, hq])
theorem Nms.tail {v : V} {l : List V} (H : Nms S (v :: l)) : Nms S l := fun q hq => H q (by simp [named.nameds, hq])
theorem Nms.mem {l : List V} (H : Nms S l) {v : V} (hv : v ∈ l) : Nm S v := by
  induction l with
  | nil => simp at hv
  | cons v0 l ih =>
    rcases List.mem_cons.1 hv with rfl | hv
    · exact H.head
    · exact ih H.tail hv
theorem Nms.nil : Nms S [] := fun q hq => by simp [named.nameds] at hq
theorem Nms.cons {v : V} {l : List V} (H : Nm S v) (H' : Nms S l) : Nms S (v :: l) := fun q hq => by
  simp only [named.nameds, List.mem_append] at hq
  exact hq.elim (H q) (H' q)
theorem Nms.app {l l' : List V} (H : Nms S l) (H' : Nms S l') : Nms S (l ++ l') := by
  induction l with
  | nil => exact H'
  | cons v l ih => exact Nms.cons H.head (ih H.tail)
theorem Nm.cells {v : V} (H : Nm S v) : Nms S v.cells := by
  cases v with
  | agg l => exact fun q hq => H q (by simpa [named, V.cells] using hq)
  | k x => simp only [V.cells]; split <;> exact fun q hq => by simp [named.nameds, named] at hq
  | tup l => exact Nms.nil
  | un => exact Nms.nil
  | bx l => exact Nms.nil
  | ow t n x => exact Nms.nil
  | _ => exact Nms.cons H Nms.nil
theorem Nm.ref {r : Nat} {is : List Nat} {v : Nat} {t : Ty} (H : Nm S (.ref r is v t)) : S r := H r (by simp [named])
theorem Nm.rp {r : Nat} {is : List Nat} {v : Nat} {p : List Bool} {t : Ty} (H : Nm S (.rp r is v p t)) : S r := H r (by simp [named])
theorem Nm.ptr {r o : Nat} (H : Nm S (.ptr r o)) : S r := H r (by simp [named])
theorem Nm.fn {f : Nat} {l : List V} (H : Nm S (.fn f l)) : Nms S l := fun q hq => H q (by simpa [named] using hq)
theorem Nm.agg {l : List V} (H : Nm S (.agg l)) : Nms S l := fun q hq => H q (by simpa [named] using hq)

theorem rowOf_ag (H : Ag S h' h) {v : V} (hn : Nm S v) : rowOf h' v = rowOf h v := by
  cases v with
  | ref r is v t => simp only [rowOf, H.look hn.ref]
  | d t x => cases t <;> rfl
  | _ => rfl
theorem frz_ag (H : Ag S h' h) {r : Nat} (hr : S r) (is : List Nat) : frz h' r is = frz h r is := by
  unfold frz; rw [H.look hr]
theorem leafD_ag (H : Ag S h' h) (t : Ty) {v : V} (hn : Nm S v) : leafD h' t v = leafD h t v := by
  cases v with
  | ref r is v e => simp only [leafD, rowOf_ag H hn, frz_ag H hn.ref]
  | k x =>
    cases x with
    | slice a n c => cases a <;> cases n <;> cases c <;> rfl
    | bool b => rfl
    | _ => rfl
  | _ => rfl
theorem gather_ag : ∀ (t : Ty) {h' h : Heap} (H : Ag S h' h) {l : List V} (hn : Nms S l), gather h' t l = gather h t l
  | .pair a b, h', h, H, l, hn => by
    have e1 : gather h' (.pair a b) l = (match gather h' a l with
      | some (x, l, u) => (match gather (u ++ h') b l with | some (y, l, u') => some ((x, y), l, u' ++ u) | none => none)
      | none => none) := by cases l <;> rfl
    have e2 : gather h (.pair a b) l = (match gather h a l with
      | some (x, l, u) => (match gather (u ++ h) b l with | some (y, l, u') => some ((x, y), l, u' ++ u) | none => none)
      | none => none) := by cases l <;> rfl
    rw [e1, e2, gather_ag a H hn]
    split
    · rename_i x l1 u hg
      rw [gather_ag b (H.app u) (fun q hq => hn q (gather_sub a hg q hq))]
    · rfl
  | .tree, h', h, H, l, hn => by
    match l, hn with
    | [], _ => rfl
    | [_], _ => rfl
    | [_, _], _ => rfl
    | a :: b :: c :: l, hn =>
      simp only [gather, leafD_ag H .str hn.head, leafD_ag H (.int .i64) hn.tail.head, leafD_ag H .kids hn.tail.tail.head]
  | .unit, h', h, H, l, hn => by cases l <;> rfl
  | .ent _ _, h', h, H, l, hn => by cases l <;> rfl
  | .int k, h', h, H, l, hn => by cases l with | nil => rfl | cons v l => simp only [gather, leafD_ag H _ hn.head]
  | .bool, h', h, H, l, hn => by cases l with | nil => rfl | cons v l => simp only [gather, leafD_ag H _ hn.head]
  | .str, h', h, H, l, hn => by cases l with | nil => rfl | cons v l => simp only [gather, leafD_ag H _ hn.head]
  | .sl t, h', h, H, l, hn => by cases l with | nil => rfl | cons v l => simp only [gather, leafD_ag H _ hn.head]
where
  gather_sub : ∀ (t : Ty) {h : Heap} {l : List V} {x : t.den} {l1 : List V} {u : Heap}, gather h t l = some (x, l1, u) → ∀ q ∈ named.nameds l1, q ∈ named.nameds l
    | .pair a b, h, l, x, l1, u, hg => by
      have e2 : gather h (.pair a b) l = (match gather h a l with
        | some (x, l, u) => (match gather (u ++ h) b l with | some (y, l, u') => some ((x, y), l, u' ++ u) | none => none)
        | none => none) := by cases l <;> rfl
      rw [e2] at hg
      split at hg
      case h_2 => cases hg
      rename_i x1 l2 u1 h1
      split at hg
      case h_2 => cases hg
      rename_i x2 l3 u2 h2
      cases hg
      exact fun q hq => gather_sub a h1 q (gather_sub b h2 q hq)
    | .tree, h, l, x, l1, u, hg => by
      match l, hg with
      | [], hg => simp [gather] at hg
      | [_], hg => simp [gather] at hg
      | [_, _], hg => simp [gather] at hg
      | a :: b :: c :: l, hg =>
        simp only [gather] at hg
        split at hg
        · cases hg; intro q hq; simp [named.nameds, hq]
        · cases hg
    | .ent _ _, h, l, x, l1, u, hg => by cases l <;> simp [gather] at hg
    | .unit, h, l, x, l1, u, hg => by
      have e : gather h .unit l = some ((), l, []) := by cases l <;> rfl
      rw [e] at hg; cases hg; exact fun q hq => hq
    | .int k, h, l, x, l1, u, hg => by
      cases l with
      | nil => simp [gather] at hg
      | cons v l => simp only [gather] at hg; split at hg <;> first | (cases hg; intro q hq; simp [named.nameds, hq]; done) | cases hg
    | .bool, h, l, x, l1, u, hg => by
      cases l with
      | nil => simp [gather] at hg
      | cons v l => simp only [gather] at hg; split at hg <;> first | (cases hg; intro q hq; simp [named.nameds, hq]; done) | cases hg
    | .str, h, l, x, l1, u, hg => by
      cases l with
      | nil => simp [gather] at hg
      | cons v l => simp only [gather] at hg; split at hg <;> first | (cases hg; intro q hq; simp [named.nameds, hq]; done) | cases hg
    | .sl t, h, l, x, l1, u, hg => by
      cases l with
      | nil => simp [gather] at hg
      | cons v l => simp only [gather] at hg; split at hg <;> first | (cases hg; intro q hq; simp [named.nameds, hq]; done) | cases hg
theorem datum_ag (H : Ag S h' h) (t : Ty) {v : V} (hn : Nm S v) : datum h' t v = datum h t v := by
  unfold datum; rw [gather_ag t H hn.cells]
theorem elemV_ag (H : Ag S h' h) (t : Ty) {v : V} (hn : Nm S v) : elemV h' t v = elemV h t v := by
  have e : ∀ v, Nm S v → (match datum h' t v with | some (x, u) => some (x, 0, u) | none => (none : Option (t.den × Nat × Heap))) = (match datum h t v with | some (x, u) => some (x, 0, u) | none => none) := fun v hn => by rw [datum_ag H t hn]
  cases v with
  | ref r is w e' =>
    cases is with
    | nil => simp only [elemV, H.look hn.ref, datum_ag H t hn]
    | cons i is => exact e _ hn
  | _ => exact e _ hn
theorem elemVs_ag (t : Ty) : ∀ {l : List V} {h' h : Heap}, Ag S h' h → Nms S l → elemVs h' t l = elemVs h t l
  | [], h', h, H, hn => rfl
  | [v], h', h, H, hn => by simp only [elemVs, elemV_ag H t hn.head]
  | v :: v2 :: l, h', h, H, hn => by
    simp only [elemVs, elemV_ag H t hn.head]
    split
    · rename_i x n u _
      rw [elemVs_ag t (H.app u) hn.tail]
    · rfl
theorem baseV_ag (H : Ag S h' h) (t : Ty) {v : V} (hn : Nm S v) : baseV h' t v = baseV h t v := by
  cases v with
  | ref r is w e =>
    cases is with
    | nil => simp only [baseV, H.look hn.ref]
    | cons i is => rfl
  | k x =>
    cases x with
    | slice a n c => cases a <;> cases n <;> cases c <;> rfl
    | _ => rfl
  | _ => rfl
theorem addsV_ag (H : Ag S h' h) (t : Ty) {v : V} (hn : Nm S v) : addsV h' t v = addsV h t v := by
  cases v with
  | ref r is w e => simp only [addsV, H.look hn.ref, leafD_ag H _ hn]
  | k x =>
    cases x with
    | slice a n c => cases a <;> cases n <;> cases c <;> rfl
    | _ => rfl
  | _ => rfl
theorem liveB_ag (H : Ag S h' h) {r : Nat} (hr : S r) : liveB h' r = liveB h r := by unfold liveB; rw [H.look hr]
theorem liveV_ag (H : Ag S h' h) {r : Nat} (hr : S r) (v : Nat) : liveV h' r v = liveV h r v := by unfold liveV; rw [H.look hr]
theorem lenV_ag (H : Ag S h' h) (A : Ann) (T : Nat) {v : V} (hn : Nm S v) : lenV A T h' v = lenV A T h v := by
  unfold lenV
  split
  · rfl
  · rfl
  · rw [rowOf_ag H hn]
  · rfl
theorem lend0_ag (H : Ag S h' h) : ∀ {l : List V}, Nms S l → lend0 h' l = lend0 h l
  | [], hn => rfl
  | v :: l, hn => by
    have ih := lend0_ag H hn.tail
    cases v with
    | ptr r o => simp only [lend0, H.look hn.head.ptr, ih]
    | _ => simp only [lend0, ih]
theorem lentC_ag (H : Ag S h' h) {v : V} (hn : Nm S v) : lentC h' v = lentC h v := by
  cases v with
  | ref r is w t => simp only [lentC, rowOf_ag H hn]
  | _ => rfl
theorem lentCs_ag (H : Ag S h' h) : ∀ {l : List V}, Nms S l → lentCs h' l = lentCs h l
  | [], hn => rfl
  | v :: l, hn => by simp only [lentCs, lentC_ag H hn.head, lentCs_ag H hn.tail]
/-- What boxes hold is named, too. -/
def Inn (S : Nat → Prop) (h : Heap) (l : List Nat) : Prop := ∀ r ∈ l, ∀ cs, look h r = some (.box cs) → Nms S cs
theorem lend_ag (H : Ag S h' h) : ∀ {l : List V}, Nms S l → Inn S h (named.nameds l) → lend h' l = lend h l
  | [], hn, hi => rfl
  | v :: l, hn, hi => by
    have ih := lend_ag H hn.tail (fun r hr => hi r (by simp [named.nameds, hr]))
    cases v with
    | ptr r o =>
      simp only [lend, H.look hn.head.ptr, ih]
      split
      · rename_i f caps hr
        rw [lend0_ag H (hi r (by simp [named.nameds, named]) _ hr).head.fn]
      · rfl
      · rfl
    | _ => simp only [lend, ih]
theorem lentV_ag (H : Ag S h' h) {v : V} (hn : Nm S v) (hi : Inn S h (named v)) : lentV h' v = lentV h v := by
  cases v with
  | ptr r o =>
    simp only [lentV, H.look hn.ptr]
    split
    · rename_i cs hr; rw [lentCs_ag H (hi r (by simp [named]) cs hr)]
    · rfl
  | ref r is w t => exact lentC_ag H hn
  | _ => rfl
theorem lentL_ag (H : Ag S h' h) : ∀ {l : List V}, Nms S l → Inn S h (named.nameds l) → lentL h' l = lentL h l
  | [], hn, hi => rfl
  | v :: l, hn, hi => by simp only [lentL, lentV_ag H hn.head (fun r hr => hi r (by simp [named.nameds, hr])), lentL_ag H hn.tail (fun r hr => hi r (by simp [named.nameds, hr]))]
theorem frozV_ag (H : Ag S h' h) {v : V} (hn : Nm S v) : frozV h' v = frozV h v := by
  cases v with
  | ref r is w t => simp only [frozV, leafD_ag H _ hn]
  | _ => rfl
theorem froz_ag : ∀ {l : List V} {h' h : Heap}, Ag S h' h → Nms S l → froz h' l = froz h l
  | [], h', h, H, hn => rfl
  | v :: l, h', h, H, hn => by
    simp only [froz, frozV_ag H hn.head]
    split
    · rename_i v1 u _; rw [froz_ag (H.app u) hn.tail]
    · rfl
theorem argV_ag (H : Ag S h' h) (hand : List (Nat × RV)) (bw : Bool) (i : Nat) {v : V} (hn : Nm S v) (hi : bw = true → Inn S h (named v)) : argV h' hand bw i v = argV h hand bw i v := by
  unfold argV
  split
  · cases v with
    | ptr r o => cases o with
      | zero => simp only [H.look hn.ptr]
      | succ o => rfl
    | _ => rfl
  · rw [baseV_ag H _ hn]
  · cases v with
    | agg l =>
      cases bw with
      | true => simp only [lentL_ag H hn.agg (by simpa [named] using hi rfl)]
      | false => simp only [froz_ag H hn.agg]
    | fn f l =>
      cases bw with
      | true => simp only [lend_ag H hn.fn (by simpa [named] using hi rfl)]
      | false => simp only [frozV_ag H hn]
    | _ =>
      cases bw with
      | true => simp only [lentV_ag H hn (hi rfl)]
      | false => simp only [frozV_ag H hn]
theorem argV_box {hand : List (Nat × RV)} {i : Nat} {v v' : V} {u : Heap} {b q : List Nat} (e : argV h hand true i v = some (v', u, b, q)) {r : Nat} {cs : List V} (hl : look (u ++ h) r = some (.box cs)) : look h r = some (.box cs) := by
  have nil : look ([] ++ h) r = some (.box cs) → look h r = some (.box cs) := fun h => h
  have one : ∀ k, look ([(k, none)] ++ h) r = some (.box cs) → look h r = some (.box cs) := fun k hk => by
    by_cases e : k = r
    · subst e; simp [look, fnd_cons] at hk
    · rwa [look_append_none (by rw [fnd_cons, if_neg e]; rfl)] at hk
  unfold argV at e
  split at e
  · split at e
    · split at e
      · split at e
        · cases e; exact one _ hl
        · cases e
      · cases e
    · cases e
  · split at e
    · rename_i xs m u' hb
      cases e
      unfold baseV at hb
      split at hb
      · split at hb
        · cases hb
        · cases hb; exact nil hl
      · split at hb
        · split at hb
          · cases hb; exact one _ hl
          · cases hb
        · cases hb
      · cases hb
    · cases e
  · split at e
    · split at e
      · cases e; exact nil hl
      · cases e
    · rename_i hb; cases hb
    · split at e
      · cases e; exact nil hl
      · cases e
    · split at e
      · cases e; exact nil hl
      · cases e
    · rename_i hb; cases hb
theorem argVs_ag (hand : List (Nat × RV)) (bw : Bool) : ∀ {l : List V} {i : Nat} {h' h : Heap}, Ag S h' h → Nms S l → (bw = true → Inn S h (named.nameds l)) → argVs h' bw hand i l = argVs h bw hand i l
  | [], i, h', h, H, hn, hi => rfl
  | v :: l, i, h', h, H, hn, hi => by
    simp only [argVs, argV_ag H hand bw i hn.head (fun hb r hr => hi hb r (by simp [named.nameds, hr]))]
    split
    · rename_i v1 u b q he
      rw [argVs_ag hand bw (H.app u) hn.tail (fun hb r hr cs hl => by
        subst hb
        exact hi rfl r (by simp [named.nameds, hr]) cs (argV_box he hl))]
    · rfl
theorem lentC_sub {v v' : V} {q : List Nat} (hn : Nm S v) (e : lentC h v = some (v', q)) : ∀ r ∈ q, S r := by
  cases v with
  | ref r is w t =>
    simp only [lentC] at e
    split at e
    · cases e; intro r' hr; rw [List.mem_singleton.1 hr]; exact hn.ref
    · cases e
  | _ => simp only [lentC] at e; split at e <;> cases e; intro r hr; simp at hr
theorem lentCs_sub : ∀ {l l' : List V} {q : List Nat}, Nms S l → lentCs h l = some (l', q) → ∀ r ∈ q, S r
  | [], l', q, hn, e => by simp only [lentCs] at e; cases e; intro r hr; simp at hr
  | v :: l, l', q, hn, e => by
    simp only [lentCs] at e
    split at e
    · rename_i v1 q1 l1 q2 h1 h2
      cases e
      intro r hr
      rcases List.mem_append.1 hr with hr | hr
      · exact lentC_sub hn.head h1 r hr
      · exact lentCs_sub hn.tail h2 r hr
    · cases e
theorem lentV_sub {v v' : V} {q : List Nat} (hn : Nm S v) (hi : Inn S h (named v)) (e : lentV h v = some (v', q)) : ∀ r ∈ q, S r := by
  cases v with
  | ptr r o =>
    simp only [lentV] at e
    split at e
    case h_2 => cases e
    rename_i cs hr
    split at e
    case h_2 => cases e
    rename_i l1 q1 h1
    cases e
    intro r' hr'
    rcases List.mem_cons.1 hr' with rfl | hr'
    · exact hn.ptr
    · exact lentCs_sub (hi r (by simp [named]) cs hr) h1 r' hr'
  | _ => exact lentC_sub (h := h) hn e
theorem lentL_sub : ∀ {l l' : List V} {q : List Nat}, Nms S l → Inn S h (named.nameds l) → lentL h l = some (l', q) → ∀ r ∈ q, S r
  | [], l', q, hn, hi, e => by simp only [lentL] at e; cases e; intro r hr; simp at hr
  | v :: l, l', q, hn, hi, e => by
    simp only [lentL] at e
    split at e
    · rename_i v1 q1 l1 q2 h1 h2
      cases e
      intro r hr
      rcases List.mem_append.1 hr with hr | hr
      · exact lentV_sub hn.head (fun r hr => hi r (by simp [named.nameds, hr])) h1 r hr
      · exact lentL_sub hn.tail (fun r hr => hi r (by simp [named.nameds, hr])) h2 r hr
    · cases e
theorem lend0_sub : ∀ {l l' : List V} {q : List Nat}, Nms S l → lend0 h l = some (l', q) → ∀ r ∈ q, S r
  | [], l', q, hn, e => by simp only [lend0] at e; cases e; intro r hr; simp at hr
  | v :: l, l', q, hn, e => by
    cases v with
    | ptr r o =>
      simp only [lend0] at e
      split at e
      · split at e
        · rename_i l1 q1 _ h1
          cases e
          intro r' hr
          rcases List.mem_cons.1 hr with rfl | hr
          · exact hn.head.ptr
          · exact lend0_sub hn.tail h1 r' hr
        · cases e
      · cases e
    | _ =>
      simp only [lend0] at e
      split at e
      · rename_i l1 q1 _ h1; cases e; exact lend0_sub hn.tail h1
      · cases e
theorem lend_sub : ∀ {l l' : List V} {q : List Nat}, Nms S l → Inn S h (named.nameds l) → lend h l = some (l', q) → ∀ r ∈ q, S r
  | [], l', q, hn, hi, e => by simp only [lend] at e; cases e; intro r hr; simp at hr
  | v :: l, l', q, hn, hi, e => by
    have hi' : Inn S h (named.nameds l) := fun r hr => hi r (by simp [named.nameds, hr])
    cases v with
    | ptr r o =>
      simp only [lend] at e
      split at e
      · rename_i f caps hr
        split at e
        · rename_i c0 q0 l1 q1 h0 h1
          cases e
          intro r' hr'
          rcases List.mem_cons.1 hr' with rfl | hr'
          · exact hn.head.ptr
          · rcases List.mem_append.1 hr' with hr' | hr'
            · exact lend0_sub (hi r (by simp [named.nameds, named]) _ hr).head.fn h0 r' hr'
            · exact lend_sub hn.tail hi' h1 r' hr'
        · cases e
      · split at e
        · rename_i l1 q1 _ h1
          cases e
          intro r' hr
          rcases List.mem_cons.1 hr with rfl | hr
          · exact hn.head.ptr
          · exact lend_sub hn.tail hi' h1 r' hr
        · cases e
      · cases e
    | _ =>
      simp only [lend] at e
      split at e
      · rename_i l1 q1 _ h1; cases e; exact lend_sub hn.tail hi' h1
      · cases e
theorem argV_sub {hand : List (Nat × RV)} {bw : Bool} {i : Nat} {v v' : V} {u : Heap} {b q : List Nat} (hn : Nm S v) (hi : bw = true → Inn S h (named v)) (e : argV h hand bw i v = some (v', u, b, q)) : ∀ r ∈ q, S r := by
  unfold argV at e
  split at e
  · split at e
    · split at e
      · split at e
        · cases e; intro r hr; simp at hr
        · cases e
      · cases e
    · cases e
  · split at e
    · cases e; intro r hr; simp at hr
    · cases e
  · split at e
    · split at e
      · rename_i h1; cases e; exact lentL_sub hn.agg (by simpa [named] using hi rfl) h1
      · cases e
    · split at e
      · cases e; intro r hr; simp at hr
      · cases e
    · split at e
      · rename_i h1; cases e; exact lend_sub hn.fn (by simpa [named] using hi rfl) h1
      · cases e
    · split at e
      · rename_i h1; cases e; exact lentV_sub hn (hi rfl) h1
      · cases e
    · split at e
      · cases e; intro r hr; simp at hr
      · cases e
theorem argVs_sub {hand : List (Nat × RV)} {bw : Bool} : ∀ {l l' : List V} {i : Nat} {h : Heap} {u : Heap} {b q : List Nat}, Nms S l → (bw = true → Inn S h (named.nameds l)) → argVs h bw hand i l = some (l', u, b, q) → ∀ r ∈ q, S r
  | [], l', i, h, u, b, q, hn, hi, e => by simp only [argVs] at e; cases e; intro r hr; simp at hr
  | v :: l, l', i, h, u, b, q, hn, hi, e => by
    simp only [argVs] at e
    split at e
    · rename_i v1 u1 b1 q1 h1
      split at e
      · rename_i l2 u2 b2 q2 h2
        cases e
        intro r hr
        rcases List.mem_append.1 hr with hr | hr
        · exact argV_sub hn.head (fun hb r hr => hi hb r (by simp [named.nameds, hr])) h1 r hr
        · exact argVs_sub hn.tail (fun hb r hr cs hl => by
            subst hb
            exact hi rfl r (by simp [named.nameds, hr]) cs (argV_box h1 hl)) h2 r hr
      · cases e
    · cases e
theorem alive_ag (H : Ag S h' h) : ∀ {q : List Nat}, (∀ r ∈ q, S r) → alive h' q = alive h q
  | [], _ => rfl
  | r :: q, hq => by
    simp only [alive, H.look (hq r (by simp))]
    split
    · exact alive_ag H (fun r hr => hq r (by simp [hr]))
    · rfl
theorem freshAll_ag : ∀ {u : Heap} {h' h : Heap}, Ag S h' h → (∀ e ∈ u, S e.1) → freshAll h' u = freshAll h u
  | [], h', h, H, hu => rfl
  | (r, o) :: u, h', h, H, hu => by
    have e : fresh h' r = fresh h r := by unfold fresh; rw [H r (hu _ List.mem_cons_self)]
    have e2 : freshAll ((r, none) :: h') u = freshAll ((r, none) :: h) u := freshAll_ag (H.app [(r, none)]) (fun e he => hu e (by simp [he]))
    simp only [freshAll, e, e2]
theorem keysOf_mem : ∀ {u : Heap} {e : Nat × Option Ob}, e ∈ u → e.1 ∈ keysOf u
  | e0 :: u, e, h => by
    rcases List.mem_cons.1 h with rfl | h
    · simp [keysOf]
    · simp [keysOf, keysOf_mem h]
/-- A call. -/
theorem callN_ag {A : Ann} {Sm' : Sm A} {κ g : Nat} {args : List V} {R : Type} {K : V → Heap → Option R} {r : R} (H : Ag S h' h) (hn : Nms S args) (hi : Inn S h (named.nameds args)) (e : callN Sm' κ g h args K = some r) :
    ∃ v u, K v u = some r ∧ ((∀ q ∈ keysOf u, S q) → ∀ (R' : Type) (K' : V → Heap → Option R'), callN Sm' κ g h' args K' = K' v u) := by
  unfold callN at e
  split at e
  case h_2 => cases e
  rename_i vs u b q hargs
  cases hcall : Sm'.call g vs with
  | none => rw [hcall] at e; cases e
  | some x =>
  rw [hcall] at e
  simp only [Option.bind_some] at e
  split at e
  case h_2 => cases e
  rename_i hal hfr hfz hok
  refine ⟨_, _, e, fun hk R' K' => ?_⟩
  have k : ∀ (e : Nat × Option Ob), e ∈ _ → S e.1 := fun e he => hk e.1 (keysOf_mem he)
  unfold callN
  rw [argVs_ag _ _ H hn (fun _ => hi), hargs]
  simp only [hcall, Option.bind_some]
  rw [alive_ag (H.app u) (argVs_sub hn (fun _ => hi) hargs), hal]
  rw [freshAll_ag H (fun e he => k e (by simp [he])), hfr, freshAll_ag (H.app _) (fun e he => k e (List.mem_append_left _ (List.mem_of_mem_tail he))), hfz, hok]
theorem markV_ag {κ : Nat} {args : List V} {R : Type} {K : V → Heap → Option R} {r : R} (H : Ag S h' h) (hS : S κ) (hn : Nms S args) (e : markV κ h args K = some r) :
    ∃ v u, K v u = some r ∧ ∀ (R' : Type) (K' : V → Heap → Option R'), markV κ h' args K' = K' v u := by
  unfold markV at e
  split at e
  case h_2 => cases e
  rename_i bI r1 v1 t1 r2 v2 t2 k
  have hn1 : Nms S [V.d (.int .i64) bI, .ref r1 [] v1 t1, .ref r2 [] v2 t2] := hn.head.agg
  have s1 : S r1 := hn1.tail.head.ref
  have s2 : S r2 := hn1.tail.tail.head.ref
  split at e
  case h_2 => cases e
  rename_i n1 u1 xs n2 u2 gs hq1 hq2 hκ
  split at e
  case h_2 => cases e
  rename_i hn2
  unfold ifE at e
  split at e
  case isFalse => cases e
  rename_i hk
  refine ⟨_, _, e, fun R' K' => ?_⟩
  have hf : fresh h' κ = true := by unfold fresh at hκ ⊢; rw [H κ hS]; exact hκ
  unfold markV
  simp only [H.look s1, hq1, H.look s2, hq2, hf, hn2]
  unfold ifE
  rw [if_pos hk]
theorem callV_ag {A : Ann} {Sm' : Sm A} {κ g : Nat} {args : List V} {R : Type} {K : V → Heap → Option R} {r : R} (H : Ag S h' h) (hS : S κ) (hn : Nms S args) (hi : Inn S h (named.nameds args)) (e : callV Sm' κ g h args K = some r) :
    ∃ v u, K v u = some r ∧ ((∀ q ∈ keysOf u, S q) → ∀ (R' : Type) (K' : V → Heap → Option R'), callV Sm' κ g h' args K' = K' v u) := by
  unfold callV at e
  split at e
  · rename_i hm
    obtain ⟨v, u, h1, h2⟩ := markV_ag H hS hn e
    exact ⟨v, u, h1, fun _ R' K' => by unfold callV; rw [hm]; exact h2 R' K'⟩
  · rename_i hm
    obtain ⟨v, u, h1, h2⟩ := callN_ag H hn hi e
    exact ⟨v, u, h1, fun hk R' K' => by unfold callV; rw [hm]; exact h2 hk R' K'⟩
end
end Go.Proofs.YtpoppblfnaipbaaDoor.Eng
/-! ## The engine: one operation, whatever is asked of what it yields. -/
namespace Go.Proofs.YtpoppblfnaipbaaDoor.Eng
open Go
set_option autoImplicit false
set_option linter.unusedVariables false
set_option linter.unusedSimpArgs false

section
variable {P : Program} {A : Ann} {Sm' : Sm A} {κ : Nat} {ρ : Operand → V} {hp : Heap} {o : Oper} {R : Type} {r : R}

theorem ifE_pos {α : Type} {c : Prop} [Decidable c] {a b : α} (h : c) : ifE c a b = a := if_pos h
theorem getC_cps {t : Ty} {l : List V} {c : Nat} {K : V → Heap → Option R} (h : getC t l c K = some r) : ∃ v u, K v u = some r ∧ u = [] ∧ ∀ (R' : Type) (K' : V → Heap → Option R'), getC t l c K' = K' v u := by
  unfold getC at h
  split at h
  · rename_i ha
    split at h
    · rename_i hb; exact ⟨_, _, h, rfl, fun R' K' => by unfold getC; rw [ha]; simp only; rw [hb]⟩
    · cases h
  · rename_i ha
    split at h
    · rename_i v hb; exact ⟨_, _, h, rfl, fun R' K' => by unfold getC; rw [ha]; simp only; rw [hb]⟩
    · cases h
theorem nzE_cps {z : Bool} {y : Int} {a : Option R} (h : nzE z y a = some r) : a = some r ∧ ∀ (R' : Type) (a' : Option R'), nzE z y a' = a' := by
  unfold nzE at h
  split at h
  · exact ⟨h, fun R' a' => rfl⟩
  · unfold ifE at h
    split at h
    · cases h
    · rename_i hy; exact ⟨h, fun R' a' => by simp [nzE, ifE, hy]⟩
theorem bin_cps {T : Nat} {z : Bool} {op : BinOp} {a b : V} {K : V → Option R} (h : bin A T z op a b K = some r) : ∃ v, K v = some r ∧ ∀ (R' : Type) (K' : V → Option R'), bin A T z op a b K' = K' v := by
  unfold bin at h
  split at h
  · rename_i k x l y
    split at h
    · rename_i hk
      obtain ⟨h1, h2⟩ := ifE_some h
      exact ⟨_, h2, fun R' K' => by unfold bin; simp [ifE, h1]⟩
    · obtain ⟨h1, h2⟩ := ifE_some h
      exact ⟨_, h2, fun R' K' => by unfold bin; simp [ifE, h1]⟩
    · rename_i hk
      obtain ⟨h1, h2⟩ := nzE_cps h
      exact ⟨_, h1, fun R' K' => by unfold bin; simp only [hk, h2]⟩
    · rename_i hk
      obtain ⟨h1, h2⟩ := nzE_cps h
      exact ⟨_, h1, fun R' K' => by unfold bin; simp only [hk, h2]⟩
    · rename_i h1 h2 h3 h4 hk
      split at h
      · rename_i v hv
        exact ⟨v, h, fun R' K' => by unfold bin; simp only [hk, hv]⟩
      · cases h
    · cases h
  · rename_i t xs ad n c
    split at h
    · rename_i u hu
      obtain ⟨h1, h2⟩ := ifE_some h
      exact ⟨_, h2, fun R' K' => by unfold bin; simp only [hu]; exact ifE_pos h1⟩
    · rename_i u hu
      obtain ⟨h1, h2⟩ := ifE_some h
      exact ⟨_, h2, fun R' K' => by unfold bin; simp only [hu]; exact ifE_pos h1⟩
    · cases h
  · split at h
    · obtain ⟨h1, h2⟩ := ifE_some h
      exact ⟨_, h2, fun R' K' => by unfold bin; exact ifE_pos h1⟩
    · exact ⟨_, h, fun R' K' => rfl⟩
    · exact ⟨_, h, fun R' K' => rfl⟩
    · exact ⟨_, h, fun R' K' => rfl⟩
    · exact ⟨_, h, fun R' K' => rfl⟩
    · cases h
  · split at h
    · rename_i t0 t1 ts hu
      split at h
      · rename_i b hb
        split at h
        · exact ⟨_, h, fun R' K' => by unfold bin; simp only [hu, hb]⟩
        · exact ⟨_, h, fun R' K' => by unfold bin; simp only [hu, hb]⟩
        · cases h
      · cases h
    · cases h
  · rename_i n1 n2 n3 n4
    split at h
    · rename_i x y hu hx hy
      split at h
      · exact ⟨_, h, fun R' K' => by unfold bin; simp only [hu, hx, hy]⟩
      · exact ⟨_, h, fun R' K' => by unfold bin; simp only [hu, hx, hy]⟩
      · cases h
    · cases h
theorem idx_cps {i : V} {n : Nat} {K : Nat → Option R} (h : idx i n K = some r) : ∃ j, K j = some r ∧ ∀ (R' : Type) (K' : Nat → Option R'), idx i n K' = K' j := by
  unfold idx at h
  split at h
  · obtain ⟨h1, h2⟩ := ifE_some h
    obtain ⟨h3, h4⟩ := ifE_some h2
    exact ⟨_, h4, fun R' K' => by unfold idx; simp only; rw [ifE_pos h1, ifE_pos h3]⟩
  · cases h
theorem lowV_cps {i : Option V} {K : Int → Option R} (h : lowV i K = some r) : ∃ j, K j = some r ∧ ∀ (R' : Type) (K' : Int → Option R'), lowV i K' = K' j := by
  unfold lowV at h
  split at h
  · exact ⟨_, h, fun R' K' => rfl⟩
  · exact ⟨_, h, fun R' K' => rfl⟩
  · cases h
theorem highV_cps {i : Option V} {n : Nat} {K : Int → Option R} (h : highV i n K = some r) : ∃ j, K j = some r ∧ ∀ (R' : Type) (K' : Int → Option R'), highV i n K' = K' j := by
  unfold highV at h
  split at h
  · exact ⟨_, h, fun R' K' => rfl⟩
  · exact ⟨_, h, fun R' K' => rfl⟩
  · cases h
/-- The same yield over another heap, other operands. -/
def Yld (P : Program) {A : Ann} (Sm' : Sm A) (κ : Nat) (o : Oper) (S : Nat → Prop) (ρ' : Operand → V) (h' : Heap) (v : V) (u : Heap) : Prop :=
  (∀ q ∈ keysOf u, S q) → ∀ (R' : Type) (K' : V → Heap → Option R'), stepO P Sm' κ ρ' h' o K' = K' v u
variable {S : Nat → Prop} {ρ' : Operand → V} {h' : Heap} {K : V → Heap → Option R}
theorem ag_load (H : Ag S h' hp) {T : Nat} {x : Operand} (ho : o.op = .load T x) (hρ : ρ' x = ρ x) (hn : Nm S (ρ x)) (h : stepO P Sm' κ ρ hp o K = some r) : ∃ v u, K v u = some r ∧ Yld P Sm' κ o S ρ' h' v u := by
  unfold stepO at h; rw [ho] at h; dsimp only at h
  have fin : ∀ v u, K v u = some r → (∀ (R' : Type) (K' : V → Heap → Option R'), stepO P Sm' κ ρ' h' o K' = K' v u) → ∃ v u, K v u = some r ∧ Yld P Sm' κ o S ρ' h' v u := fun v u h1 h2 => ⟨v, u, h1, fun _ => h2⟩
  split at h
  · rename_i t r0 c ht hx
    have hq : S r0 := by rw [hx] at hn; exact hn.ptr
    split at h
    · rename_i l hl
      obtain ⟨v, u, h1, _, h2⟩ := getC_cps h
      exact fin v u h1 fun R' K' => by unfold stepO; rw [ho]; simp only [hρ, ht, hx, H.look hq, hl]; exact h2 R' K'
    · cases h
  · rename_i t s x' ht hx
    split at h
    · rename_i hb; exact fin _ _ h fun R' K' => by unfold stepO; rw [ho]; simp only [hρ, ht, hx, hb]
    · cases h
  · rename_i t l c ht hx
    obtain ⟨v, u, h1, _, h2⟩ := getC_cps h
    exact fin v u h1 fun R' K' => by unfold stepO; rw [ho]; simp only [hρ, ht, hx]; exact h2 R' K'
  · rename_i r0 c ht hx
    have hq : S r0 := by rw [hx] at hn; exact hn.ptr
    split at h
    · rename_i v hT hl; exact fin _ _ h fun R' K' => by unfold stepO; rw [ho]; simp only [hρ, ht, hx, H.look hq, hl, hT]
    · cases h
  · rename_i l c ht hx
    split at h
    · rename_i v hT; exact fin _ _ h fun R' K' => by unfold stepO; rw [ho]; simp only [hρ, ht, hx, hT]
    · cases h
  · rename_i t r0 is v p s ht hx
    have hq : S r0 := by rw [hx] at hn; exact hn.rp
    split at h
    · rename_i t0 n v0 fz xs hl hs
      split at h
      · rename_i c hv hc
        split at h
        · rename_i e hle hct
          exact fin _ _ h fun R' K' => by unfold stepO; rw [ho]; simp only [hρ, ht, hx, H.look hq, hl, hs, hv, hc, hle, hct]
        · rename_i hno
          split at h
          · rename_i z hz
            refine fin _ _ h fun R' K' => ?_
            unfold stepO; rw [ho]; simp only [hρ, ht, hx, H.look hq, hl, hs, hv, hc, hz]
          · cases h
      · cases h
    · cases h
  · cases h
theorem ag_store (H : Ag S h' hp) (hS : S κ) {T : Nat} {y x : Operand} (ho : o.op = .store T y x) (hρ : ρ' y = ρ y) (hρ2 : ρ' x = ρ x) (hn : Nm S (ρ y)) (hn2 : Nm S (ρ x)) (h : stepO P Sm' κ ρ hp o K = some r) : ∃ v u, K v u = some r ∧ Yld P Sm' κ o S ρ' h' v u := by
  unfold stepO at h; rw [ho] at h; dsimp only at h
  have fin : ∀ v u, K v u = some r → (∀ (R' : Type) (K' : V → Heap → Option R'), stepO P Sm' κ ρ' h' o K' = K' v u) → ∃ v u, K v u = some r ∧ Yld P Sm' κ o S ρ' h' v u := fun v u h1 h2 => ⟨v, u, h1, fun _ => h2⟩
  have hf : fresh h' κ = fresh hp κ := by unfold fresh; rw [H κ hS]
  split at h
  · rename_i t r0 c ht hy
    have hq : S r0 := by rw [hy] at hn; exact hn.ptr
    split at h
    · rename_i l hl hb
      split at h
      · rename_i hle; exact fin _ _ h fun R' K' => by unfold stepO; rw [ho]; simp only [hρ, hρ2, ht, hy, H.look hq, hl, hb, hle]
      · cases h
    · cases h
  · rename_i r0 c ht hy
    have hq : S r0 := by rw [hy] at hn; exact hn.ptr
    split at h
    · rename_i v0 f caps hT hl hx; exact fin _ _ h fun R' K' => by unfold stepO; rw [ho]; simp only [hρ, hρ2, ht, hy, H.look hq, hl, hT, hx]
    · cases h
  · rename_i t r0 is v p s ht hy
    have hq : S r0 := by rw [hy] at hn; exact hn.rp
    split at h
    · rename_i hT
      split at h
      case h_2 => cases h
      rename_i i hb
      split at h
      · rename_i u hs
        have hs' : storeOwn κ h' r0 i v (ρ x) = some u := by
          unfold storeOwn at hs ⊢
          split at hs
          case h_2 => cases hs
          rename_i r2 v2 t2 hx
          have hq2 : S r2 := by rw [hx] at hn2; exact hn2.ref
          simp only [H.look hq, H.look hq2, hf]
          exact hs
        exact fin _ _ h fun R' K' => by unfold stepO; rw [ho]; simp only [hρ, hρ2, ht, hy, hT, hb, hs']
      · cases h
    rename_i hT
    split at h
    · rename_i y' u hb hd
      split at h
      · rename_i t0 n v0 xs hl
        split at h
        · rename_i zs hv hz
          have hl' : look (u ++ h') r0 = some (.row t0 n v0 false xs) := ((H.app u).look hq).trans hl
          split at h
          · split at h
            · rename_i hfr
              exact fin _ _ h fun R' K' => by unfold stepO; rw [ho]; simp only [hρ, hρ2, ht, hy, hT, hb, datum_ag H _ hn2, hd, hl', hv, hz, hf, hfr]
            · cases h
          · exact fin _ _ h fun R' K' => by unfold stepO; rw [ho]; simp only [hρ, hρ2, ht, hy, hT, hb, datum_ag H _ hn2, hd, hl', hv, hz]
        · cases h
      · cases h
    · cases h
  · cases h
theorem ag_conv (H : Ag S h' hp) {T U : Nat} {x : Operand} (ho : o.op = .convert T U x) (hρ : ρ' x = ρ x) (hn : Nm S (ρ x)) (h : stepO P Sm' κ ρ hp o K = some r) : ∃ v u, K v u = some r ∧ Yld P Sm' κ o S ρ' h' v u := by
  unfold stepO at h; rw [ho] at h; dsimp only at h
  have fin : ∀ v u, K v u = some r → (∀ (R' : Type) (K' : V → Heap → Option R'), stepO P Sm' κ ρ' h' o K' = K' v u) → ∃ v u, K v u = some r ∧ Yld P Sm' κ o S ρ' h' v u := fun v u h1 h2 => ⟨v, u, h1, fun _ => h2⟩
  split at h
  · rename_i k l n h1 h2 h3; exact fin _ _ h fun R' K' => by unfold stepO; rw [ho]; simp only [hρ, h1, h2, h3]
  · rename_i s' h1 h2 h3; exact fin _ _ h fun R' K' => by unfold stepO; rw [ho]; simp only [hρ, h1, h2, h3]
  · rename_i e h1 h2
    split at h
    · rename_i xs h3 h4
      exact fin _ _ h fun R' K' => by unfold stepO; rw [ho]; simp only [hρ, h1, h2, rowOf_ag H hn, h3, h4]
    · cases h
  · rename_i e s' h1 h2 h3
    split at h
    · rename_i h4; exact fin _ _ h fun R' K' => by unfold stepO; rw [ho]; simp only [hρ, h1, h2, h3, h4]
    · cases h
  · cases h
theorem ag_slice (H : Ag S h' hp) (hS : S κ) {T : Nat} {x : Operand} {lo hi mx : Option Operand} (ho : o.op = .slice T x lo hi mx) (hρ : ρ' x = ρ x) (hlo : lo.map ρ' = lo.map ρ) (hhi : hi.map ρ' = hi.map ρ) (hn : Nm S (ρ x)) (h : stepO P Sm' κ ρ hp o K = some r) : ∃ v u, K v u = some r ∧ Yld P Sm' κ o S ρ' h' v u := by
  unfold stepO at h; rw [ho] at h; dsimp only at h
  have fin : ∀ v u, K v u = some r → (∀ (R' : Type) (K' : V → Heap → Option R'), stepO P Sm' κ ρ' h' o K' = K' v u) → ∃ v u, K v u = some r ∧ Yld P Sm' κ o S ρ' h' v u := fun v u h1 h2 => ⟨v, u, h1, fun _ => h2⟩
  split at h
  · rename_i s' hx
    split at h
    · cases h
    · rename_i ht
      obtain ⟨a1, k1, g1⟩ := lowV_cps h
      obtain ⟨a2, k2, g2⟩ := highV_cps k1
      obtain ⟨c1, k3⟩ := ifE_some k2
      obtain ⟨c2, k4⟩ := ifE_some k3
      obtain ⟨c3, k5⟩ := ifE_some k4
      exact fin _ _ k5 fun R' K' => by unfold stepO; rw [ho]; simp only [hρ, hlo, hhi, hx, ht, g1, g2, ifE_pos c1, ifE_pos c2, ifE_pos c3]
  · rename_i t xs hx
    split at h
    · cases h
    · rename_i ht
      obtain ⟨a1, k1, g1⟩ := lowV_cps h
      obtain ⟨a2, k2, g2⟩ := highV_cps k1
      obtain ⟨c1, k3⟩ := ifE_some k2
      obtain ⟨c2, k4⟩ := ifE_some k3
      obtain ⟨c3, k5⟩ := ifE_some k4
      exact fin _ _ k5 fun R' K' => by unfold stepO; rw [ho]; simp only [hρ, hlo, hhi, hx, ht, g1, g2, ifE_pos c1, ifE_pos c2, ifE_pos c3]
  · rename_i r0 is w t hx
    have hf : fresh h' κ = fresh hp κ := by unfold fresh; rw [H κ hS]
    split at h
    · rename_i hmv ht
      split at h
      · rename_i xs n u hb hfr
        have hn' : Nm S (.ref r0 is w t) := by rw [← hx]; exact hn
        obtain ⟨a1, k1, g1⟩ := lowV_cps h
        obtain ⟨c1, k3⟩ := ifE_some k1
        obtain ⟨c2, k4⟩ := ifE_some k3
        exact fin _ _ k4 fun R' K' => by unfold stepO; rw [ho]; simp only [hρ, hlo, hx, hmv, ht, hf, hfr, baseV_ag H _ hn', hb, g1, ifE_pos c1, ifE_pos c2]
      · cases h
    · rename_i y hmv ht
      split at h
      · rename_i xs n u hb hfr
        have hn' : Nm S (.ref r0 is w t) := by rw [← hx]; exact hn
        have hy : ρ' y = ρ y := by simpa using hhi
        obtain ⟨a1, k1, g1⟩ := lowV_cps h
        obtain ⟨a2, k2, g2⟩ := highV_cps k1
        obtain ⟨c1, k3⟩ := ifE_some k2
        obtain ⟨c2, k4⟩ := ifE_some k3
        obtain ⟨c3, k5⟩ := ifE_some k4
        exact fin _ _ k5 fun R' K' => by unfold stepO; rw [ho]; simp only [hρ, hlo, hy, hx, hmv, ht, hf, hfr, baseV_ag H _ hn', hb, g1, g2, ifE_pos c1, ifE_pos c2, ifE_pos c3]
      · cases h
    · rename_i xs u hmv ht hl
      obtain ⟨a1, k1, g1⟩ := lowV_cps h
      obtain ⟨a2, k2, g2⟩ := highV_cps k1
      obtain ⟨c1, k3⟩ := ifE_some k2
      obtain ⟨c2, k4⟩ := ifE_some k3
      obtain ⟨c3, k5⟩ := ifE_some k4
      have hn' : Nm S (.ref r0 is w t) := by rw [← hx]; exact hn
      exact fin _ _ k5 fun R' K' => by unfold stepO; rw [ho]; simp only [hρ, hlo, hhi, hx, hmv, ht, leafD_ag H _ hn', hl, g1, g2, ifE_pos c1, ifE_pos c2, ifE_pos c3]
    · cases h
  · cases h
theorem ag_fieldAddr (H : Ag S h' hp) {T : Nat} {x : Operand} {f : Nat} (ho : o.op = .fieldAddr T x f) (hρ : ρ' x = ρ x) (hn : Nm S (ρ x)) (h : stepO P Sm' κ ρ hp o K = some r) : ∃ v u, K v u = some r ∧ Yld P Sm' κ o S ρ' h' v u := by
  unfold stepO at h; rw [ho] at h; dsimp only at h
  have fin : ∀ v u, K v u = some r → (∀ (R' : Type) (K' : V → Heap → Option R'), stepO P Sm' κ ρ' h' o K' = K' v u) → ∃ v u, K v u = some r ∧ Yld P Sm' κ o S ρ' h' v u := fun v u h1 h2 => ⟨v, u, h1, fun _ => h2⟩
  split at h
  · rename_i c p r0 o0 hf hx
    have hq : S r0 := by rw [hx] at hn; exact hn.ptr
    split at h
    · rename_i hl; exact fin _ _ h fun R' K' => by unfold stepO; rw [ho]; simp only [hρ, hf, hx, liveB_ag H hq, hl]
    · cases h
  · rename_i c p l o0 hf hx; exact fin _ _ h fun R' K' => by unfold stepO; rw [ho]; simp only [hρ, hf, hx]
  · rename_i c p t y hf hx
    split at h
    · rename_i z h1 h2; exact fin _ _ h fun R' K' => by unfold stepO; rw [ho]; simp only [hρ, hf, hx, h1, h2]
    · cases h
  · rename_i c p r0 is v q t hf hx
    have hq : S r0 := by rw [hx] at hn; exact hn.rp
    split at h
    · rename_i z h1 h2; exact fin _ _ h fun R' K' => by unfold stepO; rw [ho]; simp only [hρ, hf, hx, liveV_ag H hq, h1, h2]
    · cases h
  · cases h
theorem ag_indexAddr (H : Ag S h' hp) {T : Nat} {x i : Operand} (ho : o.op = .indexAddr T x i) (hρ : ρ' x = ρ x) (hρ2 : ρ' i = ρ i) (hn : Nm S (ρ x)) (h : stepO P Sm' κ ρ hp o K = some r) : ∃ v u, K v u = some r ∧ Yld P Sm' κ o S ρ' h' v u := by
  unfold stepO at h; rw [ho] at h; dsimp only at h
  have fin : ∀ v u, K v u = some r → (∀ (R' : Type) (K' : V → Heap → Option R'), stepO P Sm' κ ρ' h' o K' = K' v u) → ∃ v u, K v u = some r ∧ Yld P Sm' κ o S ρ' h' v u := fun v u h1 h2 => ⟨v, u, h1, fun _ => h2⟩
  split at h
  · rename_i t xs hx
    split at h
    · rename_i ht
      obtain ⟨j, k1, g1⟩ := idx_cps h
      exact fin _ _ k1 fun R' K' => by unfold stepO; rw [ho]; simp only [hρ, hρ2, hx, ht, g1]
    · cases h
  · rename_i r0 is w t hx
    have hn' : Nm S (.ref r0 is w t) := by rw [← hx]; exact hn
    split at h
    · rename_i s xs hr
      split at h
      · rename_i t1 n1 v0 fz xs1 ht hl
        obtain ⟨j, k1, g1⟩ := idx_cps h
        exact fin _ _ k1 fun R' K' => by unfold stepO; rw [ho]; simp only [hρ, hρ2, hx, rowOf_ag H hn', hr, ht, H.look hn'.ref, hl, g1]
      · cases h
    · cases h
  · rename_i r0 o0 hx
    have hq : S r0 := by rw [hx] at hn; exact hn.ptr
    split at h
    · rename_i n e hu
      split at h
      · rename_i t k j ht hi
        split at h
        · rename_i hb; exact fin _ _ h fun R' K' => by unfold stepO; rw [ho]; simp only [hρ, hρ2, hx, hu, ht, hi, liveB_ag H hq, hb]
        · cases h
      · cases h
    · cases h
  · cases h
theorem ag_call (H : Ag S h' hp) (hS : S κ) {c : Call} (ho : o.op = .call c) (hρ : c.args.toList.map ρ' = c.args.toList.map ρ) (hρf : ∀ f, c.callee = .value f → ρ' f = ρ f) (hn : Nms S (c.args.toList.map ρ)) (hnf : ∀ f, c.callee = .value f → Nm S (ρ f)) (hi : ∀ f, c.callee = .value f → Inn S hp (named.nameds (c.args.toList.map ρ) ++ named (ρ f))) (h : stepO P Sm' κ ρ hp o K = some r) : ∃ v u, K v u = some r ∧ Yld P Sm' κ o S ρ' h' v u := by
  unfold stepO at h; rw [ho] at h; dsimp only at h
  have fin : ∀ v u, K v u = some r → (∀ (R' : Type) (K' : V → Heap → Option R'), stepO P Sm' κ ρ' h' o K' = K' v u) → ∃ v u, K v u = some r ∧ Yld P Sm' κ o S ρ' h' v u := fun v u h1 h2 => ⟨v, u, h1, fun _ => h2⟩
  have hf : fresh h' κ = fresh hp κ := by unfold fresh; rw [H κ hS]
  split at h
  · rename_i hc
    split at h
    · rename_i v T hv hT
      have hnv : Nm S v := by rw [hv] at hn; exact hn.head
      split at h
      · rename_i n hl; exact fin _ _ h fun R' K' => by unfold stepO; rw [ho]; simp only [hc, hρ, hv, hT, lenV_ag H A T hnv, hl]
      · cases h
    · cases h
  · rename_i hc
    split at h
    · rename_i va vb T U hv hT
      have hna : Nm S va := by rw [hv] at hn; exact hn.head
      have hnb : Nm S vb := by rw [hv] at hn; exact hn.tail.head
      split at h
      · rename_i t ht hb
        split at h
        · rename_i xs n u hba
          split at h
          · rename_i ys m u' had
            obtain ⟨h1, h2⟩ := ifE_some h
            exact fin _ _ h2 fun R' K' => by unfold stepO; rw [ho]; simp only [hc, hρ, hv, hT, ht, hf, hb, baseV_ag H _ hna, hba, addsV_ag (H.app u) _ hnb, had, ifE_pos h1]
          · cases h
        · cases h
      · cases h
    · cases h
  · rename_i hc
    split at h
    · rename_i k x l hx
      split at h
      · rename_i z hz; exact fin _ _ h fun R' K' => by unfold stepO; rw [ho]; simp only [hc, hρ, hx, hz]
      · cases h
    · cases h
  · rename_i hc
    split at h
    · rename_i k x l hx
      split at h
      · rename_i z hz; exact fin _ _ h fun R' K' => by unfold stepO; rw [ho]; simp only [hc, hρ, hx, hz]
      · cases h
    · cases h
  · rename_i f hc
    split at h
    · rename_i g caps hf'
      have hnc : Nms S caps := by have := hnf f hc; rw [hf'] at this; exact this.fn
      have hin : Inn S hp (named.nameds (c.args.toList.map ρ ++ caps)) := fun r hr cs hl => by
        refine hi f hc r ?_ cs hl
        rw [hf', List.mem_append]
        have sp : ∀ (l l' : List V), ∀ r ∈ named.nameds (l ++ l'), r ∈ named.nameds l ∨ r ∈ named.nameds l' := by
          intro l l'
          induction l with
          | nil => exact fun r hr => .inr hr
          | cons v l ih =>
            intro r hr
            simp only [List.cons_append, named.nameds, List.mem_append] at hr ⊢
            rcases hr with hr | hr
            · exact .inl (.inl hr)
            · exact (ih r hr).imp .inr id
        rcases sp _ _ r hr with h | h
        · exact .inl h
        · right; simpa [named] using h
      obtain ⟨v, u, h1, h2⟩ := callV_ag H hS (hn.app hnc) hin h
      exact ⟨v, u, h1, fun hk R' K' => by unfold stepO; rw [ho]; simp only [hc, hρf f hc, hf', hρ]; exact h2 hk R' K'⟩
    · cases h
  · cases h
/-- One operation, over another heap that agrees on what is named. -/
theorem step_ag (H : Ag S h' hp) (hS : S κ) (hρ : ∀ x ∈ o.op.operands.toList, ρ' x = ρ x) (hn' : seesH o.op = true → Nms S (o.op.operands.toList.map ρ)) (hin : ∀ c, o.op = .call c → Inn S hp (named.nameds (o.op.operands.toList.map ρ))) (h : stepO P Sm' κ ρ hp o K = some r) : ∃ v u, K v u = some r ∧ Yld P Sm' κ o S ρ' h' v u := by
  have fin : ∀ v u, K v u = some r → (∀ (R' : Type) (K' : V → Heap → Option R'), stepO P Sm' κ ρ' h' o K' = K' v u) → ∃ v u, K v u = some r ∧ Yld P Sm' κ o S ρ' h' v u := fun v u h1 h2 => ⟨v, u, h1, fun _ => h2⟩
  have hf : fresh h' κ = fresh hp κ := by unfold fresh; rw [H κ hS]
  have nm : seesH o.op = true → ∀ x ∈ o.op.operands.toList, Nm S (ρ x) := fun hs x hx => (hn' hs).mem (List.mem_map.2 ⟨x, hx, rfl⟩)
  have um : ∀ {l : List Operand}, (∀ x ∈ l, x ∈ o.op.operands.toList) → l.map ρ' = l.map ρ := fun hl => List.map_congr_left fun x hx => hρ x (hl x hx)
  cases ho : o.op with
  | load T x => exact ag_load H ho (hρ x (by simp [ho, Op.operands])) (nm (by rw [ho]; rfl) x (by simp [ho, Op.operands])) h
  | store T y x => exact ag_store H hS ho (hρ y (by simp [ho, Op.operands])) (hρ x (by simp [ho, Op.operands])) (nm (by rw [ho]; rfl) y (by simp [ho, Op.operands])) (nm (by rw [ho]; rfl) x (by simp [ho, Op.operands])) h
  | convert T U x => exact ag_conv H ho (hρ x (by simp [ho, Op.operands])) (nm (by rw [ho]; rfl) x (by simp [ho, Op.operands])) h
  | slice T x lo hi mx =>
    refine ag_slice H hS ho (hρ x (by simp [ho, Op.operands])) ?_ ?_ (nm (by rw [ho]; rfl) x (by simp [ho, Op.operands])) h
    · cases lo with
      | none => rfl
      | some y => simp only [Option.map_some]; rw [hρ y (by simp [ho, Op.operands])]
    · cases hi with
      | none => rfl
      | some y => simp only [Option.map_some]; rw [hρ y (by simp [ho, Op.operands])]
  | fieldAddr T x f => exact ag_fieldAddr H ho (hρ x (by simp [ho, Op.operands])) (nm (by rw [ho]; rfl) x (by simp [ho, Op.operands])) h
  | indexAddr T x i => exact ag_indexAddr H ho (hρ x (by simp [ho, Op.operands])) (hρ i (by simp [ho, Op.operands])) (nm (by rw [ho]; rfl) x (by simp [ho, Op.operands])) h
  | call c =>
    have ha : ∀ x ∈ c.args.toList, x ∈ o.op.operands.toList := fun x hx => by simp [ho, Op.operands, Call.operands]; right; simpa using hx
    have hc : ∀ f, c.callee = .value f → f ∈ o.op.operands.toList := fun f hf => by simp [ho, Op.operands, Call.operands, hf]
    have sub : ∀ (l : List Operand), (∀ x ∈ l, x ∈ o.op.operands.toList) → ∀ r ∈ named.nameds (l.map ρ), r ∈ named.nameds (o.op.operands.toList.map ρ) := by
      have one : ∀ (L : List Operand) (x : Operand), x ∈ L → ∀ r ∈ named (ρ x), r ∈ named.nameds (L.map ρ) := by
        intro L
        induction L with
        | nil => intro x hx; simp at hx
        | cons y L ih =>
          intro x hx r hr
          simp only [List.map_cons, named.nameds, List.mem_append]
          rcases List.mem_cons.1 hx with rfl | hx
          · exact .inl hr
          · exact .inr (ih x hx r hr)
      intro l
      induction l with
      | nil => intro _ r hr; simp [named.nameds] at hr
      | cons x l ih =>
        intro hl r hr
        simp only [List.map_cons, named.nameds, List.mem_append] at hr
        rcases hr with hr | hr
        · exact one _ x (hl x (by simp)) r hr
        · exact ih (fun y hy => hl y (by simp [hy])) r hr
    refine ag_call H hS ho (um ha) (fun f hf => hρ f (hc f hf)) (fun q hq => ?_) (fun f hf => nm (by rw [ho]; rfl) f (hc f hf)) (fun f hf r hr cs hl => ?_) h
    case refine_2 =>
      refine hin c ho r ?_ cs hl
      rcases List.mem_append.1 hr with hr | hr
      · exact sub _ ha r hr
      · exact sub [f] (fun x hx => by rw [List.mem_singleton.1 hx]; exact hc f hf) r (by simp [named.nameds, hr])
    have key : ∀ (l : List Operand), (∀ x ∈ l, x ∈ o.op.operands.toList) → Nms S (l.map ρ) := by
      intro l
      induction l with
      | nil => exact fun _ => Nms.nil
      | cons x l ih => exact fun hl => Nms.cons (nm (by rw [ho]; rfl) x (hl x (by simp))) (ih fun y hy => hl y (by simp [hy]))
    exact key _ ha q hq
  | nilCheck x =>
    have e := hρ x (by simp [ho, Op.operands])
    have n := nm (by rw [ho]; rfl) x (by simp [ho, Op.operands])
    unfold stepO at h; rw [ho] at h; dsimp only at h
    split at h
    · rename_i r0 c hx
      have hq : S r0 := by rw [hx] at n; exact n.ptr
      split at h
      · rename_i hl; exact fin _ _ h fun R' K' => by unfold stepO; rw [ho]; simp only [e, hx, liveB_ag H hq, hl]
      · cases h
    · rename_i t y hx; exact fin _ _ h fun R' K' => by unfold stepO; rw [ho]; simp only [e, hx]
    · rename_i l c hx; exact fin _ _ h fun R' K' => by unfold stepO; rw [ho]; simp only [e, hx]
    · rename_i r0 is v p t hx
      have hq : S r0 := by rw [hx] at n; exact n.rp
      split at h
      · rename_i hl; exact fin _ _ h fun R' K' => by unfold stepO; rw [ho]; simp only [e, hx, liveV_ag H hq, hl]
      · cases h
    · cases h
  | move x => unfold stepO at h; rw [ho] at h; exact fin _ _ h fun R' K' => by unfold stepO; rw [ho]; simp only [hρ x (by simp [ho, Op.operands])]
  | assign x => unfold stepO at h; rw [ho] at h; exact fin _ _ h fun R' K' => by unfold stepO; rw [ho]; simp only [hρ x (by simp [ho, Op.operands])]
  | pick c x y =>
    unfold stepO at h; rw [ho] at h; dsimp only at h
    split at h
    · rename_i b hb
      exact fin _ _ h fun R' K' => by unfold stepO; rw [ho]; simp only [hρ c (by simp [ho, Op.operands]), hρ x (by simp [ho, Op.operands]), hρ y (by simp [ho, Op.operands]), hb]
    · cases h
  | alloc T =>
    unfold stepO at h; rw [ho] at h; dsimp only at h
    split at h
    · rename_i t ht hb; exact fin _ _ h fun R' K' => by unfold stepO; rw [ho]; simp only [ht, hf, hb]
    · rename_i ht hb
      split at h
      · rename_i hT; exact fin _ _ h fun R' K' => by unfold stepO; rw [ho]; simp only [ht, hf, hb, hT]
      · cases h
    · cases h
  | box T x =>
    unfold stepO at h; rw [ho] at h; dsimp only at h
    split at h
    · rename_i t ht hb
      split at h
      · rename_i hc; exact fin _ _ h fun R' K' => by unfold stepO; rw [ho]; simp only [hρ x (by simp [ho, Op.operands]), ht, hf, hb, hc]
      · cases h
    · cases h
  | build T parts =>
    have e : parts.toList.map (fun p => (p.1, ρ' p.2)) = parts.toList.map (fun p => (p.1, ρ p.2)) := List.map_congr_left fun p hp => by rw [hρ p.2 (by simp only [ho, Op.operands]; exact List.mem_map.2 ⟨p, hp, rfl⟩)]
    unfold stepO at h; rw [ho] at h; dsimp only at h
    split at h
    · rename_i t ht hb
      split at h
      · rename_i l hl; exact fin _ _ h fun R' K' => by unfold stepO; rw [ho]; simp only [e, ht, hb, hl]
      · cases h
    · cases h
  | buildSlice T n parts =>
    have e : parts.toList.map (fun p => (p.1, ρ' p.2)) = parts.toList.map (fun p => (p.1, ρ p.2)) := List.map_congr_left fun p hp => by rw [hρ p.2 (by simp only [ho, Op.operands]; exact List.mem_map.2 ⟨p, hp, rfl⟩)]
    unfold stepO at h; rw [ho] at h; dsimp only at h
    split at h
    · rename_i t vs ht hv hb
      have hm : ∀ (i : Nat) (l : List (Nat × V)) (vs : List V), partsDense i l = some vs → vs = l.map Prod.snd := by
        intro i l
        induction l generalizing i with
        | nil => intro vs h; simp only [partsDense] at h; cases h; rfl
        | cons p l ih =>
          intro vs h
          obtain ⟨j, v⟩ := p
          simp only [partsDense] at h
          split at h
          · split at h
            · rename_i l' h'; cases h; rw [ih _ _ h']; rfl
            · cases h
          · cases h
      have hvs : Nms S vs := by
        have := hm 0 _ _ hv
        rw [this, List.map_map]
        have : (o.op.operands.toList.map ρ) = parts.toList.map (Prod.snd ∘ fun p => (p.1, ρ p.2)) := by simp [ho, Op.operands, Function.comp_def]
        rw [← this]; exact hn' (by rw [ho]; rfl)
      split at h
      · rename_i xs m u h1 h2; exact fin _ _ h fun R' K' => by unfold stepO; rw [ho]; simp only [e, ht, hv, hf, hb, h1, elemVs_ag _ H hvs, h2]
      · cases h
    · cases h
  | binOp op T x y z =>
    unfold stepO at h; rw [ho] at h; dsimp only at h
    obtain ⟨v, h1, h2⟩ := bin_cps h
    exact fin _ _ h1 fun R' K' => by unfold stepO; rw [ho]; simp only [hρ x (by simp [ho, Op.operands]), hρ y (by simp [ho, Op.operands])]; exact h2 R' fun v => K' v []
  | unOp op T x =>
    unfold stepO at h; rw [ho] at h; dsimp only at h
    split at h
    · rename_i b hx; exact fin _ _ h fun R' K' => by unfold stepO; rw [ho]; simp only [hρ x (by simp [ho, Op.operands]), hx]
    · rename_i b hx; exact fin _ _ h fun R' K' => by unfold stepO; rw [ho]; simp only [hρ x (by simp [ho, Op.operands]), hx]
    · rename_i k n hx; exact fin _ _ h fun R' K' => by unfold stepO; rw [ho]; simp only [hρ x (by simp [ho, Op.operands]), hx]
    · cases h
  | makeFunc fn first caps =>
    unfold stepO at h; rw [ho] at h
    cases fn with
    | func f =>
      dsimp only at h
      split at h
      · rename_i hf'
        have e : caps.toList.map ρ' = caps.toList.map ρ := um fun x hx => by simp [ho, Op.operands]; right; simpa using hx
        exact fin _ _ h fun R' K' => by unfold stepO; rw [ho]; simp only [hf', e]
      · cases h
    | _ => cases h
  | makeSlice T l c =>
    unfold stepO at h; rw [ho] at h; dsimp only at h
    split at h
    · rename_i t k n k' m ht hl hc hb
      split at h
      case h_1 => cases h
      rename_i hne
      obtain ⟨c1, h1⟩ := ifE_some h
      obtain ⟨c2, h2⟩ := ifE_some h1
      obtain ⟨c3, h3⟩ := ifE_some h2
      exact fin _ _ h3 fun R' K' => by unfold stepO; rw [ho]; simp only [hρ l (by simp [ho, Op.operands]), hρ c (by simp [ho, Op.operands]), ht, hl, hc, hf, hb, hne, ifE_pos c1, ifE_pos c2, ifE_pos c3]
    · cases h
  | field T x f =>
    unfold stepO at h; rw [ho] at h; dsimp only at h
    split at h
    · rename_i c p l t h1 h2 h3
      obtain ⟨v, u, k1, _, k2⟩ := getC_cps h
      exact fin _ _ k1 fun R' K' => by unfold stepO; rw [ho]; simp only [hρ x (by simp [ho, Op.operands]), h1, h2, h3]; exact k2 R' K'
    · cases h
  | index T x i =>
    unfold stepO at h; rw [ho] at h; dsimp only at h
    split at h
    · rename_i s hx
      split at h
      · rename_i ht
        obtain ⟨j, k1, g1⟩ := idx_cps h
        exact fin _ _ k1 fun R' K' => by unfold stepO; rw [ho]; simp only [hρ x (by simp [ho, Op.operands]), hρ i (by simp [ho, Op.operands]), hx, ht, g1]
      · cases h
    · cases h
  | extract x i =>
    unfold stepO at h; rw [ho] at h; dsimp only at h
    split at h
    · rename_i l hx
      split at h
      · rename_i v hv; exact fin _ _ h fun R' K' => by unfold stepO; rw [ho]; simp only [hρ x (by simp [ho, Op.operands]), hx, hv]
      · cases h
    · cases h
  | makeMap T rs =>
    unfold stepO at h; rw [ho] at h
    cases rs with
    | some _ => cases h
    | none =>
      dsimp only at h
      split at h
      · rename_i k v ht hκ; exact fin _ _ h fun R' K' => by unfold stepO; rw [ho]; simp only [ht, hf, hκ]
      · cases h
  | lookup T m x ok =>
    have n1 := nm (by rw [ho]; rfl) m (by simp [ho, Op.operands])
    have n2 := nm (by rw [ho]; rfl) x (by simp [ho, Op.operands])
    have r1 := hρ m (by simp [ho, Op.operands])
    have r2 := hρ x (by simp [ho, Op.operands])
    unfold stepO at h; rw [ho] at h; dsimp only at h
    split at h
    · rename_i k v t xs ht hm hst
      split at h
      · rename_i xs' y hc hy
        cases ok with
        | true => exact fin _ _ h fun R' K' => by unfold stepO; rw [ho]; simp only [r1, r2, ht, rowOf_ag H n1, hm, hst, hc, datum_ag H k n2, hy]
        | false => exact fin _ _ h fun R' K' => by unfold stepO; rw [ho]; simp only [r1, r2, ht, rowOf_ag H n1, hm, hst, hc, datum_ag H k n2, hy]
      · cases h
    · cases h
  | mapUpdate T m x z =>
    have n1 := nm (by rw [ho]; rfl) m (by simp [ho, Op.operands])
    have n2 := nm (by rw [ho]; rfl) x (by simp [ho, Op.operands])
    have n3 := nm (by rw [ho]; rfl) z (by simp [ho, Op.operands])
    have r1 := hρ m (by simp [ho, Op.operands])
    have r2 := hρ x (by simp [ho, Op.operands])
    have r3 := hρ z (by simp [ho, Op.operands])
    unfold stepO at h; rw [ho] at h; dsimp only at h
    split at h
    · rename_i k v q ver e ht hm hst
      have hq : S q := by rw [hm] at n1; exact n1.ref
      split at h
      · rename_i t0 n v0 xs hq'
        split at h
        · rename_i xs' y y2 hc hy hy2 hf'
          exact fin _ _ h fun R' K' => by unfold stepO; rw [ho]; simp only [r1, r2, r3, ht, hm, hst, H.look hq, hq', hc, datum_ag H k n2, hy, datum_ag H v n3, hy2, hf']
        · cases h
      · cases h
    · cases h
  | _ => unfold stepO at h; rw [ho] at h; cases h
end
end Go.Proofs.YtpoppblfnaipbaaDoor.Eng
/-! ## The engine: regions of a drawn order: the walk in the order of the text, told step by step. -/
namespace Go.Proofs.YtpoppblfnaipbaaDoor.Eng
open Go
set_option autoImplicit false
set_option linter.unusedVariables false
set_option linter.unusedSimpArgs false

/-- The same value, as far as memory can tell. -/
def VE (x y : Option V) : Prop := x = y ∨ ∃ v v' b, x = some v ∧ y = some v' ∧ v.asB = some b ∧ v'.asB = some b
theorem VE.refl (x : Option V) : VE x x := .inl rfl
theorem VE.symm {x y : Option V} (h : VE x y) : VE y x := by
  rcases h with h | ⟨v, v', b, h1, h2, h3, h4⟩
  · exact .inl h.symm
  · exact .inr ⟨v', v, b, h2, h1, h4, h3⟩
theorem VE.trans {x y z : Option V} (h : VE x y) (h' : VE y z) : VE x z := by
  rcases h with rfl | ⟨v, v', b, h1, h2, h3, h4⟩
  · exact h'
  · rcases h' with rfl | ⟨v1, v2, b2, g1, g2, g3, g4⟩
    · exact .inr ⟨v, v', b, h1, h2, h3, h4⟩
    · rw [h2] at g1; cases g1
      rw [h4] at g3; cases g3
      exact .inr ⟨v, v2, b, h1, g2, h3, g4⟩
theorem VE.nil {x : Option V} (h : VE x none) : x = none := by
  rcases h with h | ⟨v, v', b, h1, h2, h3, h4⟩
  · exact h
  · cases h2
theorem VE.asB {x y : Option V} (h : VE x y) {v : V} {b : Bool} (hx : x = some v) (hb : v.asB = some b) : ∃ v', y = some v' ∧ v'.asB = some b := by
  rcases h with rfl | ⟨v1, v', b', h1, h2, h3, h4⟩
  · exact ⟨v, hx, hb⟩
  · rw [hx] at h1; cases h1
    rw [hb] at h3; cases h3
    exact ⟨v', h2, h4⟩
theorem VE.other {x y : Option V} (h : VE x y) {v : V} (hx : x = some v) (hb : v.asB = Option.none) : y = some v := by
  rcases h with rfl | ⟨v1, v', b', h1, h2, h3, h4⟩
  · exact hx
  · rw [hx] at h1; cases h1
    rw [hb] at h3; cases h3
theorem asB_vr {w : World} {D : Bs} {η : Nat → Gh} {h : Heap} {v : V} {b : Bool} (hb : v.asB = some b) : Vr w D η h v (.bool b) := by
  cases v with
  | d t x =>
    cases t <;> simp [V.asB] at hb
    subst hb
    exact .d .bool x _ rfl rfl
  | k x => cases x <;> simp [V.asB] at hb; subst hb; exact .k _
  | _ => simp [V.asB] at hb

section
variable {P : Program} {B : Base} {D : Bs} {η : Nat → Gh} {O : Nat → Bs} {σ : St} {a : Act} {w : World}
/-- A state told in other words. -/
theorem Rel.ve {τ τ' : St} (hR : Rel B τ a w) (ht : ∀ d, VE (fnd τ'.t d) (fnd τ.t d)) (hh : ∀ q, fnd τ'.h q = fnd τ.h q) : Rel B τ' a w := by
  obtain ⟨D, η, O, G⟩ := hR
  have hl : ∀ q, look τ'.h q = look τ.h q := fun q => by unfold look; rw [hh q]
  have Ev : Evo w D η τ.h w D η τ'.h :=
    FrzH.evo ⟨fun r hr => by rw [hh r]; exact hr, fun r hr => by rw [hh r]; exact hr, fun r l h => by rw [← hl r]; exact h, fun r t n v fz xs h => ⟨n, fz, by rw [← hl r]; exact h⟩⟩ (fun _ h => h) w η
  refine ⟨D, η, O, { G with objs := ?_, tmps := ?_, hb := fun i b h => ⟨by rw [hh i]; exact (G.hb i b h).1, (G.hb i b h).2⟩ }⟩
  · intro r ob hr
    rw [hl r] at hr
    exact (G.objs r ob hr).mono Ev (look_some_isSome hr) (Same.refl _ _)
  · intro i v hv
    rcases ht i with h | ⟨v1, v', b, h1, h2, h3, h4⟩
    · rw [hv] at h
      obtain ⟨g1, g2⟩ := G.tmps i v h.symm
      exact ⟨g1, g2.mono Ev⟩
    · rw [hv] at h1; cases h1
      obtain ⟨g1, g2⟩ := G.tmps i v' h2
      refine ⟨g1, ?_⟩
      rw [g2.asB h4]
      exact asB_vr h3
/-- The count of draws is nothing to a state. -/
theorem Rel.drew (hR : Rel B σ a w) (n : Nat) : Rel B σ a { w with drawn := n } := by
  obtain ⟨D, η, O, G⟩ := hR
  have hs : ∀ Q : Bs, Same Q w { w with drawn := n } := fun _ _ _ => rfl
  have Ev : Evo w D η σ.h { w with drawn := n } D η ([] ++ σ.h) := G.evo (fun _ h => h) (hs D) (fun _ _ => rfl) (fun r hr => .same rfl (hs _))
  have := G.go (u := []) (dst := none) (v := .un) (x := undef) (w' := { w with drawn := n }) (fun d h => by cases h) Ev rfl rfl rfl (Nat.le_refl _) (fun _ _ => rfl) G.okeep G.dlt (fun _ h => .inl h) G.olt G.odis (fun r ob hr => (G.objs r ob hr).mono Ev (look_some_isSome hr) (hs _)) (.un _)
  exact ⟨D, η, O, this⟩

/-! what comes ahead -/
theorem ancs_len : ∀ (os : List Oper) (ms : List Nat), (ancs os ms).length = ms.length + os.length
  | [], ms => rfl
  | o :: os, ms => by rw [ancs, ancs_len]; simp; omega
theorem ancs_pre : ∀ (os : List Oper) (ms : List Nat) (j : Nat), j < ms.length → (ancs os ms).getD j 0 = ms.getD j 0
  | [], ms, j, h => rfl
  | o :: os, ms, j, h => by
    rw [ancs, ancs_pre os _ j (by simp; omega)]
    simp [List.getD, List.getElem?_append_left h]
theorem ancOf_bit {ms : List Nat} {k : Nat} : ∀ {es : List Edge}, (ancOf ms es).testBit k = true → ∃ e ∈ es, Region.binds .any e = true ∧ (k = e.on ∨ (ms.getD e.on 0).testBit k = true)
  | [], h => by simp [ancOf] at h
  | e :: es, h => by
    unfold ancOf at h
    split at h
    · rename_i hb
      rw [Nat.testBit_or, Nat.testBit_or, Nat.testBit_two_pow] at h
      simp only [Bool.or_eq_true, decide_eq_true_eq] at h
      rcases h with (h | h) | h
      · obtain ⟨e', he, h1, h2⟩ := ancOf_bit h
        exact ⟨e', List.mem_cons_of_mem _ he, h1, h2⟩
      · exact ⟨e, List.mem_cons_self, hb, .inl h.symm⟩
      · exact ⟨e, List.mem_cons_self, hb, .inr h⟩
    · obtain ⟨e', he, h1, h2⟩ := ancOf_bit h
      exact ⟨e', List.mem_cons_of_mem _ he, h1, h2⟩
theorem anc_bit {k : Nat} : ∀ (os : List Oper) (ms : List Nat) (i : Nat) (o : Oper), os[i]? = some o → ((ancs os ms).getD (ms.length + i) 0).testBit k = true →
    ∃ e ∈ o.after.toList, Region.binds .any e = true ∧ (k = e.on ∨ ((ancs os ms).getD e.on 0).testBit k = true)
  | [], ms, i, o, ho, h => by simp at ho
  | o' :: os, ms, 0, o, ho, h => by
    obtain rfl : o' = o := by simpa using ho
    rw [ancs, Nat.add_zero, ancs_pre _ _ _ (by simp)] at h
    have e : (ms ++ [ancOf ms o'.after.toList]).getD ms.length 0 = ancOf ms o'.after.toList := by simp [List.getD]
    rw [e] at h
    obtain ⟨e', he, h1, h2⟩ := ancOf_bit h
    refine ⟨e', he, h1, h2.imp id fun h2 => ?_⟩
    by_cases hl : e'.on < ms.length
    · rw [ancs_pre _ _ _ hl]; exact h2
    · have : ms.getD e'.on 0 = 0 := by simp [List.getD, List.getElem?_eq_none (Nat.le_of_not_lt hl)]
      rw [this] at h2; simp at h2
  | o' :: os, ms, i + 1, o, ho, h => by
    have ho : os[i]? = some o := by simpa using ho
    rw [ancs] at h ⊢
    have e : ms.length + (i + 1) = (ms ++ [ancOf ms o'.after.toList]).length + i := by simp; omega
    rw [e] at h
    exact anc_bit os _ i o ho h

/-! the walk -/
def pairK (v : V) (u : Heap) : Option (V × Heap) := some (v, u)
/-- A guard, as it was seen. -/
def Gd (all : Array Oper) (σ : St) (o : Oper) (pre : St) (ex : Bool) : Prop :=
  (o.guard = none ∧ pre = σ ∧ ex = true) ∨ ∃ j want d, o.guard = some (j, want) ∧ dstOf all j = some d ∧
    ((∃ v b, fnd σ.t d = some v ∧ v.asB = some b ∧ ex = (b == want) ∧ (pre = σ ∨ pre = σ.after (some d) (.k (.bool b)) [])) ∨ (∃ l, fnd σ.t d = some (.k (.tuple l)) ∧ ex = false ∧ pre = σ))
/-- The roots that an operation names, and those that it turns. -/
def names (id k : Nat) (o : Oper) (pre : St) (u : Heap) : List Nat := keyOf id k o :: namesO pre o ++ keysOf u
/-- A walk in the order of the text: states, states behind the guards' notes, what each yields. -/
structure Trc where
  st : Nat → St
  pre : Nat → St
  ex : Nat → Bool
  v : Nat → V
  u : Nat → Heap
structure Told (P : Program) {A : Ann} (Sm' : Sm A) (id : Nat) (all : Array Oper) (i : Nat) (T : Trc) : Prop where
  gd : ∀ k o, i ≤ k → all[k]? = some o → Gd all (T.st k) o (T.pre k) (T.ex k)
  ok : ∀ k o, i ≤ k → all[k]? = some o → T.ex k = true → stepO P Sm' (keyOf id k o) (T.pre k).eval (T.pre k).h o pairK = some (T.v k, T.u k)
  no : ∀ k o, i ≤ k → all[k]? = some o → T.ex k = false → T.v k = .k (.tuple #[]) ∧ T.u k = []
  nx : ∀ k o, i ≤ k → all[k]? = some o → T.st (k + 1) = (T.pre k).after o.dst (T.v k) (T.u k)
  ap : ∀ j k oj ok, i ≤ j → j < k → all[j]? = some oj → all[k]? = some ok → T.ex j = true → T.ex k = true → ((ancs all.toList []).getD k 0).testBit j = false →
    (∀ q ∈ keysOf (T.u j), q ∉ names id k ok (T.pre k) (T.u k)) ∧ ∀ q ∈ keysOf (T.u k), q ∉ names id j oj (T.pre j) (T.u j)
theorem memN_iff {a : Nat} : ∀ {l : List Nat}, memN a l = true ↔ a ∈ l
  | [] => by simp [memN]
  | b :: l => by
    unfold memN
    split
    · rename_i h; have := Nat.eq_of_beq_eq_true h; simp [this]
    · rename_i h
      have : a ≠ b := by rintro rfl; simp at h
      rw [memN_iff]; simp [this]
theorem disj_ok {S : List Nat} : ∀ {l : List Nat}, disj S l = true → ∀ q ∈ l, q ∉ S
  | [], _, q, hq => by simp at hq
  | a :: l, h, q, hq => by
    unfold disj at h
    split at h
    · cases h
    · rename_i hm
      rcases List.mem_cons.1 hq with rfl | hq
      · intro hs; rw [memN_iff.2 hs] at hm; cases hm
      · exact disj_ok h q hq
theorem clear_ok {m : Nat} {S : List Nat} : ∀ {l : List (Nat × List Nat)}, clear m S l = true → ∀ k W, (k, W) ∈ l → m.testBit k = false → ∀ q ∈ W, q ∉ S
  | [], _, k, W, hm, _ => by simp at hm
  | (k0, W0) :: l, h, k, W, hm, hb => by
    unfold clear at h
    split at h
    · rename_i hb0
      rcases List.mem_cons.1 hm with e | hm
      · cases e; rw [hb0] at hb; cases hb
      · exact clear_ok h k W hm hb
    · split at h
      · rename_i hd
        rcases List.mem_cons.1 hm with e | hm
        · cases e; exact disj_ok hd
        · exact clear_ok h k W hm hb
      · cases h
theorem guardO_ok {R : Type} {r : R} {all : Array Oper} {o : Oper} {go skip : St → Option R} (h : guardO all σ o go skip = some r) :
    ∃ pre, (Gd all σ o pre true ∧ go pre = some r) ∨ (Gd all σ o pre false ∧ skip pre = some r) := by
  unfold guardO at h
  split at h
  · rename_i hg; exact ⟨σ, .inl ⟨.inl ⟨hg, rfl, rfl⟩, h⟩⟩
  · rename_i j want hg
    split at h
    case h_2 => cases h
    rename_i d hj
    split at h
    · rename_i b hb
      have hb := get_some hb (by simp)
      split at h
      · exact ⟨σ, .inl ⟨.inr ⟨j, true, d, hg, hj, .inl ⟨_, true, hb, rfl, rfl, .inl rfl⟩⟩, h⟩⟩
      · exact ⟨σ, .inl ⟨.inr ⟨j, false, d, hg, hj, .inl ⟨_, false, hb, rfl, rfl, .inl rfl⟩⟩, h⟩⟩
      · rename_i n1 n2
        refine ⟨σ, .inr ⟨.inr ⟨j, want, d, hg, hj, .inl ⟨_, b, hb, rfl, ?_, .inl rfl⟩⟩, h⟩⟩
        cases b <;> cases want <;> first | rfl | exact (n1 rfl rfl).elim | exact (n2 rfl rfl).elim
    · rename_i b hb
      have hb := get_some hb (by simp)
      unfold ifE at h
      split at h
      · rename_i e
        subst e
        exact ⟨_, .inl ⟨.inr ⟨j, b, d, hg, hj, .inl ⟨_, b, hb, rfl, by simp, .inr rfl⟩⟩, h⟩⟩
      · rename_i e
        have e2 : (!want) = b := by cases b <;> cases want <;> simp_all
        rw [e2] at h
        refine ⟨_, .inr ⟨.inr ⟨j, want, d, hg, hj, .inl ⟨_, b, hb, rfl, ?_, .inr rfl⟩⟩, h⟩⟩
        cases b <;> cases want <;> simp_all
    · rename_i l hb
      exact ⟨σ, .inr ⟨.inr ⟨j, want, d, hg, hj, .inr ⟨l, get_some hb (by simp), rfl, rfl⟩⟩, h⟩⟩
    · cases h
/-- A function with another value at one place. -/
def upd {α : Type} (f : Nat → α) (i : Nat) (x : α) : Nat → α := fun k => if k = i then x else f k
theorem upd_at {α : Type} (f : Nat → α) (i : Nat) (x : α) : upd f i x i = x := if_pos rfl
theorem upd_ne {α : Type} (f : Nat → α) {i k : Nat} (x : α) (h : k ≠ i) : upd f i x k = f k := if_neg h
theorem draw_told {A : Ann} {Sm' : Sm A} {R : Type} {r : R} {id : Nat} {all : Array Oper} {K : St → Option R} : ∀ (os : List Oper) (i : Nat) (lw ln : List (Nat × List Nat)) (σ : St), (∀ j, all[i + j]? = os[j]?) → runDraw P Sm' id all (ancs all.toList []) lw ln i os σ K = some r →
    ∃ T : Trc, Told P Sm' id all i T ∧ T.st i = σ ∧ K (T.st (i + os.length)) = some r ∧
      (∀ k ok, i ≤ k → all[k]? = some ok → T.ex k = true → ∀ j W, (j, W) ∈ lw → ((ancs all.toList []).getD k 0).testBit j = false → ∀ q ∈ W, q ∉ names id k ok (T.pre k) (T.u k)) ∧
      (∀ k ok, i ≤ k → all[k]? = some ok → T.ex k = true → ∀ j N, (j, N) ∈ ln → ((ancs all.toList []).getD k 0).testBit j = false → ∀ q ∈ keysOf (T.u k), q ∉ N)
  | [], i, lw, ln, σ, hall, h => by
    simp only [runDraw] at h
    have nn : ∀ k o, i ≤ k → all[k]? ≠ some o := fun k o hk ho => by
      have := hall (k - i)
      rw [show i + (k - i) = k by omega, ho] at this
      simp at this
    exact ⟨⟨fun _ => σ, fun _ => σ, fun _ => true, fun _ => .un, fun _ => []⟩, ⟨fun k o hk ho => (nn k o hk ho).elim, fun k o hk ho => (nn k o hk ho).elim, fun k o hk ho => (nn k o hk ho).elim, fun k o hk ho => (nn k o hk ho).elim, fun j k oj ok hj _ hoj => (nn j oj hj hoj).elim⟩, rfl, h, fun k o hk ho => (nn k o hk ho).elim, fun k o hk ho => (nn k o hk ho).elim⟩
  | o :: os, i, lw, ln, σ, hall, h => by
    have ho : all[i]? = some o := by have := hall 0; simpa using this
    have hall' : ∀ j, all[i + 1 + j]? = os[j]? := fun j => by
      have := hall (j + 1)
      rw [show i + 1 + j = i + (j + 1) by omega]; simpa using this
    simp only [runDraw] at h
    obtain ⟨pre, ⟨hg, h⟩ | ⟨hg, h⟩⟩ := guardO_ok h
    · -- carried out
      obtain ⟨v, u, h1, h2⟩ := step_ag (S := fun _ => True) (ρ' := pre.eval) (h' := pre.h) (fun q _ => rfl) trivial (fun x _ => rfl) (fun _ q _ => trivial) (fun _ _ _ _ _ _ _ _ => trivial) h
      have h2 := h2 (fun q _ => trivial) (V × Heap) pairK
      rw [force_eq] at h1
      split at h1
      case h_2 => cases h1
      rename_i hw hn
      obtain ⟨T, H, e1, e2, e3, e4⟩ := draw_told os (i + 1) _ _ _ hall' h1
      refine ⟨⟨upd T.st i σ, upd T.pre i pre, upd T.ex i true, upd T.v i v, upd T.u i u⟩, ⟨?_, ?_, ?_, ?_, ?_⟩, upd_at _ _ _, ?_, ?_, ?_⟩
      · intro k ok hk hok
        by_cases e : k = i
        · subst e; rw [ho] at hok; cases hok; simp only [upd_at]; exact hg
        · simp only [upd_ne _ _ e]; exact H.gd k ok (by omega) hok
      · intro k ok hk hok hex
        by_cases e : k = i
        · subst e; rw [ho] at hok; cases hok; simp only [upd_at]; exact h2
        · simp only [upd_ne _ _ e] at hex ⊢; exact H.ok k ok (by omega) hok hex
      · intro k ok hk hok hex
        by_cases e : k = i
        · subst e; simp only [upd_at] at hex; cases hex
        · simp only [upd_ne _ _ e] at hex ⊢; exact H.no k ok (by omega) hok hex
      · intro k ok hk hok
        by_cases e : k = i
        · subst e; rw [ho] at hok; cases hok; simp only [upd_at]; rw [upd_ne _ _ (by omega)]; exact e1
        · simp only [upd_ne _ _ e]; rw [upd_ne _ _ (by omega)]; exact H.nx k ok (by omega) hok
      · intro j k oj ok hj hjk hoj hok hej hek hb
        have ek : k ≠ i := by omega
        simp only [upd_ne _ _ ek] at hek ⊢
        by_cases e : j = i
        · subst e; rw [ho] at hoj; cases hoj; simp only [upd_at]
          refine ⟨?_, e4 k ok (by omega) hok hek _ _ List.mem_cons_self hb⟩
          have := e3 k ok (by omega) hok hek
          cases hku : keysOf u with
          | nil => intro q hq; simp at hq
          | cons q0 qs =>
            rw [hku] at this
            exact this j _ List.mem_cons_self hb
        · simp only [upd_ne _ _ e] at hej ⊢
          exact H.ap j k oj ok (by omega) hjk hoj hok hej hek hb
      · have : i + (o :: os).length = i + 1 + os.length := by simp; omega
        rw [this]; show K (upd T.st i σ _) = some r; rw [upd_ne _ _ (by omega)]; exact e2
      · intro k ok hk hok hex j W hm hb
        by_cases e : k = i
        · subst e; rw [ho] at hok; cases hok; simp only [upd_at]
          exact clear_ok hw j W hm hb
        · simp only [upd_ne _ _ e] at hex ⊢
          refine e3 k ok (by omega) hok hex j W ?_ hb
          cases keysOf u with
          | nil => exact hm
          | cons _ _ => exact List.mem_cons_of_mem _ hm
      · intro k ok hk hok hex j N hm hb
        by_cases e : k = i
        · subst e; rw [ho] at hok; cases hok; simp only [upd_at]
          intro q hq hqN
          cases hku : keysOf u with
          | nil => rw [hku] at hq; simp at hq
          | cons q0 qs =>
            rw [hku] at hn hq
            exact clear_ok hn j N hm hb q hqN hq
        · simp only [upd_ne _ _ e] at hex ⊢
          exact e4 k ok (by omega) hok hex j N (List.mem_cons_of_mem _ hm) hb
    · -- passed over
      obtain ⟨T, H, e1, e2, e3, e4⟩ := draw_told os (i + 1) _ _ _ hall' h
      refine ⟨⟨upd T.st i σ, upd T.pre i pre, upd T.ex i false, upd T.v i (.k (.tuple #[])), upd T.u i []⟩, ⟨?_, ?_, ?_, ?_, ?_⟩, upd_at _ _ _, ?_, ?_, ?_⟩
      · intro k ok hk hok
        by_cases e : k = i
        · subst e; rw [ho] at hok; cases hok; simp only [upd_at]; exact hg
        · simp only [upd_ne _ _ e]; exact H.gd k ok (by omega) hok
      · intro k ok hk hok hex
        by_cases e : k = i
        · subst e; simp only [upd_at] at hex; cases hex
        · simp only [upd_ne _ _ e] at hex ⊢; exact H.ok k ok (by omega) hok hex
      · intro k ok hk hok hex
        by_cases e : k = i
        · subst e; exact ⟨upd_at _ _ _, upd_at _ _ _⟩
        · simp only [upd_ne _ _ e] at hex ⊢; exact H.no k ok (by omega) hok hex
      · intro k ok hk hok
        by_cases e : k = i
        · subst e; rw [ho] at hok; cases hok; simp only [upd_at]; rw [upd_ne _ _ (by omega)]; exact e1
        · simp only [upd_ne _ _ e]; rw [upd_ne _ _ (by omega)]; exact H.nx k ok (by omega) hok
      · intro j k oj ok hj hjk hoj hok hej hek hb
        have ek : k ≠ i := by omega
        simp only [upd_ne _ _ ek] at hek ⊢
        by_cases e : j = i
        · subst e; simp only [upd_at] at hej; cases hej
        · simp only [upd_ne _ _ e] at hej ⊢
          exact H.ap j k oj ok (by omega) hjk hoj hok hej hek hb
      · have : i + (o :: os).length = i + 1 + os.length := by simp; omega
        rw [this]; show K (upd T.st i σ _) = some r; rw [upd_ne _ _ (by omega)]; exact e2
      · intro k ok hk hok hex j W hm hb
        by_cases e : k = i
        · subst e; simp only [upd_at] at hex; cases hex
        · simp only [upd_ne _ _ e] at hex ⊢; exact e3 k ok (by omega) hok hex j W hm hb
      · intro k ok hk hok hex j N hm hb
        by_cases e : k = i
        · subst e; simp only [upd_at] at hex; cases hex
        · simp only [upd_ne _ _ e] at hex ⊢; exact e4 k ok (by omega) hok hex j N hm hb
end
end Go.Proofs.YtpoppblfnaipbaaDoor.Eng
/-! ## The engine: regions of a drawn order are sound. -/
namespace Go.Proofs.YtpoppblfnaipbaaDoor.Eng
open Go
set_option autoImplicit false
set_option linter.unusedVariables false
set_option linter.unusedSimpArgs false

/-- The temporaries, the heap, where some operations have been carried out. -/
def tX (all : Array Oper) (t0 : Tmps) (v : Nat → V) (X : Nat → Bool) : Nat → Tmps
  | 0 => t0
  | m + 1 => match X m, dstOf all m with | true, some d => (d, v m) :: tX all t0 v X m | _, _ => tX all t0 v X m
def hX (h0 : Heap) (u : Nat → Heap) (X : Nat → Bool) : Nat → Heap
  | 0 => h0
  | m + 1 => match X m with | true => u m ++ hX h0 u X m | false => hX h0 u X m

theorem fnd_none_keys : ∀ {u : Heap} {q : Nat}, q ∉ keysOf u → fnd u q = none
  | [], q, _ => rfl
  | (r, o) :: u, q, h => by
    simp only [keysOf, List.mem_cons, not_or] at h
    rw [fnd_cons, if_neg (Ne.symm h.1)]; exact fnd_none_keys h.2
theorem keys_fnd : ∀ {u : Heap} {q : Nat}, q ∈ keysOf u → fnd u q ≠ none
  | [], q, h => by simp [keysOf] at h
  | (r, o) :: u, q, h => by
    rw [fnd_cons]
    split
    · simp
    · rename_i hne
      simp only [keysOf, List.mem_cons] at h
      exact keys_fnd (h.resolve_left (Ne.symm hne))
section
variable {all : Array Oper} {t0 : Tmps} {h0 : Heap} {v : Nat → V} {u : Nat → Heap} {X Y : Nat → Bool}
theorem tX_no {d : Nat} : ∀ {m : Nat}, (∀ j, j < m → X j = true → dstOf all j ≠ some d) → fnd (tX all t0 v X m) d = fnd t0 d
  | 0, _ => rfl
  | m + 1, h => by
    have ih := tX_no (d := d) (m := m) fun j hj => h j (by omega)
    simp only [tX]
    split
    · rename_i d' hx hd
      have : d' ≠ d := fun e => h m (by omega) hx (e ▸ hd)
      rw [fnd_cons, if_neg this]; exact ih
    · exact ih
theorem tX_at {d i : Nat} (hi : dstOf all i = some d) (hX : X i = true) : ∀ {m : Nat}, i < m → (∀ j, j < m → dstOf all j = some d → j = i) → fnd (tX all t0 v X m) d = some (v i)
  | 0, h, _ => absurd h (Nat.not_lt_zero _)
  | m + 1, h, hu => by
    simp only [tX]
    by_cases e : m = i
    · subst e
      rw [hX, hi]
      simp only
      rw [fnd_cons, if_pos rfl]
    · have ih := tX_at hi hX (m := m) (by omega) (fun j hj => hu j (by omega))
      split
      · rename_i d' hx hd
        have : d' ≠ d := fun e' => e (hu m (by omega) (e' ▸ hd))
        rw [fnd_cons, if_neg this]; exact ih
      · exact ih
theorem tX_eq {d m m' : Nat} (hu : ∀ j j', dstOf all j = some d → dstOf all j' = some d → j = j') (h : ∀ j, dstOf all j = some d → ((j < m ∧ X j = true) ↔ (j < m' ∧ Y j = true))) : fnd (tX all t0 v X m) d = fnd (tX all t0 v Y m') d := by
  by_cases e : ∃ j, j < m ∧ X j = true ∧ dstOf all j = some d
  · obtain ⟨j, h1, h2, h3⟩ := e
    obtain ⟨h4, h5⟩ := (h j h3).1 ⟨h1, h2⟩
    rw [tX_at h3 h2 h1 (fun k _ hk => hu k j hk h3), tX_at h3 h5 h4 (fun k _ hk => hu k j hk h3)]
  · rw [tX_no (fun j h1 h2 h3 => e ⟨j, h1, h2, h3⟩), tX_no (fun j h1 h2 h3 => e ⟨j, ((h j h3).2 ⟨h1, h2⟩).1, ((h j h3).2 ⟨h1, h2⟩).2, h3⟩)]
theorem hX_eq {q : Nat} : ∀ {m : Nat}, (∀ j, j < m → X j = Y j ∨ q ∉ keysOf (u j)) → fnd (hX h0 u X m) q = fnd (hX h0 u Y m) q
  | 0, _ => rfl
  | m + 1, h => by
    have ih := hX_eq (q := q) (m := m) fun j hj => h j (by omega)
    have one : ∀ (b : Bool) (H : Heap), q ∉ keysOf (u m) → fnd (match b with | true => u m ++ H | false => H) q = fnd H q := fun b H hq => by
      cases b with
      | true => simp only [fnd_append, fnd_none_keys hq]
      | false => rfl
    simp only [hX]
    rcases h m (by omega) with e | e
    · rw [e]
      split
      · rw [fnd_append, fnd_append, ih]
      · exact ih
    · rw [one _ _ e, one _ _ e]; exact ih
theorem hX_stop {i : Nat} : ∀ {m : Nat}, i ≤ m → hX h0 u (fun j => decide (j < i)) m = hX h0 u (fun _ => true) i
  | 0, h => by obtain rfl : i = 0 := by omega
               rfl
  | m + 1, h => by
    by_cases e : i = m + 1
    · subst e
      have : ∀ k, k ≤ m + 1 → hX h0 u (fun j => decide (j < m + 1)) k = hX h0 u (fun _ => true) k := by
        intro k
        induction k with
        | zero => intro _; rfl
        | succ k ih =>
          intro hk
          have e : decide (k < m + 1) = true := by simp; omega
          show (match decide (k < m + 1) with | true => u k ++ hX h0 u (fun j => decide (j < m + 1)) k | false => hX h0 u (fun j => decide (j < m + 1)) k) = u k ++ hX h0 u (fun _ => true) k
          rw [e, ih (by omega)]
      exact this _ (Nat.le_refl _)
    · have h' : decide (m < i) = false := by simp; omega
      show (match decide (m < i) with | true => u m ++ hX h0 u (fun j => decide (j < i)) m | false => hX h0 u (fun j => decide (j < i)) m) = _
      rw [h']
      exact hX_stop (by omega)
theorem hX_top {q i : Nat} (hi : X i = true) : ∀ {m : Nat}, i < m → (∀ j, i < j → j < m → X j = true → q ∉ keysOf (u j)) → fnd (hX h0 u X m) q = fnd (u i ++ hX h0 u X i) q
  | 0, h, _ => absurd h (Nat.not_lt_zero _)
  | m + 1, h, hq => by
    by_cases e : m = i
    · subst e; simp only [hX, hi]
    · have ih := hX_top hi (q := q) (m := m) (by omega) fun j h1 h2 => hq j h1 (by omega)
      simp only [hX]
      split
      · rename_i hx
        rw [fnd_append, fnd_none_keys (hq m (by omega) (by omega) hx)]; exact ih
      · exact ih
end

section
variable {P : Program} {B : Base} {R : Type} {r : R}

theorem looks_spec {all : Array Oper} {o : Oper} {d : Nat} : (Operand.tmp d ∈ o.op.operands.toList ∨ ∃ j want, o.guard = some (j, want) ∧ dstOf all j = some d) → d ∈ looks all o := by
  rintro (h | ⟨j, want, h1, h2⟩)
  · exact List.mem_append_left _ (List.mem_filterMap.2 ⟨_, h, rfl⟩)
  · refine List.mem_append_right _ ?_
    rw [h1]; simp only [h2]; simp
/-- What a region of a drawn order is known to be. -/
structure DrawFacts (all : Array Oper) : Prop where
  uniq : ∀ j j' d, dstOf all j = some d → dstOf all j' = some d → j = j'
  back : ∀ i o, all[i]? = some o → ∀ e ∈ o.after.toList, Region.binds .any e = true → e.on < i
  sees : ∀ i o, all[i]? = some o → ∀ j d, dstOf all j = some d → d ∈ looks all o → i = j ∨ ((ancs all.toList []).getD i 0).testBit j = true ∨ ((ancs all.toList []).getD j 0).testBit i = true
theorem dst_filter {l : List Oper} : (l.filterMap fun o => o.dst).Nodup → ∀ (j j' d : Nat) (o o' : Oper), l[j]? = some o → l[j']? = some o' → o.dst = some d → o'.dst = some d → j = j' := by
  induction l with
  | nil => intro _ j j' d o o' h; simp at h
  | cons o0 l ih =>
    intro hn j j' d o o' h h' hd hd'
    have hn' : (l.filterMap fun o => o.dst).Nodup := by
      simp only [List.filterMap_cons] at hn
      split at hn
      · exact hn
      · exact (List.nodup_cons.1 hn).2
    have mem : ∀ {k : Nat} {o : Oper}, l[k]? = some o → o.dst = some d → d ∈ (l.filterMap fun o => o.dst) := fun hk hd => List.mem_filterMap.2 ⟨_, List.mem_of_getElem? hk, hd⟩
    cases j with
    | zero =>
      obtain rfl : o0 = o := by simpa using h
      cases j' with
      | zero => rfl
      | succ j' =>
        exfalso
        have h' : l[j']? = some o' := by simpa using h'
        simp only [List.filterMap_cons, hd] at hn
        exact (List.nodup_cons.1 hn).1 (mem h' hd')
    | succ j =>
      have h : l[j]? = some o := by simpa using h
      cases j' with
      | zero =>
        exfalso
        obtain rfl : o0 = o' := by simpa using h'
        simp only [List.filterMap_cons, hd'] at hn
        exact (List.nodup_cons.1 hn).1 (mem h hd)
      | succ j' => rw [ih hn' j j' d o o' h (by simpa using h') hd hd']
theorem drawFacts {all : Array Oper} (h : drawOk all = true) : DrawFacts all := by
  simp only [drawOk, Bool.and_eq_true, List.all_eq_true, List.mem_range] at h
  have hd : ∀ j d, dstOf all j = some d → ∃ o, all[j]? = some o ∧ o.dst = some d := fun j d h => by
    unfold dstOf at h
    split at h
    · rename_i o ho; exact ⟨o, ho, h⟩
    · cases h
  have at' : ∀ i o, all[i]? = some o → i < all.size := fun i o ho => (Array.getElem?_eq_some_iff.1 ho).1
  refine ⟨fun j j' d h1 h2 => ?_, fun i o ho e he hb => ?_, fun i o ho j d hj hl => ?_⟩
  · obtain ⟨o, g1, g2⟩ := hd j d h1
    obtain ⟨o', g3, g4⟩ := hd j' d h2
    exact dst_filter (nodupB_ok h.1) j j' d o o' (by simpa using g1) (by simpa using g3) g2 g4
  · have := h.2 i (at' i o ho)
    rw [ho] at this
    simp only [Bool.and_eq_true, List.all_eq_true, List.mem_range] at this
    have := this.1 e he
    rw [hb] at this
    exact blt_of (by simpa using this)
  · have := h.2 i (at' i o ho)
    rw [ho] at this
    simp only [Bool.and_eq_true, List.all_eq_true, List.mem_range] at this
    obtain ⟨oj, g1, g2⟩ := hd j d hj
    have := this.2 j (at' j oj g1)
    rw [g1] at this
    simp only [Option.bind_some, g2, Bool.or_eq_true, Bool.not_eq_true'] at this
    rcases this with ((h | h) | h) | h
    · rw [memB_iff.2 hl] at h; cases h
    · exact .inl (Nat.eq_of_beq_eq_true h)
    · exact .inr (.inl h)
    · exact .inr (.inr h)
/-- What comes ahead comes ahead in the text. -/
theorem anc_lt {all : Array Oper} (F : DrawFacts all) : ∀ (i : Nat) (k : Nat), i < all.size → ((ancs all.toList []).getD i 0).testBit k = true → k < i := by
  intro i
  induction i using Nat.strongRecOn with
  | ind i ih =>
    intro k hi h
    have ho : all[i]? = some all[i] := Array.getElem?_eq_getElem hi
    obtain ⟨e, he, hb, h1⟩ := anc_bit all.toList [] i all[i] (by simp) (by simpa using h)
    have := F.back i _ ho e he hb
    rcases h1 with rfl | h1
    · exact this
    · exact Nat.lt_trans (ih e.on this k (by omega) h1) this
/-- Carried out with all that comes ahead. -/
def Closed (all : Array Oper) (X : Nat → Bool) : Prop := ∀ k, X k = true → ∀ j, ((ancs all.toList []).getD k 0).testBit j = true → X j = true

/-- A region of a drawn order is sound. -/
theorem draw_ok {A : Ann} (W : WF P A) (hm : P.follows .mixedOrders = true) {Sm' : Sm A} (HC : HCall P Sm') : HDraw P Sm' := by
  intro B R r σ a w Q K id all hK hN hok hR h
  have F := drawFacts hok
  obtain ⟨T, H, e1, e2, _, _⟩ := draw_told all.toList 0 [] [] σ (fun j => by simp) h
  have hsz : all.toList.length = all.size := by simp
  rw [Nat.zero_add, hsz] at e2
  generalize hn : all.size = n at *
  let tY := tX all σ.t T.v
  let hY := hX σ.h T.u
  let U : Nat → Bool := fun _ => true
  have hdst : ∀ i o, all[i]? = some o → dstOf all i = o.dst := fun i o ho => by unfold dstOf; rw [ho]
  -- the text's states
  have pre_of : ∀ k o, all[k]? = some o → (∀ d, VE (fnd (T.st k).t d) (fnd (tY U k) d)) → (T.st k).h = hY U k → (∀ d, VE (fnd (T.pre k).t d) (fnd (tY U k) d)) ∧ (T.pre k).h = hY U k := by
    intro k o ho ht hh
    have note : ∀ d v b, fnd (T.st k).t d = some v → v.asB = some b → (∀ d', VE (fnd ((T.st k).after (some d) (.k (.bool b)) []).t d') (fnd (tY U k) d')) ∧ ((T.st k).after (some d) (.k (.bool b)) []).h = hY U k := by
      intro d v b hv hb
      refine ⟨fun d' => ?_, by rw [St.after_h]; exact hh⟩
      rw [St.after_t]
      simp only [fnd_cons]
      split
      · rename_i e; subst e
        exact VE.trans (.inr ⟨.k (.bool b), v, b, rfl, hv, rfl, hb⟩) (ht d)
      · exact ht d'
    rcases H.gd k o (Nat.zero_le _) ho with ⟨_, e, _⟩ | ⟨j, want, d, _, _, ⟨v, b, h1, h2, _, e | e⟩ | ⟨l, _, _, e⟩⟩
    · rw [e]; exact ⟨ht, hh⟩
    · rw [e]; exact ⟨ht, hh⟩
    · rw [e]; exact note d v b h1 h2
    · rw [e]; exact ⟨ht, hh⟩
  have text : ∀ k, k ≤ n → (∀ d, VE (fnd (T.st k).t d) (fnd (tY U k) d)) ∧ (T.st k).h = hY U k := by
    intro k
    induction k with
    | zero => intro _; rw [e1]; exact ⟨fun d => VE.refl _, rfl⟩
    | succ k ih =>
      intro hk
      obtain ⟨g1, g2⟩ := ih (by omega)
      have ho : all[k]? = some all[k] := Array.getElem?_eq_getElem (by omega)
      obtain ⟨g3, g4⟩ := pre_of k _ ho g1 g2
      rw [H.nx k _ (Nat.zero_le _) ho]
      refine ⟨fun d => ?_, by rw [St.after_h, g4]; rfl⟩
      rw [St.after_t]
      show VE _ (fnd (match U k, dstOf all k with | true, some d => (d, T.v k) :: tX all σ.t T.v U k | _, _ => tX all σ.t T.v U k) d)
      rw [hdst k _ ho]
      cases hd : (all[k]).dst with
      | none => exact g3 d
      | some d' =>
        simp only [fnd_cons, U]
        split
        · exact VE.refl _
        · exact g3 d
  have pre : ∀ k o, all[k]? = some o → (∀ d, VE (fnd (T.pre k).t d) (fnd (tY U k) d)) ∧ (T.pre k).h = hY U k := fun k o ho => by
    have hk : k < n := by rw [← hn]; exact (Array.getElem?_eq_some_iff.1 ho).1
    exact pre_of k o ho (text k (by omega)).1 (text k (by omega)).2
  -- any order
  have main : ∀ (fuel : Nat) (listed : Array Bool) (a : Act) (w : World) (τ : St), listed.size = n → Closed all (fun k => listed.getD k false) → Rel B τ a w → (∀ d, VE (fnd τ.t d) (fnd (tY (fun k => listed.getD k false) n) d)) → (∀ q, fnd τ.h q = fnd (hY (fun k => listed.getD k false) n) q) →
      (∃ L : List Nat, L.Nodup ∧ (∀ k, k ∈ L ↔ k < n ∧ listed.getD k false = false) ∧ L.length ≤ fuel) → wpAny P .any all Q fuel listed a w := by
    intro fuel
    induction fuel with
    | zero =>
      rintro listed a w τ hls hcl hR ht hh ⟨L, h1, h2, h3⟩
      obtain rfl : L = [] := List.eq_nil_of_length_eq_zero (by omega)
      have hall : ∀ k, k < n → listed.getD k false = true := fun k hk => by
        cases e : listed.getD k false with
        | true => rfl
        | false => have := (h2 k).2 ⟨hk, e⟩; simp at this
      refine ⟨?_, ?_⟩
      · refine List.eq_nil_iff_forall_not_mem.2 fun j hj => ?_
        obtain ⟨g1, o, g2, _⟩ := mem_ready.1 hj
        have hjn : j < n := by rw [← hn]; exact (Array.getElem?_eq_some_iff.1 g2).1
        have := hall j hjn
        have hlt : j < listed.size := by omega
        simp [Array.getD, hlt] at g1 this
        rw [g1] at this; cases this
      · have hX : ∀ q, fnd (hY U n) q = fnd τ.h q := fun q => by rw [hh q]; exact hX_eq fun j hj => .inl (hall j hj).symm
        have tXe : ∀ d, fnd (tY U n) d = fnd (tY (fun k => listed.getD k false) n) d := fun d => tX_eq (fun j j' => F.uniq j j' d) fun j _ => ⟨fun h => ⟨h.1, hall j h.1⟩, fun h => ⟨h.1, rfl⟩⟩
        obtain ⟨g1, g2⟩ := text n (Nat.le_refl _)
        exact hK (T.st n) a w e2 (Rel.ve hR (fun d => VE.trans (g1 d) (by rw [tXe d]; exact (ht d).symm)) (fun q => by rw [g2]; exact hX q))
    | succ fuel ih =>
      rintro listed a w τ hls hcl hR ht hh ⟨L, hL1, hL2, hL3⟩
      refine ⟨fun hr => ?_, fun i hi => ?_⟩
      · -- nothing is ready: all have come
        have hall : ∀ k, k < n → listed.getD k false = true := by
          intro k
          induction k using Nat.strongRecOn with
          | ind k ihk =>
            intro hk
            cases e : listed.getD k false with
            | true => rfl
            | false =>
              exfalso
              have ho : all[k]? = some all[k] := Array.getElem?_eq_getElem (by omega)
              have hlt : k < listed.size := by omega
              have : k ∈ Region.ready .any all listed := mem_ready.2 ⟨by simp [Array.getD, hlt] at e ⊢; exact e, all[k], ho, fun e he hb => ihk e.on (F.back k _ ho e (by simpa using he) hb) (by have := F.back k _ ho e (by simpa using he) hb; omega)⟩
              rw [hr] at this; cases this
        have hX : ∀ q, fnd (hY U n) q = fnd τ.h q := fun q => by rw [hh q]; exact hX_eq fun j hj => .inl (hall j hj).symm
        have tXe : ∀ d, fnd (tY U n) d = fnd (tY (fun k => listed.getD k false) n) d := fun d => tX_eq (fun j j' => F.uniq j j' d) fun j _ => ⟨fun h => ⟨h.1, hall j h.1⟩, fun h => ⟨h.1, rfl⟩⟩
        obtain ⟨g1, g2⟩ := text n (Nat.le_refl _)
        exact hK (T.st n) a w e2 (Rel.ve hR (fun d => VE.trans (g1 d) (by rw [tXe d]; exact (ht d).symm)) (fun q => by rw [g2]; exact hX q))
      · obtain ⟨g1, o, ho, g3⟩ := mem_ready.1 hi
        have hin : i < n := by rw [← hn]; exact (Array.getElem?_eq_some_iff.1 ho).1
        have hlt : i < listed.size := by omega
        have hXi : listed.getD i false = false := by simp [Array.getD, hlt] at g1 ⊢; exact g1
        generalize hXd : (fun k => listed.getD k false) = X at *
        have hX' : ∀ k, (listed.setIfInBounds i true).getD k false = (if k = i then true else X k) := fun k => by
          rw [← hXd]
          by_cases e : k = i
          · subst e; simp [Array.getD, hlt]
          · rw [getD_set_ne false (Ne.symm e)]; simp [e]
        have hXi : X i = false := by rw [← hXd]; exact hXi
        -- what comes ahead has come
        have hanc : ∀ j, ((ancs all.toList []).getD i 0).testBit j = true → X j = true := by
          intro j hj
          obtain ⟨e, he, hb, h1⟩ := anc_bit all.toList [] i o (by simpa using ho) (by simpa using hj)
          have hl : X e.on = true := by rw [← hXd]; exact g3 e (by simpa using he) hb
          rcases h1 with rfl | h1
          · exact hl
          · exact hcl e.on hl j h1
        have hanti : ∀ j, ((ancs all.toList []).getD j 0).testBit i = true → X j = false := fun j hj => by
          cases e : X j with
          | false => rfl
          | true => have := hcl j e i hj; rw [hXi] at this; cases this
        have hcl' : Closed all (fun k => (listed.setIfInBounds i true).getD k false) := by
          intro k hk j hj
          simp only [hX'] at hk ⊢
          split
          · rfl
          · split at hk
            · rename_i e; subst e; exact hanc j hj
            · exact hcl k hk j hj
        obtain ⟨p1, p2⟩ := pre i o ho
        -- what is seen of the temporaries
        have hsee : ∀ d, d ∈ looks all o → VE (fnd (T.pre i).t d) (fnd τ.t d) ∧ VE (fnd (T.st i).t d) (fnd τ.t d) := by
          intro d hd
          have e : fnd (tY U i) d = fnd (tY X n) d := tX_eq (fun j j' => F.uniq j j' d) fun j hj => by
            rcases F.sees i o ho j d hj hd with rfl | h | h
            · exact ⟨fun h => absurd h.1 (Nat.lt_irrefl _), fun h => by rw [hXi] at h; exact absurd h.2 (by simp)⟩
            · have := anc_lt F i j (by omega) h
              exact ⟨fun _ => ⟨by omega, hanc j h⟩, fun _ => ⟨this, rfl⟩⟩
            · have hjn : j < all.size := by
                rcases Nat.lt_or_ge j all.size with h' | h'
                · exact h'
                · have : (ancs all.toList []).getD j 0 = 0 := by
                    simp only [List.getD]; rw [List.getElem?_eq_none (by rw [ancs_len]; simp; omega)]; rfl
                  rw [this] at h; simp at h
              have := anc_lt F j i hjn h
              exact ⟨fun h' => absurd h'.1 (by omega), fun h' => by rw [hanti j h] at h'; exact absurd h'.2 (by simp)⟩
          exact ⟨VE.trans (p1 d) (by rw [e]; exact (ht d).symm), VE.trans ((text i (by omega)).1 d) (by rw [e]; exact (ht d).symm)⟩
        have hrest : ∃ L : List Nat, L.Nodup ∧ (∀ k, k ∈ L ↔ k < n ∧ (listed.setIfInBounds i true).getD k false = false) ∧ L.length ≤ fuel := by
          refine ⟨L.erase i, hL1.erase i, fun k => ?_, ?_⟩
          · rw [hL1.mem_erase_iff, hL2 k, hX']
            have : listed.getD k false = X k := by rw [← hXd]
            rw [this]
            by_cases e : k = i
            · subst e; simp
            · simp [e]
          · have : i ∈ L := (hL2 i).2 ⟨hin, by rw [← hXd] at hXi; exact hXi⟩
            rw [List.length_erase_of_mem this]; omega
        -- temporaries and heap behind it
        have htn : ∀ d, fnd (tY (fun k => (listed.setIfInBounds i true).getD k false) n) d = (match o.dst with | some d' => if d' = d then some (T.v i) else fnd (tY X n) d | none => fnd (tY X n) d) := by
          intro d
          have same : o.dst ≠ some d → fnd (tY (fun k => (listed.setIfInBounds i true).getD k false) n) d = fnd (tY X n) d := fun hne => tX_eq (fun j j' => F.uniq j j' d) fun j hj => by
            have : j ≠ i := fun e => by subst e; rw [hdst j o ho] at hj; exact hne hj
            simp only [hX', this, if_false]
          cases hd : o.dst with
          | none => exact same (by rw [hd]; simp)
          | some d' =>
            by_cases e : d' = d
            · subst e
              simp only [if_true]
              exact tX_at ((hdst i o ho).trans hd) (by rw [hX']; simp) hin (fun j _ hj => F.uniq j i d' hj ((hdst i o ho).trans hd))
            · simp only [e, if_false]; exact same (by rw [hd]; simpa using e)
        obtain ⟨D, η, O, G⟩ := hR
        have hd : ∀ d, o.dst = some d → d < B.N := by
          intro d hd
          have hm : o ∈ all.toList := by
            obtain ⟨h1, h2⟩ := Array.getElem?_eq_some_iff.1 ho
            rw [← h2]; simp
          have := List.all_eq_true.1 hN o hm
          rw [hd] at this
          exact blt_of this
        -- the guard
        have hwant : Region.wanted o (yielded all a.tmps) = T.ex i := by
          have kn : ∀ d (v : V), fnd τ.t d = some v → d < a.tmps.size ∧ Vr w D η τ.h v (a.tmps.getD d undef) := fun d v h1 => G.tmps d v h1
          rcases H.gd i o (Nat.zero_le _) ho with ⟨hg, _, hex⟩ | ⟨j, want, d, hg, hj, ⟨v, b, h1, h2, hex, _⟩ | ⟨l, h1, hex, _⟩⟩
          · rw [hex]; simp [Region.wanted, hg]
          · obtain ⟨v', k1, k2⟩ := (hsee d (looks_spec (.inr ⟨j, want, hg, hj⟩))).2.asB h1 h2
            obtain ⟨k3, k4⟩ := kn d v' k1
            have k5 := k4.asB k2
            have hy : yielded all a.tmps j = some b := by rw [yielded_of hj k3, k5]
            rw [hex]; simp only [Region.wanted, hg, hy]
            cases b <;> cases want <;> rfl
          · have k1 := (hsee d (looks_spec (.inr ⟨j, want, hg, hj⟩))).2.other h1 rfl
            obtain ⟨k3, k4⟩ := kn d _ k1
            have k5 := vr_k k4
            have hy : yielded all a.tmps j = none := by rw [yielded_of hj k3, k5]
            rw [hex]; simp only [Region.wanted, hg, hy]; rfl
        unfold wpOp
        rw [ho]
        simp only
        rw [hwant]
        cases hex : T.ex i with
        | false =>
          rw [if_neg (by simp)]
          obtain ⟨hv, hu⟩ := H.no i o (Nat.zero_le _) ho hex
          refine ih _ _ _ (τ.after o.dst (.k (.tuple #[])) []) (by simp [hls]) hcl' ⟨D, η, O, G.val hd (.k _)⟩ (fun d => ?_) (fun q => ?_) hrest
          · rw [htn d, St.after_t]
            cases hdd : o.dst with
            | none => exact ht d
            | some d' =>
              simp only [fnd_cons]
              split
              · rw [hv]; exact VE.refl _
              · exact ht d
          · rw [St.after_h]
            show fnd τ.h q = _
            rw [hh q]
            exact hX_eq fun j _ => by
              by_cases e : j = i
              · subst e; right; rw [hu]; simp [keysOf]
              · left; rw [hX']; simp [e]
        | true =>
          rw [if_pos rfl]
          left
          -- the state in which it is carried out
          let ovl : Tmps := (looks all o).filterMap fun d => (fnd (T.pre i).t d).map fun v => (d, v)
          have hov : ∀ d, fnd (ovl ++ τ.t) d = if d ∈ looks all o then (match fnd (T.pre i).t d with | some v => some v | none => fnd τ.t d) else fnd τ.t d := by
            intro d
            have key : ∀ l : List Nat, fnd ((l.filterMap fun d => (fnd (T.pre i).t d).map fun v => (d, v)) ++ τ.t) d = if d ∈ l then (match fnd (T.pre i).t d with | some v => some v | none => fnd τ.t d) else fnd τ.t d := by
              intro l
              induction l with
              | nil => simp
              | cons d0 l ihl =>
                simp only [List.filterMap_cons]
                cases e0 : fnd (T.pre i).t d0 with
                | none =>
                  simp only [Option.map_none]
                  rw [ihl]
                  by_cases e : d = d0
                  · subst e; simp [e0]
                  · simp [e]
                | some v0 =>
                  simp only [Option.map_some, List.cons_append, fnd_cons]
                  by_cases e : d0 = d
                  · subst e; simp [e0]
                  · rw [if_neg e, ihl]; simp [Ne.symm e]
            exact key _
          have hveo : ∀ d, VE (fnd (ovl ++ τ.t) d) (fnd τ.t d) := fun d => by
            rw [hov d]
            split
            · rename_i hm
              have := (hsee d hm).1
              split
              · rename_i v hv; rw [hv] at this; exact this
              · exact VE.refl _
            · exact VE.refl _
          have hveq : ∀ d, d ∈ looks all o → fnd (ovl ++ τ.t) d = fnd (T.pre i).t d := fun d hm => by
            rw [hov d, if_pos hm]
            split
            · rename_i v hv; exact hv.symm
            · rename_i hv
              have := (hsee d hm).1
              rw [hv] at this ⊢
              exact this.symm.nil
          have hR' : Rel B ⟨ovl ++ τ.t, hY X n⟩ a w := Rel.ve ⟨D, η, O, G⟩ hveo (fun q => (hh q).symm)
          obtain ⟨D', η', O', G'⟩ := hR'
          have hev : ∀ x ∈ o.op.operands.toList, (⟨ovl ++ τ.t, hY X n⟩ : St).eval x = (T.pre i).eval x := fun x hx => by
            cases x with
            | tmp d => simp only [St.eval, St.get]; rw [hveq d (looks_spec (.inl hx))]
            | _ => rfl
          -- the heaps agree
          have hunord : ∀ j, j < n → j ≠ i → ((ancs all.toList []).getD i 0).testBit j = false → ((ancs all.toList []).getD j 0).testBit i = false → X j = true ∨ j < i → ∀ q ∈ names id i o (T.pre i) (T.u i), q ∉ keysOf (T.u j) := by
            intro j hj hne h1 h2 _ q hq hqj
            have hoj : all[j]? = some all[j] := Array.getElem?_eq_getElem (by omega)
            cases hexj : T.ex j with
            | false => rw [(H.no j _ (Nat.zero_le _) hoj hexj).2] at hqj; simp [keysOf] at hqj
            | true =>
              rcases Nat.lt_or_gt_of_ne hne with hlt | hgt
              · exact (H.ap j i _ o (Nat.zero_le _) hlt hoj ho hexj hex h1).1 q hqj hq
              · exact (H.ap i j o _ (Nat.zero_le _) hgt ho hoj hex hexj h2).2 q hqj hq
          have hag : ∀ q ∈ names id i o (T.pre i) (T.u i), fnd (hY X n) q = fnd (T.pre i).h q := by
            intro q hq
            rw [p2]
            show _ = fnd (hX σ.h T.u (fun _ => true) i) q
            rw [← hX_stop (h0 := σ.h) (u := T.u) (i := i) (m := n) (by omega)]
            refine hX_eq fun j hj => ?_
            by_cases e : j = i
            · subst e; left; rw [hXi]; simp
            · cases h1 : ((ancs all.toList []).getD i 0).testBit j with
              | true => left; rw [hanc j h1]; simp [anc_lt F i j (by omega) h1]
              | false =>
                cases h2 : ((ancs all.toList []).getD j 0).testBit i with
                | true =>
                  left
                  have := anc_lt F j i (by omega) h2
                  rw [hanti j h2]; simp; omega
                | false =>
                  by_cases hx : X j = true ∨ j < i
                  · exact .inr (hunord j hj e h1 h2 hx q hq)
                  · left
                    have h3 : X j = false := by cases hxj : X j with | false => rfl | true => exact absurd (.inl hxj) hx
                    have h4 : ¬ j < i := fun h => hx (.inr h)
                    rw [h3]; simp; omega
          -- it yields the same
          have hok1 := H.ok i o (Nat.zero_le _) ho hex
          obtain ⟨v', u', k1, k2⟩ := step_ag (S := fun q => q ∈ names id i o (T.pre i) (T.u i)) (ρ' := (⟨ovl ++ τ.t, hY X n⟩ : St).eval) (h' := hY X n) hag (by simp [names]) hev (fun hs q hq => by
              have : q ∈ namesO (T.pre i) o := by
                unfold namesO; rw [hs]; dsimp only
                split
                · exact List.mem_append_left _ hq
                · exact hq
              simp [names, this]) (fun c hc r hr cs hl q hq => by
              have : q ∈ namesO (T.pre i) o := by
                unfold namesO
                have hs : seesH o.op = true := by rw [hc]; rfl
                rw [hs]; dsimp only
                have hin : q ∈ inner (T.pre i).h (named.nameds (o.op.operands.toList.map (T.pre i).eval)) := by
                  generalize named.nameds (o.op.operands.toList.map (T.pre i).eval) = L at hr
                  induction L with
                  | nil => simp at hr
                  | cons r0 L ih =>
                    simp only [inner]
                    rcases List.mem_cons.1 hr with rfl | hr
                    · rw [hl]; exact List.mem_append_left _ hq
                    · have := ih hr
                      split
                      · exact List.mem_append_right _ this
                      · exact this
                split
                · exact List.mem_append_right _ hin
                · rename_i hno; exact absurd hc (hno c)
              simp [names, this]) hok1
          have k3 : v' = T.v i ∧ u' = T.u i := by simpa [pairK] using k1
          obtain ⟨rfl, rfl⟩ := k3
          have k4 := k2 (fun q hq => by simp [names, hq]) (V × Heap) pairK
          refine step_ok W G' (K := pairK) (r := (T.v i, T.u i)) (κ := keyOf id i o) (S := Sm') (fun v u x w' hv hR => ?_) hd (fun c f g caps e1 e2 e3 e4 => HC G' (K := pairK) (r := (T.v i, T.u i)) (fun v u x w' hv hR => ?_) hd c f g caps e1 e2 e3 e4) k4
          all_goals
            have k5 : v = T.v i ∧ u = T.u i := by simpa [pairK] using hv
            obtain ⟨rfl, rfl⟩ := k5
            refine ih _ _ _ _ (by simp [hls]) hcl' hR (fun d => ?_) (fun q => ?_) hrest
            · rw [htn d, St.after_t]
              cases hdd : o.dst with
              | none => exact VE.trans (hveo d) (ht d)
              | some d' =>
                simp only [fnd_cons]
                split
                · exact VE.refl _
                · exact VE.trans (hveo d) (ht d)
            · rw [St.after_h]
              show fnd (T.u i ++ hY X n) q = fnd (hY _ n) q
              by_cases hq : q ∈ keysOf (T.u i)
              · have ntop : ∀ j, i < j → j < n → X j = true → q ∉ keysOf (T.u j) := fun j h1 h2 h3 => by
                  have b1 : ((ancs all.toList []).getD j 0).testBit i = false := by
                    cases hb : ((ancs all.toList []).getD j 0).testBit i with
                    | false => rfl
                    | true => rw [hanti j hb] at h3; cases h3
                  have b2 : ((ancs all.toList []).getD i 0).testBit j = false := by
                    cases hb : ((ancs all.toList []).getD i 0).testBit j with
                    | false => rfl
                    | true => have := anc_lt F i j (by omega) hb; omega
                  exact hunord j h2 (by omega) b2 b1 (.inl h3) q (by simp [names, hq])
                have e := hX_top (h0 := σ.h) (u := T.u) (X := fun k => (listed.setIfInBounds i true).getD k false) (q := q) (i := i) (by rw [hX']; simp) hin (fun j h1 h2 h3 => ntop j h1 h2 (by
                  have h3 : (listed.setIfInBounds i true).getD j false = true := h3
                  rw [hX'] at h3; simpa [show j ≠ i by omega] using h3))
                show fnd (T.u i ++ hY X n) q = fnd (hX σ.h T.u _ n) q
                rw [e, fnd_append, fnd_append]
                have : fnd (T.u i) q ≠ none := keys_fnd hq
                split
                · rfl
                · rename_i hn; exact absurd hn this
              · rw [fnd_append, fnd_none_keys hq]
                exact hX_eq fun j _ => by
                  by_cases e : j = i
                  · subst e; exact .inr hq
                  · left; rw [hX']; simp [e]
  refine wp_region_any hm ?_
  have hrep : ∀ k, (Array.replicate n false).getD k false = false := fun k => by simp only [Array.getD]; split <;> simp
  rw [hn]
  refine main n (Array.replicate n false) a _ σ (by simp) (fun k hk => ?_) (Rel.drew hR _) (fun d => ?_) (fun q => ?_) ⟨List.range n, List.nodup_range, fun k => by simp [hrep], by simp⟩
  · simp only [hrep] at hk; cases hk
  · have : fnd (tY (fun k => (Array.replicate n false).getD k false) n) d = fnd σ.t d := tX_no fun j _ h => by rw [hrep] at h; cases h
    rw [this]; exact VE.refl _
  · have : ∀ m, hX σ.h T.u (fun k => (Array.replicate n false).getD k false) m = σ.h := fun m => by
      induction m with
      | zero => rfl
      | succ m ihm =>
        show (match (Array.replicate n false).getD m false with | true => T.u m ++ hX σ.h T.u (fun k => (Array.replicate n false).getD k false) m | false => hX σ.h T.u (fun k => (Array.replicate n false).getD k false) m) = σ.h
        rw [hrep]; exact ihm
    show _ = fnd (hX σ.h T.u _ n) q
    rw [this n]
end
end Go.Proofs.YtpoppblfnaipbaaDoor.Eng
/-! ## The engine: a law over bytes. -/
namespace Go.Proofs.YtpoppblfnaipbaaDoor.Eng
open Go Go.RowKit
set_option autoImplicit false
set_option linter.unusedVariables false
set_option linter.unusedSimpArgs false

section
variable {P : Program} {A : Ann}
theorem sound_all (W : WF P A) (HM : MarksOk P A) (hm : P.follows .mixedOrders = true) {X : Ext A} (HX : ExtOk P A X) (k : Nat) : Sound P (sem P A X k) := sound W HM (fun _ HC => draw_ok W hm HC) HX k
/-- One result, a bool. -/
def asBool : (as : List RV) → denR as → Option Bool
  | [.one (.pv .bool)], x => some x
  | _, _ => none
theorem asBool_ok {w : World} {D : Bs} : ∀ {as : List RV} {x : denR as} {zs : List Value} {E : List Ent} {b : Bool}, asBool as x = some b → FRs w D as x zs E → zs = [.bool b]
  | [], x, zs, E, b, h, H => by simp [asBool] at h
  | _ :: _ :: _, x, zs, E, b, h, H => by simp [asBool] at h
  | [.agg _], x, zs, E, b, h, H => by simp [asBool] at h
  | [.ptr _], x, zs, E, b, h, H => by simp [asBool] at h
  | [.one .any], x, zs, E, b, h, H => by simp [asBool] at h
  | [.one (.own _ _)], x, zs, E, b, h, H => by simp [asBool] at h
  | [.one (.pv t)], x, zs, E, b, h, H => by
    cases t with
    | bool =>
      obtain ⟨z, rfl, H⟩ := H
      have h : x = b := by simpa [asBool] using h
      subst h
      rcases H with ⟨h, _⟩ | ⟨_, H⟩
      · simp [L.agg, Ty.agg] at h
      · obtain ⟨h, _⟩ := H
        have h : [z] = [Value.bool x] := h
        rw [h]
    | _ => simp [asBool] at h
/-- A call that yields true, over arguments that are shared. -/
theorem law_calls (W : WF P A) (HM : MarksOk P A) (hm : P.follows .mixedOrders = true) {X : Ext A} (HX : ExtOk P A X) {f k : Nat} {vs : List V} {x : A.out f} (h : (sem P A X k).call f vs = some x) (hx : asBool _ x = some true) (hh : (A.fa f).hand = [])
    {w : World} {args : Array Value} (hg : GVs w (fun b => b < w.heap.size) 0 vs args.toList []) :
    Calls P f args w fun e w' => e = .returned (.bool true) ∧ Below w.heap.size w w' := by
  refine (((sound_all W HM hm HX k).call f vs x h).2 w (fun b => b < w.heap.size) (fun b => b < w.heap.size) args [] (fun _ h => h) (fun _ h => h) hg (fun e he => by simp at he) .nil).mono fun e w' he => ?_
  cases e with
  | panicked c => exact he.elim
  | outgrown => exact he.elim
  | returned v =>
    obtain ⟨⟨D', zs, hz, E', rfl, hlen, hhz, hF, _⟩, hos, htape, hout, hsz, hsame⟩ := he
    have h1 := asBool_ok hx hF
    rw [hh] at hhz
    have h2 : hz = [] := hhz
    rw [h2, List.append_nil] at h1
    rw [h1]
    exact ⟨rfl, hos, htape, hout, hsz, fun k hk => hsame k hk⟩
theorem gvs_nil {w : World} {D : Bs} (i : Nat) : GVs w D i [] [] [] := .nil i
theorem gvs_cons {w : World} {D : Bs} {i : Nat} {v : V} {vs : List V} {z : Value} {zs : List Value} (h : SV w D v z) (t : GVs w D (i + 1) vs zs []) : GVs w D i (v :: vs) (z :: zs) [] :=
  .cons i v vs z zs [] [] (h.gv i) t
theorem sv_d {w : World} {D : Bs} {t : Ty} {x : t.den} {z : Value} (ha : t.agg = false) (h : Rz w D t x [z]) : SV w D (.d t x) z :=
  ⟨fun _ _ _ e => (by cases e), fun _ e => (by cases e), fun _ _ => .d t x z ha h⟩
theorem cell_lt {w : World} {a : Addr} {v : Value} (h : w.cell? a = some v) : a.block < w.heap.size ∧ a = ⟨a.block, a.off, none⟩ := by
  unfold World.cell? at h
  split at h
  · rename_i c T fz hc
    refine ⟨?_, ?_⟩
    · rcases Nat.lt_or_ge a.block w.heap.size with h1 | h1
      · exact h1
      · rw [Array.getElem?_eq_none h1] at hc; cases hc
    · cases a with
      | mk b o ix =>
        cases ix with
        | none => rfl
        | some x => simp at h
  · cases h
/-- A row of bytes as it came. -/
theorem bytes_in {w : World} {a : Option Addr} {len cap : Nat} {zs : List Int} (h : (a = none ∧ len = 0 ∧ cap = 0 ∧ zs = []) ∨ ∃ x, a = some x ∧ len ≤ cap ∧ cap ≤ maxLen ∧ zs.length = cap ∧ (∀ i, i < zs.length → w.cell? (x.add i) = some (.int .u8 (zs.getD i 0))) ∧ ∀ n ∈ zs, (Lit.int .u8 n).wf = true) :
    ∃ l : List Int, l.length = len ∧ l.length ≤ maxLen ∧ (∀ n ∈ l, (Lit.int .u8 n).wf = true) ∧ SV w (fun b => b < w.heap.size) (.d (.sl (.int .u8)) l) (.slice a len cap) := by
  rcases h with ⟨rfl, rfl, rfl, rfl⟩ | ⟨x, rfl, hl, hm, hz, hc, hw⟩
  · exact ⟨[], rfl, Nat.zero_le _, fun n hn => by simp at hn, sv_d rfl ((Rz.sl rfl).2 ⟨none, 0, rfl, Nat.le_refl _, fun h => absurd h (Nat.lt_irrefl _)⟩)⟩
  · have hlen : (zs.take len).length = len := by simp; omega
    refine ⟨zs.take len, hlen, by omega, fun n hn => hw n (List.mem_of_mem_take hn), sv_d rfl ((Rz.sl rfl).2 ⟨some x, cap, by rw [hlen], by rw [hlen]; exact hl, fun h0 => ?_⟩)⟩
    rw [hlen] at h0
    have c0 := hc 0 (by omega)
    obtain ⟨k1, k2⟩ := cell_lt c0
    have ex : x = ⟨x.block, x.off, none⟩ := by
      cases x with
      | mk b o ix => cases ix with
        | none => rfl
        | some y => simp [Addr.add] at k2
    refine ⟨x.block, x.off, by rw [← ex], by rw [ex, add_none] at k1; exact k1, fun i hi => ⟨[.int .u8 (rd (t := .int .u8) (zs.take len) i)], rfl, rfl, fun j hj => ?_⟩⟩
    obtain rfl : j = 0 := by simpa [Ty.size] using hj
    rw [hlen] at hi
    have := hc i (by omega)
    rw [ex, add_none] at this
    simp only [Ty.size, Nat.mul_one, Nat.add_zero, List.getElem?_cons_zero]
    rw [this]
    have e : rd (t := .int .u8) (zs.take len) i = zs.getD i 0 := by simp [rd, List.getD, List.getElem?_take, hi, Ty.dflt]
    rw [e]
end
end Go.Proofs.YtpoppblfnaipbaaDoor.Eng

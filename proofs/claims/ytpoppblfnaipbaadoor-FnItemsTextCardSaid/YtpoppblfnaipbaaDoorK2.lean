/- The engine, part 2: a pure evaluator of the model's code over typed values, and its soundness over any program. cuts, indexes, structs, lengths. rows: what is read of them, how they are frozen. rows that are made, built upon, stored into. what is moved into a new row. rows that are built. rows that are made; bytes and strings. append. append, run. rows of the call's own that are read. stores into rows of the call's own: what stands there then. stores into rows of the call's own; parts of their elements; cuts. parts of elements, cuts of rows, structs that are built. maps. one operation is sound. -/
import Derived.Test.YtpoppblfnaipbaaDoorK1
import Derived.Great.BuildSlice
import Derived.Laws.MakeOwn
import Derived.Laws.IdiomStrings
import Derived.MapKept
import Derived.Carry
import Derived.ChangeMaps5
/-! ## The engine: cuts, indexes, structs, lengths. -/
namespace Go.Proofs.YtpoppblfnaipbaaDoor.Eng
open Go
set_option autoImplicit false
set_option linter.unusedVariables false
set_option linter.unusedSimpArgs false

section
variable {P : Program} {B : Base} {D : Bs} {η : Nat → Gh} {O : Nat → Bs} {σ : St} {a : Act} {w : World} {o : Oper} {next : Act → World → Prop} {Q : Exit → Act → World → Prop} {R : Type} {r : R} {K : V → Heap → Option R}

theorem bound_val {i : Option Operand} {z : Int} {n : Int} (G : RelG B D η O σ a w) (h : (i.map σ.eval = none ∧ z = n) ∨ ∃ k, i.map σ.eval = some (.d (.int k) z)) : (i.map a.eval = none ∧ z = n) ∨ ∃ k, i.map a.eval = some (.int k z) := by
  rcases h with ⟨h, e⟩ | ⟨k, h⟩
  · left; cases i <;> simp at h ⊢; exact e
  · right
    cases i with
    | none => simp at h
    | some x =>
      simp at h
      have := G.eval x
      rw [h] at this
      exact ⟨k, by simp [vr_int this]⟩
theorem sliceAt_other {T : Nat} {d : TypeDesc} (hu : P.underlying T = some d) (hd : ∀ n e, d ≠ .array n e) (x : Value) (lo hi mx : Option Value) : (Instr.sliceAt T x lo hi mx).run P w = (Instr.slice T x lo hi mx).run P w := by
  cases d <;> simp only [Instr.sliceAt, Sem.run_bind, run_underlying hu, Result.andThen_ok]
  exact absurd rfl (hd _ _)
theorem op_slice_str {A : Ann} (W : WF P A) (G : RelG B D η O σ a w) (hn : Post B σ a o.dst next K r) (hd : ∀ d, o.dst = some d → d < B.N) (T : Nat) (x : Operand) (lo hi : Option Operand) (ho : o.op = .slice T x lo hi none) (hT : isTy A T .str = true) {s : List UInt8} (hb : σ.eval x = .d .str s)
    (h : (lowV (lo.map σ.eval) fun a => highV (hi.map σ.eval) s.length fun b => ifE (0 ≤ a) (ifE (a ≤ b) (ifE (b ≤ (s.length : Int)) (K (.d .str ((s.take b.toNat).drop a.toNat)) []) none) none) none) = some r) : o.wp P a w next Q := by
  have hv := G.eval x
  rw [hb] at hv
  obtain ⟨b, hb', h1⟩ := vr_str hv
  obtain ⟨za, h, hlo⟩ := low_some h
  obtain ⟨zb, h, hhi⟩ := high_some h
  obtain ⟨h2, h⟩ := ifE_some h
  obtain ⟨h3, h⟩ := ifE_some h
  obtain ⟨h4, h⟩ := ifE_some h
  have hl := len_of hb'
  have hu := W.str hT
  refine wp_pure hn G hd h (x := .string (b.extract za.toNat zb.toNat)) (mk_str _ _ ?_) ?_
  · rw [← hb']; simp [ByteArray.data_extract, Array.toList_extract, List.extract, List.drop_take]
  · have hb2 := bounds_run (P := P) (w := w) false b.size b.size (lo.map a.eval) (hi.map a.eval) za zb h2 h3 (by omega) (Nat.le_refl _) (bound_val G hlo) (by rw [hl]; exact bound_val G hhi)
    simp only [execOp, ho, h1, Option.map_none, Sem.run_bind, sliceAt_other hu (fun _ _ => by simp), Instr.slice, run_underlying hu, Result.andThen_ok, Option.isSome_none, Bool.false_eq_true, if_false, Sem.run_pure, hb2]

theorem rd_take_drop {t : Ty} (xs : List t.den) (i j k : Nat) (h : j + i < k) (hk : k ≤ xs.length) : rd (t := t) ((xs.take k).drop j) i = rd xs (j + i) := by
  unfold rd
  simp only [List.getD, List.getElem?_drop, List.getElem?_take, if_pos h]
/-- A part of a row. -/
theorem slice_Rz {t : Ty} {xs : List t.den} {ad : Option Addr} {cap za zb : Nat} (h : Rz w D (.sl t) xs [.slice ad xs.length cap]) (h1 : za ≤ zb) (h2 : zb ≤ xs.length) :
    Rz w D (.sl t) ((xs.take zb).drop za) [.slice (if cap = za then ad else ad.map (·.add (za * t.size))) (zb - za) (cap - za)] := by
  rcases h with ⟨hte, ad', cap', e, hc, hrow⟩ | h
  case inr => obtain ⟨_, h⟩ := h.len; cases h
  cases e
  rw [Rz.sl hte]
  have hlen : List.length ((xs.take zb).drop za) = zb - za := by simp; omega
  refine ⟨_, _, by rw [hlen], by rw [hlen]; omega, fun h0 => ?_⟩
  rw [hlen] at h0
  obtain ⟨b, off, rfl, hb, hall⟩ := hrow (by omega)
  refine ⟨b, off + za * t.size, by rw [if_neg (by omega)]; simp [add_none], hb, fun i hi => ?_⟩
  rw [hlen] at hi
  obtain ⟨us, h3, h4, h5⟩ := hall (za + i) (by omega)
  refine ⟨us, h3, by show Rz w D t _ us; rw [rd_take_drop xs i za zb (by omega) h2]; exact h4, fun j hj => ?_⟩
  rw [← h5 j hj]; congr 2; rw [Nat.add_mul]; omega
theorem slice_run {A : Ann} (W : WF P A) {T : Nat} {t : Ty} (hT : isSl A T t = true) (ad : Option Addr) (len cap : Nat) (lo hi : Option Value) (za zb : Int) (h1 : 0 ≤ za) (h2 : za ≤ zb) (h3 : zb ≤ (len : Int)) (h4 : len ≤ cap)
    (hlo : (lo = none ∧ za = 0) ∨ ∃ k, lo = some (.int k za)) (hhi : (hi = none ∧ zb = (len : Int)) ∨ ∃ k, hi = some (.int k zb)) :
    (Instr.sliceAt T (.slice ad len cap) lo hi none).run P w = .ok (.slice (if cap = za.toNat then ad else ad.map (·.add (za.toNat * t.size))) (zb.toNat - za.toNat) (cap - za.toNat)) w := by
  obtain ⟨e, hu, he⟩ := W.sl (isTy_fnd (isSl_of hT).1) (isSl_of hT).2
  obtain ⟨i, d, F⟩ := W.facts he
  simp only [sliceAt_other hu (fun _ _ => by simp), Instr.slice, Sem.run_bind, run_underlying hu, Result.andThen_ok, bounds_run true len cap lo hi za zb h1 h2 h3 h4 hlo hhi, F.sizeOf, Sem.run_pure]
theorem vr_sl_hd {hp : Heap} {t : Ty} {xs : List t.den} {x : Value} (ht : t.isEnt = false) (H : Vr w D η hp (.d (.sl t) xs) x) : ∃ ad cap, x = .slice ad xs.length cap ∧ xs.length ≤ cap := by
  obtain ⟨ad, cap, e, hc, _⟩ := (Rz.sl ht).1 (vr_sl H)
  exact ⟨ad, cap, by simpa using e, hc⟩
theorem op_slice_sl {A : Ann} (W : WF P A) (G : RelG B D η O σ a w) (hn : Post B σ a o.dst next K r) (hd : ∀ d, o.dst = some d → d < B.N) (T : Nat) (x : Operand) (lo hi : Option Operand) (ho : o.op = .slice T x lo hi none) {t : Ty} (hT : isSl A T t = true) {xs : List t.den} (hb : σ.eval x = .d (.sl t) xs)
    (h : (lowV (lo.map σ.eval) fun a => highV (hi.map σ.eval) (List.length xs) fun b => ifE (0 ≤ a) (ifE (a ≤ b) (ifE (b ≤ ((List.length xs : Nat) : Int)) (K (.d (.sl t) ((List.take b.toNat xs).drop a.toNat)) []) none) none) none) = some r) : o.wp P a w next Q := by
  have hv := G.eval x
  rw [hb] at hv
  obtain ⟨ad, cap, h1, hc⟩ := vr_sl_hd (isSl_of hT).2 hv
  have hz := vr_sl hv
  rw [h1] at hz
  obtain ⟨za, h, hlo⟩ := low_some h
  obtain ⟨zb, h, hhi⟩ := high_some h
  obtain ⟨h2, h⟩ := ifE_some h
  obtain ⟨h3, h⟩ := ifE_some h
  obtain ⟨h4, h⟩ := ifE_some h
  refine wp_pure hn G hd h (.d _ _ _ rfl (slice_Rz hz (by omega) (by omega))) ?_
  simp only [execOp, ho, h1, Option.map_none, Sem.run_bind, slice_run W hT ad _ cap _ _ za zb h2 h3 h4 hc (bound_val G hlo) (bound_val G hhi), Result.andThen_ok, Sem.run_pure]

/-- An element's address. -/
theorem indexAt_run {A : Ann} (W : WF P A) {T : Nat} {t : Ty} (hT : isSl A T t = true) (b off len cap : Nat) (k : IntKind) (z : Int) (h1 : 0 ≤ z) (h2 : z < (len : Int)) :
    (Instr.indexAt T (.slice (some ⟨b, off, none⟩) len cap) (.int k z)).run P w = .ok (.pointer (some ⟨b, off + z.toNat * t.size, none⟩)) w := by
  obtain ⟨e, hu, he⟩ := W.sl (isTy_fnd (isSl_of hT).1) (isSl_of hT).2
  obtain ⟨i, d, F⟩ := W.facts he
  simp only [Instr.indexAt, asIntOf, Sem.run_bind, Sem.run_pure, Result.andThen_ok, run_underlying hu, if_pos (And.intro h1 h2), F.sizeOf, add_none]
theorem op_indexAddr_sl {A : Ann} (W : WF P A) (G : RelG B D η O σ a w) (hn : Post B σ a o.dst next K r) (hd : ∀ d, o.dst = some d → d < B.N) (T : Nat) (x i : Operand) (ho : o.op = .indexAddr T x i) {t : Ty} (hT : isSl A T t = true) {xs : List t.den} (hb : σ.eval x = .d (.sl t) xs)
    (h : idx (σ.eval i) (List.length xs) (fun j => K (.el t (rd xs j)) []) = some r) : o.wp P a w next Q := by
  have hv := G.eval x
  rw [hb] at hv
  obtain ⟨k, z, h2, h3, h4, h5⟩ := idx_some h (G.eval i)
  obtain ⟨ad, cap, e, hc, hrow⟩ := (Rz.sl (isSl_of hT).2).1 (vr_sl hv)
  obtain ⟨b, off, rfl, hD, hall⟩ := hrow (by omega)
  have h1 : a.eval x = .slice (some ⟨b, off, none⟩) (List.length xs) cap := by simpa using e
  obtain ⟨us, h6, h7, h8⟩ := hall z.toNat (by omega)
  refine wp_pure hn G hd h5 (.el t _ b (off + z.toNat * t.size) us hD h7 h8) ?_
  simp only [execOp, ho, h1, h2, Sem.run_bind, indexAt_run W hT b off _ cap k z h3 h4, Result.andThen_ok, Sem.run_pure]
theorem op_indexAddr_arr {A : Ann} (W : WF P A) (G : RelG B D η O σ a w) (hn : Post B σ a o.dst next K r) (hd : ∀ d, o.dst = some d → d < B.N) (T : Nat) (x i : Operand) (ho : o.op = .indexAddr T x i) {n e : Nat} (hT : P.underlying T = some (.array n e)) {t : Ty} (ht : fnd A.ty e = some t)
    {q c j : Nat} (hx : σ.eval x = .ptr q c) (hl : ∃ l, look σ.h q = some (.box l)) {k : IntKind} (hi : σ.eval i = .d (.int k) (Int.ofNat j)) (hj : j < n) (h : K (.ptr q (c + j * t.size)) [] = some r) : o.wp P a w next Q := by
  obtain ⟨l, hq⟩ := hl
  have hv := G.eval x
  rw [hx] at hv
  obtain ⟨b, cs, T', h1, h2, h3, h4, h5⟩ := G.box hv hq
  have hv2 := G.eval i
  rw [hi] at hv2
  have h6 := vr_int hv2
  obtain ⟨ii, d, F⟩ := W.facts ht
  refine wp_pure hn G hd h (x := .pointer (some ⟨b, c + j * t.size, none⟩)) (.ptr q _ _ Leaf.pointer (look_some_isSome hq) (fun l' b' hl' hb' => by rw [h2] at hb'; cases hb'; rfl)) ?_
  have hj' : (0 : Int) ≤ Int.ofNat j ∧ Int.ofNat j < (n : Int) := ⟨Int.natCast_nonneg j, by show (j : Int) < n; omega⟩
  simp only [execOp, ho, h1, h6, Instr.indexAt, asIntOf, Instr.sureAddr, Sem.run_bind, Sem.run_pure, Result.andThen_ok, run_underlying hT, if_pos hj', F.sizeOf, add_none] <;> rfl

theorem op_field {A : Ann} (W : WF P A) (G : RelG B D η O σ a w) (hn : Post B σ a o.dst next K r) (hd : ∀ d, o.dst = some d → d < B.N) (T f : Nat) (x : Operand) (ho : o.op = .field T x f) {c : Nat} {p : List Bool} (hf : fieldAt P T f = some (c, p)) {t : Ty} (hty : ∃ fs g, P.underlying T = some (.struct fs) ∧ fs[f]? = some g ∧ fnd A.ty g.type = some t)
    {l : List V} (hx : σ.eval x = .agg l) (h : getC t l c K = some r) : o.wp P a w next Q := by
  have hv := G.eval x
  rw [hx] at hv
  obtain ⟨cs, h1, h2, h3, h4⟩ := vr_agg hv
  obtain ⟨fs, g, i, hu, hg, hi, h0, rfl, _⟩ := (fieldAt_f hf).ex
  obtain ⟨fs', g', hu', hg', ht⟩ := hty
  rw [hu] at hu'; cases hu'
  rw [hg] at hg'; cases hg'
  obtain ⟨_, d, F⟩ := W.facts ht
  have hag := F.isAgg (w := w)
  have hsz := F.sizeOf (w := w)
  unfold getC at h
  split at h
  · rename_i ha
    split at h
    case h_2 => cases h
    rename_i hl
    have hl := Nat.eq_of_beq_eq_true hl
    rw [tk_eq] at hl h
    have hle : t.size = 0 ∨ g.offset + t.size ≤ l.length := by simp at hl; omega
    refine wp_pure hn G hd h (x := .agg (cs.extract g.offset (g.offset + t.size))) (.agg _ _ ?_ (fun j hj => ?_) (fun j hj => ?_)) ?_
    · simp [h2]; omega
    · have hj' : j < t.size ∧ g.offset + j < l.length := by simp at hj; omega
      have e : (cs.extract g.offset (g.offset + t.size)).getD j undef = cs.getD (g.offset + j) undef := by
        simp [Array.getD, h2]; split <;> (try split) <;> first | rfl | omega
      rw [e]; exact h3 _ hj'.2
    · have hj' : j < t.size ∧ g.offset + j < l.length := by simp at hj; omega
      have e : (cs.extract g.offset (g.offset + t.size)).getD j undef = cs.getD (g.offset + j) undef := by
        simp [Array.getD, h2]; split <;> (try split) <;> first | rfl | omega
      rw [e, List.getElem_take, List.getElem_drop]; exact h4 _ hj'.2
    · rw [ha] at hag
      simp only [execOp, ho, h1, Instr.field, Sem.run_bind, run_underlying hu, Result.andThen_ok, hg, asAgg, Sem.run_pure, Go.part, hag, if_true, hsz]
  · rename_i ha
    split at h
    case h_2 => cases h
    rename_i v hv
    rw [tk_eq] at hv
    have hi' : g.offset < l.length := by
      rcases Nat.lt_or_ge g.offset l.length with h | h
      · exact h
      · rw [List.drop_eq_nil_of_le h] at hv; simp at hv
    have e : v = l[g.offset] := by
      have : (l.drop g.offset).take 1 = [l[g.offset]] := by rw [List.drop_eq_getElem_cons hi']; rfl
      rw [this] at hv; cases hv; rfl
    have h5 := h4 g.offset hi'
    rw [← e] at h5
    refine wp_pure hn G hd h h5 ?_
    rw [ha] at hag
    have h6 : cs[g.offset]? = some (cs.getD g.offset undef) := by simp [Array.getD, h2, hi']
    simp only [execOp, ho, h1, Instr.field, Sem.run_bind, run_underlying hu, Result.andThen_ok, hg, asAgg, Sem.run_pure, Go.part, hag, Bool.false_eq_true, if_false, h6]
theorem exec_builtin {c : Call} {b : Builtin} (ho : o.op = .call c) (hc : c.callee = .builtin b) :
    (execOp a.eval o).run P w = (builtin b c.argTypes o.type (c.args.map fun | .const _ => true | _ => false) (c.args.map a.eval)).run P w := by
  simp only [execOp, ho, resolve, hc, Sem.run_bind, Sem.run_pure, Result.andThen_ok, invoke] <;> rfl
theorem map_one {α β : Type} {f : α → β} : ∀ {l : List α} {x : β}, l.map f = [x] → ∃ p, l = [p] ∧ f p = x
  | [p], x, h => by simp at h; exact ⟨p, rfl, h⟩
  | [], _, h => by simp at h
  | _ :: _ :: _, _, h => by simp at h
theorem map_two {α β : Type} {f : α → β} : ∀ {l : List α} {x y : β}, l.map f = [x, y] → ∃ p q, l = [p, q] ∧ f p = x ∧ f q = y
  | [p, q], x, y, h => by simp at h; exact ⟨p, q, rfl, h.1, h.2⟩
  | [], _, _, h => by simp at h
  | [_], _, _, h => by simp at h
  | _ :: _ :: _ :: _, _, _, h => by simp at h
theorem args_of {c : Call} {l : List Operand} (h : c.args.toList = l) : (c.args.map a.eval).toList = l.map a.eval := by simp [h]

theorem mm_run {mx : Bool} {k : IntKind} (G : RelG B D η O σ a w) : ∀ (l : List Operand) (x z : Int), mmFold mx k x (l.map σ.eval) = some z →
    ((l.map a.eval).foldlM (match mx with | true => Builtin.max2 | false => Builtin.min2) (.int k x)).run P w = .ok (.int k z) w
  | [], x, z, h => by simp [mmFold] at h; subst h; simp
  | p :: l, x, z, h => by
    simp only [List.map_cons] at h
    unfold mmFold at h
    split at h
    · rename_i e; simp at e
    · rename_i x' k' y r' e
      simp only [List.cons.injEq] at e
      obtain ⟨e1, e2⟩ := e
      split at h
      case h_2 => cases h
      rename_i hk
      obtain rfl := ikEq_eq hk
      have hv := G.eval p
      rw [e1] at hv
      have hv := vr_int hv
      subst e2
      simp only [List.map_cons, List.foldlM_cons, Sem.run_bind, hv]
      cases mx with
      | true =>
        simp only [Builtin.max2, Sem.run_pure, Result.andThen_ok]
        exact mm_run (mx := true) G l _ z h
      | false =>
        simp only [Builtin.min2, Sem.run_pure, Result.andThen_ok]
        exact mm_run (mx := false) G l _ z h
    · cases h
theorem op_mm (G : RelG B D η O σ a w) (hn : Post B σ a o.dst next K r) (hd : ∀ d, o.dst = some d → d < B.N) (c : Call) (ho : o.op = .call c) (mx : Bool) (hc : c.callee = .builtin (match mx with | true => .max | false => .min)) {k : IntKind} {x z : Int} {l : List V} (hx : c.args.toList.map σ.eval = .d (.int k) x :: l)
    (hz : mmFold mx k x l = some z) (h : K (.d (.int k) z) [] = some r) : o.wp P a w next Q := by
  obtain ⟨p, ps, h1, h2, h3⟩ : ∃ p ps, c.args.toList = p :: ps ∧ σ.eval p = .d (.int k) x ∧ ps.map σ.eval = l := by
    cases hl : c.args.toList with
    | nil => rw [hl] at hx; simp at hx
    | cons p ps => rw [hl] at hx; simp at hx; exact ⟨p, ps, rfl, hx.1, hx.2⟩
  have hv := G.eval p
  rw [h2] at hv
  have hv := vr_int hv
  subst h3
  have e := mm_run (P := P) G ps x z hz
  refine wp_pure hn G hd h (mk_int _ _) ?_
  rw [exec_builtin ho hc]
  have hargs := args_of (a := a) h1
  cases mx with
  | true => simp only [builtin, Builtin.max_, hargs, List.map_cons, hv, Sem.run_bind, e, Result.andThen_ok, Sem.run_pure]
  | false => simp only [builtin, Builtin.min_, hargs, List.map_cons, hv, Sem.run_bind, e, Result.andThen_ok, Sem.run_pure]
end
end Go.Proofs.YtpoppblfnaipbaaDoor.Eng
/-! ## The engine: rows: what is read of them, how they are frozen. -/
namespace Go.Proofs.YtpoppblfnaipbaaDoor.Eng
open Go
set_option autoImplicit false
set_option linter.unusedVariables false
set_option linter.unusedSimpArgs false

/-- How deep a root's row is owned. -/
def dep (fz : Bool) (n : Nat) : Nat := match fz with | true => 0 | false => n + 1
/-- A row's head. -/
theorem row_head {w : World} {D : Bs} {t : Ty} (ht : t.isEnt = false) {n : Nat} {xs : List t.den} {x : Value} {O : Bs} (h : OwnE w D (.sl t) n xs [x] O) :
    ∃ ad cap, x = .slice ad (List.length xs) cap ∧ List.length xs ≤ cap ∧ (0 < List.length xs → ∃ b off, ad = some ⟨b, off, none⟩ ∧ (D b ∨ O b) ∧
      ∀ i, i < List.length xs → ∃ us Oi, us.length = t.size ∧ OwnE w D t (n - 1) (rd xs i) us Oi ∧ (∀ b, Oi b → O b) ∧ ∀ j, j < t.size → w.cell? ⟨b, off + i * t.size + j, none⟩ = us[j]?) := by
  cases n with
  | zero =>
    obtain ⟨h, hO⟩ := OwnE.zero.1 h
    obtain ⟨ad, cap, e, hc, hrow⟩ := (Rz.sl ht).1 h
    refine ⟨ad, cap, by simpa using e, hc, fun h0 => ?_⟩
    obtain ⟨b, off, rfl, hb, hall⟩ := hrow h0
    refine ⟨b, off, rfl, .inl hb, fun i hi => ?_⟩
    obtain ⟨us, h1, h2, h3⟩ := hall i hi
    exact ⟨us, fun _ => False, h1, OwnE.zero.2 ⟨h2, fun _ h => h⟩, fun _ h => h.elim, h3⟩
  | succ n =>
    rcases h.row ht with ⟨h0, rfl, _⟩ | ⟨b, off, cap, c, T, OO, rfl, hb, hn, hc, hm, hall, hOO, hnb, hdis⟩
    · exact ⟨none, 0, by rw [h0], by omega, fun h => by omega⟩
    · refine ⟨_, cap, rfl, hn, fun h0 => ⟨b, off, rfl, .inr ((hOO b).2 (.inl rfl)), fun i hi => ?_⟩⟩
      obtain ⟨us, h1, h2, h3⟩ := hall i hi
      refine ⟨us, OO i, h1, h3, fun y hy => (hOO y).2 (.inr ⟨i, hi, hy⟩), fun j hj => ?_⟩
      rw [← h2 j hj]; simp [World.cell?, hb]
/-- A row within a row. -/
theorem row_at {w : World} {D : Bs} : ∀ (is : List Nat) (t : Ty) (n : Nat) (xs : List t.den) (hv x : Value) (O : Bs) (c : C), OwnE w D (.sl t) n xs [hv] O → Valid t xs is → hdrAt w hv is = some x → rowAt t xs is = some c →
    ∃ s ys O', c = ⟨.sl s, ys⟩ ∧ OwnE w D (.sl s) (n - is.length) ys [x] O' ∧ ∀ b, O' b → O b
  | [], t, n, xs, hv, x, O, c, h, _, hx, hc => by
    have e : hv = x := by cases hv <;> simpa [hdrAt] using hx
    have e2 : c = ⟨.sl t, xs⟩ := by cases t <;> simpa [rowAt] using hc.symm
    subst e e2
    exact ⟨t, xs, O, rfl, h, fun _ h => h⟩
  | i :: is, .sl t, n, xs, hv, x, O, c, h, ⟨hi, hval⟩, hx, hc => by
    obtain ⟨ad, cap, rfl, hcap, hrow⟩ := row_head rfl h
    obtain ⟨b, off, rfl, hb, hall⟩ := hrow (by omega)
    obtain ⟨us, Oi, h1, h2, h3, h4⟩ := hall i hi
    have h0 := h4 0 (by simp [Ty.size])
    simp only [Ty.size, Nat.mul_one, Nat.add_zero] at h0 h1
    obtain ⟨u, rfl⟩ : ∃ u, us = [u] := by match us, h1 with | [u], _ => exact ⟨u, rfl⟩
    simp only [List.getElem?_cons_zero] at h0
    simp only [hdrAt, h0] at hx
    simp only [rowAt] at hc
    obtain ⟨s, ys, O', g1, g2, g3⟩ := row_at is t (n - 1) _ u x Oi c h2 hval hx hc
    refine ⟨s, ys, O', g1, ?_, fun b hb => h3 b (g3 b hb)⟩
    have e : n - 1 - is.length = n - (i :: is).length := by simp; omega
    rw [← e]; exact g2
  | _ :: _, .int _, _, _, _, _, _, _, _, hval, _, _ => hval.elim
  | _ :: _, .bool, _, _, _, _, _, _, _, hval, _, _ => hval.elim
  | _ :: _, .str, _, _, _, _, _, _, _, hval, _, _ => hval.elim
  | _ :: _, .unit, _, _, _, _, _, _, _, hval, _, _ => hval.elim
  | _ :: _, .pair _ _, _, _, _, _, _, _, _, hval, _, _ => hval.elim
  | _ :: _, .tree, _, _, _, _, _, _, _, hval, _, _ => hval.elim
  | _ :: _, .ent _ _, _, _, _, _, _, _, _, hval, _, _ => hval.elim
/-- An element within a row. -/
theorem elem_at {w : World} {D : Bs} (p : List Bool) : ∀ (is : List Nat) (t : Ty) (n : Nat) (xs : List t.den) (hv x : Value) (O : Bs) (c : C), OwnE w D (.sl t) n xs [hv] O → ValidE t xs is → elPtr w p hv t is = some x → elemAt t xs is = some c →
    ∃ b off us Oi, x = .pointer (some ⟨b, off + offs c.t p, none⟩) ∧ elTy t is = some c.t ∧ us.length = c.t.size ∧ OwnE w D c.t (n - is.length) c.x us Oi ∧ (∀ b, Oi b → O b) ∧ ∀ j, j < c.t.size → w.cell? ⟨b, off + j, none⟩ = us[j]?
  | [], _, _, _, _, _, _, _, _, h, _, _ => by simp [ValidE] at h
  | [i], t, n, xs, hv, x, O, c, h, hi, hx, hc => by
    have hi2 : t.isEnt = false ∧ i < List.length xs := by cases t <;> exact hi
    have hi' := hi2.2
    have e2 : c = ⟨t, rd xs i⟩ := by cases t <;> simpa [elemAt] using hc.symm
    obtain ⟨ad, cap, rfl, hcap, hrow⟩ := row_head hi2.1 h
    obtain ⟨b, off, rfl, hb, hall⟩ := hrow (by omega)
    obtain ⟨us, Oi, h1, h2, h3, h4⟩ := hall i hi'
    subst e2
    refine ⟨b, off + i * t.size, us, Oi, ?_, by cases t <;> rfl, h1, h2, h3, h4⟩
    cases t <;> simpa [elPtr] using hx.symm
  | i :: j :: is, .sl t, n, xs, hv, x, O, c, h, ⟨hi, hval⟩, hx, hc => by
    obtain ⟨ad, cap, rfl, hcap, hrow⟩ := row_head rfl h
    obtain ⟨b, off, rfl, hb, hall⟩ := hrow (by omega)
    obtain ⟨us, Oi, h1, h2, h3, h4⟩ := hall i hi
    have h0 := h4 0 (by simp [Ty.size])
    simp only [Ty.size, Nat.mul_one, Nat.add_zero] at h0 h1
    obtain ⟨u, rfl⟩ : ∃ u, us = [u] := by match us, h1 with | [u], _ => exact ⟨u, rfl⟩
    simp only [List.getElem?_cons_zero] at h0
    simp only [elPtr, h0] at hx
    simp only [elemAt] at hc
    obtain ⟨b', off', us', O', g1, g2, g3, g4, g5, g6⟩ := elem_at p (j :: is) t (n - 1) _ u x Oi c h2 hval hx hc
    refine ⟨b', off', us', O', g1, g2, g3, ?_, fun b hb => h3 b (g5 b hb), g6⟩
    have e : n - 1 - (j :: is).length = n - (i :: j :: is).length := by simp; omega
    rw [← e]; exact g4
  | _ :: _ :: _, .int _, _, _, _, _, _, _, _, hval, _, _ => hval.elim
  | _ :: _ :: _, .bool, _, _, _, _, _, _, _, hval, _, _ => hval.elim
  | _ :: _ :: _, .str, _, _, _, _, _, _, _, hval, _, _ => hval.elim
  | _ :: _ :: _, .unit, _, _, _, _, _, _, _, hval, _, _ => hval.elim
  | _ :: _ :: _, .pair _ _, _, _, _, _, _, _, _, hval, _, _ => hval.elim
  | _ :: _ :: _, .tree, _, _, _, _, _, _, _, hval, _, _ => hval.elim
  | _ :: _ :: _, .ent _ _, _, _, _, _, _, _, _, hval, _, _ => hval.elim

section
variable {P : Program} {B : Base} {D : Bs} {η : Nat → Gh} {O : Nat → Bs} {σ : St} {a : Act} {w : World} {o : Oper} {next : Act → World → Prop} {Q : Exit → Act → World → Prop} {R : Type} {r : R} {K : V → Heap → Option R}

/-- A root's row, so deep. -/
theorem RelG.row (G : RelG B D η O σ a w) {q : Nat} {t : Ty} {n v : Nat} {fz : Bool} {xs : List t.den} (hq : look σ.h q = some (.row t n v fz xs)) :
    ∃ hv, η q = .row hv ∧ OwnE w D (.sl t) (dep fz n) xs [hv] (O q) := by
  obtain ⟨hv, h1, h2, _⟩ := G.objs q _ hq
  refine ⟨hv, h1, ?_⟩
  cases fz with
  | true => exact OwnE.zero.2 h2
  | false => exact h2
/-- What a row is that a value tells of. -/
theorem rowOf_ok (G : RelG B D η O σ a w) {v : V} {x : Value} (hv : Vr w D η σ.h v x) {c : C} (hc : rowOf σ.h v = some c) :
    ∃ s ys m O', c = ⟨.sl s, ys⟩ ∧ OwnE w D (.sl s) m ys [x] O' := by
  unfold rowOf at hc
  split at hc
  · cases hc
    exact ⟨_, _, 0, fun _ => False, rfl, OwnE.zero.2 ⟨vr_sl hv, fun _ h => h⟩⟩
  · rename_i q is v' t
    split at hc
    case h_2 => cases hc
    rename_i t0 n v0 fz xs hq
    obtain ⟨hd, h1, h2⟩ := G.row hq
    cases hv with
    | ref _ _ _ _ _ hlf hr hv' hx =>
      split at hc
      · cases hc
        obtain ⟨h3, h4⟩ := hx t0 n v0 fz xs hd hq (.inl rfl) h1
        obtain ⟨s, ys, O', g1, g2, g3⟩ := row_at [] t0 _ xs hd x _ ⟨.sl t0, xs⟩ h2 h3 h4 (by cases t0 <;> rfl)
        exact ⟨s, ys, _, O', g1, g2⟩
      · rename_i i is' hb
        have hb := Nat.eq_of_beq_eq_true hb
        obtain ⟨h3, h4⟩ := hx t0 n v0 fz xs hd hq (.inr hb.symm) h1
        obtain ⟨s, ys, O', g1, g2, g3⟩ := row_at _ t0 _ xs hd x _ c h2 h3 h4 hc
        exact ⟨s, ys, _, O', g1, g2⟩
      · cases hc
  · cases hc

/-- Rows are only given away or frozen. -/
structure FrzH (h h' : Heap) : Prop where
  old : ∀ r, (fnd h r).isSome → (fnd h' r).isSome
  new : ∀ r, fnd h r = none → fnd h' r = none
  box : ∀ r l, look h' r = some (.box l) → look h r = some (.box l)
  row : ∀ r t n v fz xs, look h' r = some (.row t n v fz xs) → ∃ n0 fz0, look h r = some (.row t n0 v fz0 xs)
theorem FrzH.refl (h : Heap) : FrzH h h := ⟨fun _ h => h, fun _ h => h, fun _ _ h => h, fun r t n v fz xs h => ⟨n, fz, h⟩⟩
theorem FrzH.trans {h h' h'' : Heap} (F : FrzH h h') (G : FrzH h' h'') : FrzH h h'' where
  old := fun r hr => G.old r (F.old r hr)
  new := fun r hr => G.new r (F.new r hr)
  box := fun r l hl => F.box r l (G.box r l hl)
  row := fun r t n v fz xs hl => by
    obtain ⟨n0, fz0, h0⟩ := G.row r t n v fz xs hl
    exact F.row r t n0 v fz0 xs h0
theorem FrzH.evo {h h' : Heap} (F : FrzH h h') {D D' : Bs} (hD : ∀ b, D b → D' b) (w : World) (η : Nat → Gh) : Evo w D η h w D' η h' where
  dsub := hD
  same := Same.refl _ _
  old := F.old
  eta := fun _ _ => rfl
  box := fun r l _ hl => ⟨l, F.box r l hl⟩
  row := fun r t n v fz xs _ hl => by
    obtain ⟨n0, fz0, h0⟩ := F.row r t n v fz xs hl
    exact ⟨n0, v, fz0, xs, h0, fun hv _ => ⟨fun is _ h => ⟨h, rfl⟩, fun _ is p h => ⟨h, rfl⟩⟩⟩
  ver := fun r t n v fz xs t0 n0 v0 fz0 xs0 _ hl hl0 => by
    obtain ⟨n1, fz1, h1⟩ := F.row r t n v fz xs hl
    rw [h1] at hl0; cases hl0; exact .inl rfl
theorem FrzH.one {h : Heap} {q : Nat} {t : Ty} {n v : Nat} {fz : Bool} {xs : List t.den} (hq : look h q = some (.row t n v fz xs)) (n' : Nat) (fz' : Bool) : FrzH h ([(q, some (.row t n' v fz' xs))] ++ h) where
  old := fun r hr => fnd_isSome_append hr
  new := fun r hr => by
    have e : q ≠ r := fun e => by have := look_some_isSome hq; rw [e, hr] at this; cases this
    rw [fnd_append, fnd_cons, if_neg e]; exact hr
  box := fun r l hl => by
    by_cases e : r = q
    · subst e; simp [look, fnd_cons] at hl
    · rwa [look_append_none (by rw [fnd_cons, if_neg (Ne.symm e)]; rfl)] at hl
  row := fun r t1 n1 v1 fz1 xs1 hl => by
    by_cases e : r = q
    · subst e
      have : look ([(r, some (Ob.row t n' v fz' xs))] ++ h) r = some (.row t n' v fz' xs) := by simp [look, fnd_cons]
      rw [this] at hl; cases hl; exact ⟨n, fz, hq⟩
    · rw [look_append_none (by rw [fnd_cons, if_neg (Ne.symm e)]; rfl)] at hl
      exact ⟨n1, fz1, hl⟩
theorem FrzH.gone (h : Heap) (q : Nat) (hq : (fnd h q).isSome) : FrzH h ([(q, none)] ++ h) where
  old := fun r hr => fnd_isSome_append hr
  new := fun r hr => by
    have e : q ≠ r := fun e => by rw [e, hr] at hq; cases hq
    rw [fnd_append, fnd_cons, if_neg e]; exact hr
  box := fun r l hl => by
    by_cases e : r = q
    · subst e; simp [look, fnd_cons] at hl
    · rwa [look_append_none (by rw [fnd_cons, if_neg (Ne.symm e)]; rfl)] at hl
  row := fun r t1 n1 v1 fz1 xs1 hl => by
    by_cases e : r = q
    · subst e; simp [look, fnd_cons] at hl
    · rw [look_append_none (by rw [fnd_cons, if_neg (Ne.symm e)]; rfl)] at hl
      exact ⟨n1, fz1, hl⟩
/-- A root's row is held less deep. -/
theorem RelG.lower (G : RelG B D η O σ a w) {q : Nat} {t : Ty} {n v : Nat} {fz : Bool} {xs : List t.den} (hq : look σ.h q = some (.row t n v fz xs)) (n' : Nat) (fz' : Bool)
    (hle : (dep fz' n') ≤ (dep fz n)) :
    ∃ D' O', RelG B D' η O' (σ.after none .un [(q, some (.row t n' v fz' xs))]) a w ∧ (∀ b, D b → D' b) ∧ (∀ r, r ≠ q → O' r = O r) ∧ (∀ b, O q b → D' b ∨ O' q b) ∧ Evo w D η σ.h w D' η ([(q, some (.row t n' v fz' xs))] ++ σ.h) := by
  have hqi := look_some_isSome hq
  obtain ⟨hv, h1, h2⟩ := G.row hq
  obtain ⟨Oq, h3, h4⟩ := OwnE.shallow (.sl t) _ _ xs [hv] (O q) hle h2
  let D' : Bs := fun b => D b ∨ (O q b ∧ ¬ Oq b)
  let O' : Nat → Bs := fun r b => if r = q then Oq b else O r b
  have hDD : ∀ b, D b → D' b := fun _ h => .inl h
  have hO' : ∀ r b, O' r b → O r b := by
    intro r b h
    by_cases e : r = q
    · subst e; simp only [O', if_true] at h; exact h4 b h
    · simpa only [O', e, if_false] using h
  have hlook : ∀ r, r ≠ q → look ([(q, some (Ob.row t n' v fz' xs))] ++ σ.h) r = look σ.h r := by
    intro r hr; apply look_append_none; rw [fnd_cons, if_neg (Ne.symm hr)]; rfl
  have hlk : look ([(q, some (Ob.row t n' v fz' xs))] ++ σ.h) q = some (.row t n' v fz' xs) := by simp [look, fnd_cons]
  have E : Evo w D η σ.h w D' η ([(q, some (.row t n' v fz' xs))] ++ σ.h) :=
    G.evo hDD (Same.refl _ _) (fun _ _ => rfl) (fun r hr => by
      by_cases e : r = q
      · subst e
        exact .row t n v fz xs n' v fz' xs hq hlk (.inl rfl) (fun hv _ => ⟨fun is _ h => ⟨h, rfl⟩, fun _ is p h => ⟨h, rfl⟩⟩)
      · exact .same (hlook r e) (Same.refl _ _))
  refine ⟨D', O', G.go (dst := none) (v := .un) (x := undef) (fun d h => by cases h) E rfl rfl rfl (Nat.le_refl _) (fun _ _ => rfl) (fun r b h => G.okeep r b (hO' r b h)) ?_ ?_ ?_ (fun r r' b h h' => G.odis r r' b (hO' r b h) (hO' r' b h')) ?_ (.un _), hDD, fun r hr => by funext b; simp [O', hr], fun b hb => ?_, E⟩
  · rintro b (h | ⟨h, _⟩)
    · exact G.dlt b h
    · exact (G.olt q b h).1
  · rintro b (h | ⟨h, _⟩)
    · exact .inl h
    · exact .inr (G.okeep q b h)
  · intro r b h
    refine ⟨(G.olt r b (hO' r b h)).1, ?_⟩
    rintro (h' | ⟨h', hn⟩)
    · exact (G.olt r b (hO' r b h)).2 h'
    · have e : r = q := G.odis r q b (hO' r b h) h'
      subst e; simp only [O', if_true] at h; exact hn h
  · intro r ob hr
    by_cases e : r = q
    · subst e
      rw [hlk] at hr; cases hr
      have e2 : O' r = Oq := by funext b; simp [O']
      rw [e2]
      refine ⟨hv, h1, ?_, fnd_isSome_append (G.objs r _ hq).choose_spec.2.2⟩
      cases fz' with
      | true => exact OwnE.zero.1 h3
      | false => exact h3
    · rw [hlook r e] at hr
      have e2 : O' r = O r := by funext b; simp [O', e]
      rw [e2]
      exact (G.objs r ob hr).mono E (look_some_isSome hr) (Same.refl _ _)
  · by_cases h : Oq b
    · right; simp only [O', if_true]; exact h
    · left; exact .inr ⟨hb, h⟩

/-- What others hold too. -/
theorem RelG.frz (G : RelG B D η O σ a w) {q : Nat} {is : List Nat} {u : Heap} (h : frz σ.h q is = some u) :
    ∃ D' O', RelG B D' η O' (σ.after none .un u) a w ∧ (∀ b, D b → D' b) ∧ (∀ b, O q b → D' b ∨ O' q b) ∧ (∀ r, r ≠ q → O' r = O r) ∧ FrzH σ.h (u ++ σ.h) ∧ (∃ t n v fz xs, look (u ++ σ.h) q = some (.row t n v fz xs) ∧ (∃ n0 fz0, look σ.h q = some (.row t n0 v fz0 xs)) ∧ ((dep fz n) ≤ is.length)) := by
  unfold Eng.frz at h
  split at h
  case h_2 => cases h
  rename_i t n v fz xs hq
  split at h
  · cases h
    exact ⟨D, O, G.go (u := []) (dst := none) (v := .un) (x := undef) (fun d h => by cases h) (Evo.refl _ _ _ _) rfl rfl rfl (Nat.le_refl _) (fun _ _ => rfl) G.okeep G.dlt (fun _ h => .inl h) G.olt G.odis G.objs (.un _), fun _ h => h, fun _ h => .inr h, fun _ _ => rfl, FrzH.refl _, t, n, v, true, xs, hq, ⟨n, true, hq⟩, by simp [dep]⟩
  · cases h
    obtain ⟨D', O', G', h1, h2, h3, E'⟩ := G.lower hq n true (by simp [dep])
    exact ⟨D', O', G', h1, h3, h2, FrzH.one hq _ _, t, n, v, true, xs, by simp [look, fnd_cons], ⟨n, false, hq⟩, by simp [dep]⟩
  · rename_i js
    cases h
    obtain ⟨D', O', G', h1, h2, h3, E'⟩ := G.lower hq (min n js.length) false (by simp [dep]; omega)
    exact ⟨D', O', G', h1, h3, h2, FrzH.one hq _ _, t, min n js.length, v, false, xs, by simp [look, fnd_cons], ⟨n, false, hq⟩, by simp [dep]; omega⟩

/-- And what floats, floats on. -/
structure FrzO (h h' : Heap) (O O' : Nat → Bs) : Prop extends FrzH h h' where
  dead : ∀ r, look h r = none → O' r = O r
theorem FrzO.refl (h : Heap) (O : Nat → Bs) : FrzO h h O O := ⟨FrzH.refl h, fun _ _ => rfl⟩
theorem FrzH.none {h h' : Heap} (F : FrzH h h') {r : Nat} (hr : look h r = none) : look h' r = none := by
  cases e : look h' r with
  | none => rfl
  | some o =>
    cases o with
    | box l => rw [F.box r l e] at hr; cases hr
    | row t n v fz xs => obtain ⟨n0, fz0, h0⟩ := F.row r t n v fz xs e; rw [h0] at hr; cases hr
theorem FrzO.trans {h h' h'' : Heap} {O O' O'' : Nat → Bs} (F : FrzO h h' O O') (G : FrzO h' h'' O' O'') : FrzO h h'' O O'' :=
  ⟨F.toFrzH.trans G.toFrzH, fun r hr => (G.dead r (F.none hr)).trans (F.dead r hr)⟩

/-- A datum of one cell, frozen where it was the call's own. -/
theorem leafD_ok (G : RelG B D η O σ a w) {t : Ty} {v : V} {x : Value} (hv : Vr w D η σ.h v x) {y : t.den} {u : Heap} (h : leafD σ.h t v = some (y, u)) :
    ∃ D' O', RelG B D' η O' (σ.after none .un u) a w ∧ (∀ b, D b → D' b) ∧ FrzO σ.h (u ++ σ.h) O O' ∧ Rz w D' t y [x] := by
  have same : ∀ {y : t.den}, Rz w D t y [x] → ∃ D' O', RelG B D' η O' (σ.after none .un []) a w ∧ (∀ b, D b → D' b) ∧ FrzO σ.h ([] ++ σ.h) O O' ∧ Rz w D' t y [x] := fun hr =>
    ⟨D, O, G.go (u := []) (dst := none) (v := .un) (x := undef) (fun d h => by cases h) (Evo.refl _ _ _ _) rfl rfl rfl (Nat.le_refl _) (fun _ _ => rfl) G.okeep G.dlt (fun _ h => .inl h) G.olt G.odis G.objs (.un _), fun _ h => h, FrzO.refl _ _, hr⟩
  unfold leafD at h
  split at h
  · rename_i s z
    split at h
    case h_2 => cases h
    rename_i y' hc
    cases h
    unfold Ty.cast at hc
    split at hc
    case isFalse => cases hc
    rename_i hb
    obtain rfl := Ty.eq_of_beq hb
    cases hc
    cases hv with
    | d _ _ _ ha hr => exact same hr
  · split at h
    case h_2 => cases h
    rename_i e0
    split at h
    · cases h
    rename_i he
    cases h
    obtain rfl := vr_k hv
    exact same ((Rz.sl he).2 ⟨none, 0, rfl, by simp, fun h => absurd h (by simp)⟩)
  · rename_i bb
    split at h
    case h_2 => cases h
    cases h
    obtain rfl := vr_k hv
    exact same rfl
  · rename_i q is ver e
    split at h
    case h_2 => cases h
    rename_i s z u' hro hfr
    split at h
    case h_2 => cases h
    rename_i y' hc
    cases h
    unfold Ty.cast at hc
    split at hc
    case isFalse => cases hc
    rename_i hb
    obtain rfl := Ty.eq_of_beq hb
    cases hc
    obtain ⟨D', O', G', h1, h2, h2', E', t1, n1, v1, fz1, xs1, h3, ⟨n0, fz0, h4⟩, h5⟩ := G.frz hfr
    refine ⟨D', O', G', h1, ⟨E', fun r hr => h2' r (fun e => by rw [e, h4] at hr; cases hr)⟩, ?_⟩
    have hv' := hv.mono (E'.evo h1 w η)
    have hq' : look (σ.after none .un u).h q = some (.row t1 n1 v1 fz1 xs1) := by rw [St.after_h]; exact h3
    obtain ⟨hd, g1, g2⟩ := G'.row hq'
    unfold rowOf at hro
    simp only [h4] at hro
    cases hv' with
    | ref _ _ _ _ _ hlf hr hvv hx =>
      have fin : ∀ (hc : is = [] ∨ v1 = ver), rowAt t1 xs1 is = some ⟨s, z⟩ → Rz w D' s z [x] := by
        intro hc hra
        obtain ⟨k1, k2⟩ := hx t1 n1 v1 fz1 xs1 hd h3 hc g1
        obtain ⟨s', ys, O'', m1, m2, m3⟩ := row_at is t1 _ xs1 hd x _ _ g2 k1 k2 hra
        cases m1
        have e0 : (dep fz1 n1) - is.length = 0 := by omega
        rw [e0] at m2
        exact (OwnE.zero.1 m2).1
      split at hro
      · exact fin (.inl rfl) (by cases t1 <;> (cases hro; rfl))
      · rename_i hb; exact fin (.inr (Nat.eq_of_beq_eq_true hb).symm) hro
      · cases hro
  · cases h
theorem after_after (σ : St) (u u' : Heap) (d : Option Nat) (v : V) : ((σ.after none .un u).after d v u') = σ.after d v (u' ++ u) := by
  have e : ∀ (s : St) (d : Option Nat) (v : V) (u : Heap), s.after d v u = ⟨(match d with | some i => (i, v) :: s.t | none => s.t), u ++ s.h⟩ := fun s d v u => by
    cases u <;> rfl
  simp only [e, List.append_assoc]
theorem RelG.same0 (G : RelG B D η O σ a w) : RelG B D η O (σ.after none .un []) a w :=
  G.go (u := []) (dst := none) (v := .un) (x := undef) (fun d h => by cases h) (Evo.refl _ _ _ _) rfl rfl rfl (Nat.le_refl _) (fun _ _ => rfl) G.okeep G.dlt (fun _ h => .inl h) G.olt G.odis G.objs (.un _)
/-- Values, each with its cell. -/
def Cells (w : World) (D : Bs) (η : Nat → Gh) (h : Heap) (l : List V) (cs : List Value) : Prop := cs.length = l.length ∧ ∀ i (hi : i < l.length), Vr w D η h l[i] (cs.getD i undef)
theorem Cells.mono {hp hp' : Heap} {D' : Bs} {l : List V} {cs : List Value} (E : Evo w D η hp w D' η hp') (H : Cells w D η hp l cs) : Cells w D' η hp' l cs := ⟨H.1, fun i hi => (H.2 i hi).mono E⟩
theorem Cells.cons {hp : Heap} {v : V} {l : List V} {cs : List Value} (H : Cells w D η hp (v :: l) cs) : ∃ x cs', cs = x :: cs' ∧ Vr w D η hp v x ∧ Cells w D η hp l cs' := by
  match cs, H with
  | [], H => exact absurd H.1 (by simp)
  | x :: cs, H => exact ⟨x, cs, rfl, by have := H.2 0 (by simp); exact this, by simpa using H.1, fun i hi => by have := H.2 (i + 1) (by simpa using hi); exact this⟩
/-- A datum out of cells, frozen where it was the call's own. -/
theorem gather_ok : ∀ (t : Ty) (l : List V) (cs : List Value) {D : Bs} {O : Nat → Bs} {σ : St} (x : t.den) (l' : List V) (u : Heap), RelG B D η O σ a w → Cells w D η σ.h l cs → gather σ.h t l = some (x, l', u) →
    ∃ D' O' us cs', RelG B D' η O' (σ.after none .un u) a w ∧ (∀ b, D b → D' b) ∧ FrzO σ.h (u ++ σ.h) O O' ∧ cs = us ++ cs' ∧ Rz w D' t x us ∧ Cells w D' η (u ++ σ.h) l' cs' := by
  intro t
  have one : ∀ (t : Ty) (v : V) (l : List V) (cs : List Value) {D : Bs} {O : Nat → Bs} {σ : St} (x : t.den) (u : Heap), RelG B D η O σ a w → Cells w D η σ.h (v :: l) cs → leafD σ.h t v = some (x, u) →
      ∃ D' O' us cs', RelG B D' η O' (σ.after none .un u) a w ∧ (∀ b, D b → D' b) ∧ FrzO σ.h (u ++ σ.h) O O' ∧ cs = us ++ cs' ∧ Rz w D' t x us ∧ Cells w D' η (u ++ σ.h) l cs' := by
    intro t v l cs D O σ x u G H h
    obtain ⟨z, cs', rfl, hv, H'⟩ := H.cons
    obtain ⟨D', O', G', h1, h2, h3⟩ := leafD_ok G hv h
    exact ⟨D', O', [z], cs', G', h1, h2, rfl, h3, H'.mono (h2.evo h1 w η)⟩
  induction t with
  | int k =>
    intro l cs D O σ x l' u G H h
    match l, h with
    | v :: l, h => simp only [gather] at h; split at h; rename_i y u' hl; cases h; exact one _ v _ cs _ _ G H hl; cases h
    | [], h => simp [gather] at h
  | bool =>
    intro l cs D O σ x l' u G H h
    match l, h with
    | v :: l, h => simp only [gather] at h; split at h; rename_i y u' hl; cases h; exact one _ v _ cs _ _ G H hl; cases h
    | [], h => simp [gather] at h
  | str =>
    intro l cs D O σ x l' u G H h
    match l, h with
    | v :: l, h => simp only [gather] at h; split at h; rename_i y u' hl; cases h; exact one _ v _ cs _ _ G H hl; cases h
    | [], h => simp [gather] at h
  | sl t =>
    intro l cs D O σ x l' u G H h
    match l, h with
    | v :: l, h => simp only [gather] at h; split at h; rename_i y u' hl; cases h; exact one _ v _ cs _ _ G H hl; cases h
    | [], h => simp [gather] at h
  | ent k v _ _ =>
    intro l cs D O σ x l' u G H h
    cases l <;> simp [gather] at h
  | unit =>
    intro l cs D O σ x l' u G H h
    have h : some ((), l, []) = some (x, l', u) := by cases l <;> exact h
    cases h
    exact ⟨D, O, [], cs, G.same0, fun _ h => h, FrzO.refl _ _, rfl, rfl, H⟩
  | pair s t ihs iht =>
    intro l cs D O σ x l' u G H h
    have h : (match gather σ.h s l with | some (x, l, u) => (match gather (u ++ σ.h) t l with | some (y, l, u') => some ((x, y), l, u' ++ u) | none => none) | none => none) = some (x, l', u) := by cases l <;> exact h
    split at h
    case h_2 => cases h
    rename_i y l1 u1 h1
    split at h
    case h_2 => cases h
    rename_i z l2 u2 h2
    cases h
    obtain ⟨D1, O1, us1, cs1, G1, g1, g2, rfl, g3, H1⟩ := ihs l cs _ _ _ G H h1
    have h2' : gather (σ.after none .un u1).h t l1 = some (z, l', u2) := by rw [St.after_h]; exact h2
    obtain ⟨D2, O2, us2, cs2, G2, k1, k2, rfl, k3, H2⟩ := iht l1 cs1 _ _ _ G1 (by rw [St.after_h]; exact H1) h2'
    rw [after_after] at G2
    rw [St.after_h] at k2 H2
    refine ⟨D2, O2, us1 ++ us2, cs2, G2, fun b hb => k1 b (g1 b hb), by rw [List.append_assoc]; exact g2.trans k2, by rw [List.append_assoc], ⟨us1, us2, rfl, Rz.mono k1 (Same.refl _ _) _ _ _ g3, k3⟩, by rw [List.append_assoc]; exact H2⟩
  | tree =>
    intro l cs D O σ x l' u G H h
    match l, h with
    | va :: vb :: vc :: l, h =>
      simp only [gather] at h
      split at h
      case h_2 => cases h
      rename_i y1 y2 y3 u3 h1 h2 h3
      cases h
      obtain ⟨xa, cs1, rfl, ha, H1⟩ := H.cons
      obtain ⟨xb, cs2, rfl, hb, H2⟩ := H1.cons
      obtain ⟨xc, cs3, rfl, hc, H3⟩ := H2.cons
      obtain ⟨_, _, _, _, _, r1⟩ := leafD_ok G ha h1
      obtain ⟨_, _, _, _, _, r2⟩ := leafD_ok G hb h2
      obtain ⟨D', O', G', g1, g2, r3⟩ := leafD_ok G hc h3
      exact ⟨D', O', [xa, xb, xc], cs3, G', g1, g2, rfl, Rz.tree.2 ⟨[xa], [xb, xc], rfl, r1, [xb], [xc], rfl, r2, r3⟩, H3.mono (g2.evo g1 w η)⟩
    | [], h => simp [gather] at h
    | [_], h => simp [gather] at h
    | [_, _], h => simp [gather] at h
/-- A datum, frozen where it was the call's own. -/
theorem datum_ok (G : RelG B D η O σ a w) {t : Ty} {v : V} {x : Value} (hv : Vr w D η σ.h v x) (h0 : 0 < t.size) {y : t.den} {u : Heap} (h : datum σ.h t v = some (y, u)) :
    ∃ D' O', RelG B D' η O' (σ.after none .un u) a w ∧ (∀ b, D b → D' b) ∧ FrzO σ.h (u ++ σ.h) O O' ∧ Rz w D' t y x.cells.toList := by
  unfold datum at h
  split at h
  case h_2 => cases h
  rename_i y' u' hg
  cases h
  have hc : 0 < v.cells.length := by
    rcases Nat.eq_zero_or_pos v.cells.length with h | h
    · have : v.cells = [] := List.eq_nil_of_length_eq_zero h
      rw [this] at hg
      cases t <;> simp [gather, Ty.size] at hg h0
      rename_i s t
      split at hg
      · rename_i y1 l1 u1 hg1
        have : ∀ (s : Ty) (hp : Heap) (z : s.den) (l : List V) (u : Heap), gather hp s [] = some (z, l, u) → s.size = 0 ∧ l = [] := by
          intro s
          induction s with
          | pair a b iha ihb =>
            intro hp z l u hg
            simp only [gather] at hg
            split at hg
            case h_2 => cases hg
            rename_i p q r e1
            obtain ⟨s1, rfl⟩ := iha _ _ _ _ e1
            split at hg
            case h_2 => cases hg
            rename_i p' q' r' e2
            cases hg
            obtain ⟨s2, rfl⟩ := ihb _ _ _ _ e2
            exact ⟨by simp [Ty.size, s1, s2], rfl⟩
          | unit => intro hp z l u hg; simp [gather] at hg; exact ⟨rfl, by simp_all⟩
          | _ => intro hp z l u hg; simp [gather] at hg
        obtain ⟨s1, rfl⟩ := this _ _ _ _ _ hg1
        split at hg
        · rename_i y2 l2 u2 hg2
          obtain ⟨s2, _⟩ := this _ _ _ _ _ hg2
          omega
        · cases hg
      · cases hg
    · exact h
  obtain ⟨h1, h2⟩ := hv.cells hc
  have H : Cells w D η σ.h v.cells x.cells.toList := ⟨by simp [h1], fun i hi => by
    have := (h2 i hi).2
    have e : x.cells.toList.getD i undef = x.cells.getD i undef := by
      rw [getD_of (l := x.cells.toList) (by simp) i]; rfl
    rw [e]; exact this⟩
  obtain ⟨D', O', us, cs', G', g1, g2, e, g3, H'⟩ := gather_ok t _ _ _ _ _ G H hg
  refine ⟨D', O', G', g1, g2, ?_⟩
  have : cs' = [] := List.eq_nil_of_length_eq_zero (by rw [H'.1]; rfl)
  rw [e, this, List.append_nil]; exact g3
end
end Go.Proofs.YtpoppblfnaipbaaDoor.Eng
/-! ## The engine: rows that are made, built upon, stored into. -/
namespace Go.Proofs.YtpoppblfnaipbaaDoor.Eng
open Go
set_option autoImplicit false
set_option linter.unusedVariables false
set_option linter.unusedSimpArgs false

section
variable {P : Program} {B : Base} {D : Bs} {η : Nat → Gh} {O : Nat → Bs} {σ : St} {a : Act} {w : World} {o : Oper} {next : Act → World → Prop} {Q : Exit → Act → World → Prop} {R : Type} {r : R} {K : V → Heap → Option R}

/-- A root is given away; what it owned floats. -/
theorem RelG.gone (G : RelG B D η O σ a w) (q : Nat) (hq : (fnd σ.h q).isSome) : RelG B D η O (σ.after none .un [(q, none)]) a w := by
  have F := FrzH.gone σ.h q hq
  refine G.go (dst := none) (v := .un) (x := undef) (fun d h => by cases h) (F.evo (fun _ h => h) w η) rfl rfl rfl (Nat.le_refl _) (fun _ _ => rfl) G.okeep G.dlt (fun _ h => .inl h) G.olt G.odis ?_ (.un _)
  intro r ob hr
  have hl : look σ.h r = some ob := by
    by_cases e : r = q
    · subst e; simp [look, fnd_cons] at hr
    · rwa [look_append_none (by rw [fnd_cons, if_neg (Ne.symm e)]; rfl)] at hr
  exact (G.objs r ob hl).mono (F.evo (fun _ h => h) w η) (look_some_isSome hl) (Same.refl _ _)

theorem OwnE.leaf {w : World} {D : Bs} {t : Ty} {n : Nat} {xs : List t.den} {x : Value} {O : Bs} (h : OwnE w D (.sl t) (n + 1) xs [x] O) : Leaf x := by
  cases ht : t.isEnt with
  | false => obtain ⟨ad, cap, e, _⟩ := row_head ht h; rw [e]; exact Leaf.slice
  | true =>
    obtain ⟨v, e, h⟩ := h
    obtain rfl : x = v := by simpa using e
    rcases h with h | h
    · rw [h.1] at ht; cases ht
    · obtain ⟨b, rfl⟩ := h.len; exact Leaf.map
/-- A new row, whose block is new, or one that floats; it takes what floats at the roots rs. -/
theorem RelG.newRow (G : RelG B D η O σ a w) {κ : Nat} (hκ : fresh σ.h κ = true) {dst : Option Nat} (hd : ∀ d, dst = some d → d < B.N) {t : Ty} {n : Nat} {xs : List t.den} {w' : World} {x : Value} (rs : Nat → Prop) (hrs : ∀ r, rs r → look σ.h r = none) (Oκ : Bs)
    (hrow : OwnE w' D (.sl t) (n + 1) xs [x] Oκ) (hO : ∀ b, Oκ b → (w.heap.size ≤ b ∧ b < w'.heap.size) ∨ ∃ r, rs r ∧ O r b)
    (hos : w'.os = w.os) (htape : w'.tape = w.tape) (hout : w'.output = w.output) (hsz : w.heap.size ≤ w'.heap.size) (hw : ∀ b, b < w.heap.size → (¬ ∃ r, rs r ∧ O r b) → w'.heap[b]? = w.heap[b]?) :
    Rel B (σ.after dst (.ref κ [] κ t) [(κ, some (.row t n κ false xs))]) (a.put dst x) w' := by
  have hn := fresh_none hκ
  have ne : ∀ r, (fnd σ.h r).isSome → r ≠ κ := by intro r hr e; subst e; rw [hn] at hr; simp at hr
  have hlook : ∀ r, r ≠ κ → look ([(κ, some (Ob.row t n κ false xs))] ++ σ.h) r = look σ.h r := by
    intro r hr; apply look_append_none; rw [fnd_cons, if_neg (Ne.symm hr)]; rfl
  have hlk : look ([(κ, some (Ob.row t n κ false xs))] ++ σ.h) κ = some (.row t n κ false xs) := by simp [look, fnd_cons]
  have hDs : Same D w w' := fun b hb => hw b (G.dlt b hb) (fun ⟨r, _, h⟩ => (G.olt r b h).2 hb)
  have hOs : ∀ r, ¬ rs r → Same (O r) w w' := fun r hr b hb => hw b (G.olt r b hb).1 (fun ⟨r', h1, h2⟩ => hr ((G.odis r r' b hb h2) ▸ h1))
  let η' : Nat → Gh := fun r => if r = κ then .row x else η r
  let O' : Nat → Bs := fun r b => if r = κ then Oκ b else (¬ rs r ∧ O r b)
  have E : Evo w D η σ.h w' D η' ([(κ, some (.row t n κ false xs))] ++ σ.h) :=
    G.evo (fun _ h => h) hDs (fun r hr => if_neg (ne r hr)) (fun r hr => by
      by_cases e : rs r
      · exact .gone ((hlook r (ne r hr)).trans (hrs r e))
      · exact .same (hlook r (ne r hr)) (hOs r e))
  have hOκ : ∀ r b, O' r b → (r = κ ∧ Oκ b) ∨ (r ≠ κ ∧ ¬ rs r ∧ O r b) := by
    intro r b h
    by_cases hr : r = κ
    · simp only [O', hr, if_true] at h; exact .inl ⟨hr, h⟩
    · simp only [O', hr, if_false] at h; exact .inr ⟨hr, h⟩
  have hκb : ∀ b, Oκ b → b < w'.heap.size ∧ ¬ D b ∧ ¬ B.keep b := by
    intro b hb
    rcases hO b hb with ⟨h1, h2⟩ | ⟨r, h1, h2⟩
    · refine ⟨h2, fun h => ?_, fun h => ?_⟩
      · have := G.dlt b h; omega
      · have := G.klt b h; have := G.size; omega
    · exact ⟨Nat.lt_of_lt_of_le (G.olt r b h2).1 hsz, (G.olt r b h2).2, G.okeep r b h2⟩
  refine ⟨D, η', O', G.go hd E hos htape hout hsz (fun b hb => hw b (Nat.lt_of_lt_of_le (G.klt b hb) G.size) (fun ⟨r, _, h⟩ => G.okeep r b h hb)) ?_ ?_ (fun _ h => .inl h) ?_ ?_ ?_ ?_⟩
  · intro r b h
    rcases hOκ r b h with ⟨_, h⟩ | ⟨_, _, h⟩
    · exact (hκb b h).2.2
    · exact G.okeep r b h
  · intro b hb; exact Nat.lt_of_lt_of_le (G.dlt b hb) hsz
  · intro r b h
    rcases hOκ r b h with ⟨_, h⟩ | ⟨_, _, h⟩
    · exact ⟨(hκb b h).1, (hκb b h).2.1⟩
    · exact ⟨Nat.lt_of_lt_of_le (G.olt r b h).1 hsz, (G.olt r b h).2⟩
  · intro r r' b h h'
    rcases hOκ r b h with ⟨e, h⟩ | ⟨_, e, h⟩ <;> rcases hOκ r' _ h' with ⟨e', h'⟩ | ⟨_, e', h'⟩
    · rw [e, e']
    · rcases hO b h with ⟨h1, h2⟩ | ⟨q, h1, h2⟩
      · have := (G.olt r' b h').1; omega
      · exact absurd ((G.odis q r' b h2 h') ▸ h1) e'
    · rcases hO b h' with ⟨h1, h2⟩ | ⟨q, h1, h2⟩
      · have := (G.olt r b h).1; omega
      · exact absurd ((G.odis q r b h2 h) ▸ h1) e
    · exact G.odis r r' b h h'
  · intro r ob hr
    by_cases e : r = κ
    · subst e
      rw [hlk] at hr; cases hr
      have e2 : O' r = Oκ := by funext b; simp [O']
      rw [e2]
      exact ⟨x, if_pos rfl, hrow, by simp [fnd_cons]⟩
    · rw [hlook r e] at hr
      have hnrs : ¬ rs r := fun h => by rw [hrs r h] at hr; cases hr
      have e2 : O' r = O r := by funext b; simp [O', e, hnrs]
      rw [e2]
      exact (G.objs r ob hr).mono E (look_some_isSome hr) (hOs r hnrs)
  · have hlf : Leaf x := by
      exact hrow.leaf
    refine .ref κ [] κ t _ hlf (by simp [fnd_cons]) (by simp [fnd_cons]) (fun t0 n0 v0 fz0 xs0 hv hl _ he => ?_)
    rw [hlk] at hl; cases hl
    simp only [η', if_true] at he
    cases he
    exact ⟨by cases t <;> trivial, by cases x <;> rfl⟩
end
end Go.Proofs.YtpoppblfnaipbaaDoor.Eng
/-! ## The engine: what is moved into a new row. -/
namespace Go.Proofs.YtpoppblfnaipbaaDoor.Eng
open Go
set_option autoImplicit false
set_option linter.unusedVariables false
set_option linter.unusedSimpArgs false

section
variable {P : Program} {B : Base} {D : Bs} {η : Nat → Gh} {O : Nat → Bs} {σ : St} {a : Act} {w : World} {o : Oper} {next : Act → World → Prop} {Q : Exit → Act → World → Prop} {R : Type} {r : R} {K : V → Heap → Option R}

/-- What floats is given up. -/
theorem RelG.sink (G : RelG B D η O σ a w) (O2 : Nat → Bs) (hsub : ∀ r b, O2 r b → O r b) (hlive : ∀ r o, look σ.h r = some o → O2 r = O r) :
    RelG B (fun b => D b ∨ ∃ r, O r b ∧ ¬ O2 r b) η O2 σ a w := by
  refine G.go (u := []) (dst := none) (v := .un) (x := undef) (fun d h => by cases h) ((FrzH.refl σ.h).evo (fun _ h => .inl h) w η) rfl rfl rfl (Nat.le_refl _) (fun _ _ => rfl) (fun r b h => G.okeep r b (hsub r b h)) ?_ ?_ ?_ (fun r r' b h h' => G.odis r r' b (hsub r b h) (hsub r' b h')) ?_ (.un _)
  · rintro b (h | ⟨r, h, _⟩)
    · exact G.dlt b h
    · exact (G.olt r b h).1
  · rintro b (h | ⟨r, h, _⟩)
    · exact .inl h
    · exact .inr (G.okeep r b h)
  · intro r b h
    refine ⟨(G.olt r b (hsub r b h)).1, ?_⟩
    rintro (h' | ⟨r', h', hn⟩)
    · exact (G.olt r b (hsub r b h)).2 h'
    · obtain rfl := G.odis r r' b (hsub r b h) h'
      exact hn h
  · intro r ob hr
    rw [hlive r ob hr]
    exact (G.objs r ob hr).mono ((FrzH.refl σ.h).evo (fun _ h => .inl h) w η) (look_some_isSome hr) (Same.refl _ _)

/-- Elements that float. -/
structure Pcs (w : World) (D : Bs) (O : Nat → Bs) (h0 h : Heap) (t : Ty) (ν : Nat → Nat) (xs : List t.den) (f : Nat → List Value) (Q : Nat → Bs) : Prop where
  own : ∀ i, i < List.length xs → OwnE w D t (ν i) (rd xs i) (f i) (Q i)
  gone : ∀ i b, i < List.length xs → Q i b → ∃ r, look h r = none ∧ look h0 r ≠ none ∧ O r b
  dis : ∀ i j b, i < List.length xs → j < List.length xs → Q i b → Q j b → i = j
theorem OwnE.len {w : World} {D : Bs} {t : Ty} {n : Nat} {x : t.den} {vs : List Value} {O : Bs} (h : OwnE w D t n x vs O) : vs.length = t.size ∧ ∀ v ∈ vs, Leaf v := by
  cases n with
  | zero => exact Rz.shape _ _ _ (OwnE.zero.1 h).1
  | succ n =>
    cases t with
    | sl t =>
      obtain ⟨v, rfl, h⟩ := h
      refine ⟨rfl, fun v' hv' => ?_⟩
      obtain rfl : v' = v := by simpa using hv'
      rcases h with ⟨_, h⟩ | h
      · rcases h with ⟨_, rfl, _⟩ | ⟨b, off, cap, c, T, OO, rfl, _⟩ <;> exact Leaf.slice
      · obtain ⟨b, rfl⟩ := h.len; exact Leaf.map
    | _ => exact Rz.shape _ _ _ ((OwnE.other (fun _ => by simp)).1 h).1
theorem Pcs.mono {D' : Bs} {O' : Nat → Bs} {h0 h h' : Heap} {t : Ty} {ν : Nat → Nat} {xs : List t.den} {f : Nat → List Value} {Q : Nat → Bs} (H : Pcs w D O h0 h t ν xs f Q) (hD : ∀ b, D b → D' b) (F : FrzO h h' O O') : Pcs w D' O' h0 h' t ν xs f Q where
  own := fun i hi => OwnE.mono hD (Same.refl _ _) _ _ _ _ _ (fun _ _ => rfl) (H.own i hi)
  gone := fun i b hi hb => by
    obtain ⟨r, h1, h2, h3⟩ := H.gone i b hi hb
    exact ⟨r, F.none h1, h2, by rw [F.dead r h1]; exact h3⟩
  dis := H.dis
/-- They are held less deep. -/
theorem Pcs.lower (G : RelG B D η O σ a w) {h0 : Heap} {t : Ty} {ν : Nat → Nat} {xs : List t.den} {f : Nat → List Value} {Q : Nat → Bs} (H : Pcs w D O h0 σ.h t ν xs f Q) (m : Nat) (hm : ∀ i, i < List.length xs → m ≤ ν i) :
    ∃ D' O2 Q', RelG B D' η O2 σ a w ∧ (∀ b, D b → D' b) ∧ (∀ r, look h0 r = none → O2 r = O r) ∧ (∀ r o, look σ.h r = some o → O2 r = O r) ∧ (∀ r b, O2 r b → O r b) ∧ Pcs w D' O2 h0 σ.h t (fun _ => m) xs f Q' ∧ (∀ i b, Q' i b → Q i b) ∧ (∀ r b, O r b → O2 r b ∨ ∃ i, i < List.length xs ∧ Q i b) := by
  have key : ∀ i, ∃ Oi : Bs, (i < List.length xs → OwnE w (fun b => D b ∨ (Q i b ∧ ¬ Oi b)) t m (rd xs i) (f i) Oi) ∧ ∀ b, Oi b → Q i b := by
    intro i
    by_cases hi : i < List.length xs
    · obtain ⟨Oi, h1, h2⟩ := OwnE.shallow t (ν i) m _ _ _ (hm i hi) (H.own i hi)
      exact ⟨Oi, fun _ => h1, h2⟩
    · exact ⟨fun _ => False, fun h => absurd h hi, fun _ h => h.elim⟩
  obtain ⟨Q', hQ⟩ : ∃ Q' : Nat → Bs, ∀ i, (i < List.length xs → OwnE w (fun b => D b ∨ (Q i b ∧ ¬ Q' i b)) t m (rd xs i) (f i) (Q' i)) ∧ ∀ b, Q' i b → Q i b :=
    ⟨fun i => Classical.choose (key i), fun i => Classical.choose_spec (key i)⟩
  let O2 : Nat → Bs := fun r b => O r b ∧ ¬ ∃ i, i < List.length xs ∧ Q i b ∧ ¬ Q' i b
  have hlive : ∀ r o, look σ.h r = some o → O2 r = O r := by
    intro r o hr
    funext b
    refine propext ⟨fun h => h.1, fun h => ⟨h, ?_⟩⟩
    rintro ⟨i, hi, hb, _⟩
    obtain ⟨r', h1, _, h3⟩ := H.gone i b hi hb
    obtain rfl := G.odis r r' b h h3
    rw [hr] at h1; cases h1
  have hdead : ∀ r, look h0 r = none → O2 r = O r := by
    intro r hr
    funext b
    refine propext ⟨fun h => h.1, fun h => ⟨h, ?_⟩⟩
    rintro ⟨i, hi, hb, _⟩
    obtain ⟨r', _, h2, h3⟩ := H.gone i b hi hb
    obtain rfl := G.odis r r' b h h3
    exact h2 hr
  have G2 := G.sink O2 (fun r b h => h.1) hlive
  refine ⟨_, O2, Q', G2, fun _ h => .inl h, hdead, hlive, fun r b h => h.1, ⟨fun i hi => ?_, fun i b hi hb => ?_, fun i j b hi hj h1 h2 => H.dis i j b hi hj ((hQ i).2 b h1) ((hQ j).2 b h2)⟩, fun i => (hQ i).2, fun r b h => ?_⟩
  · refine OwnE.mono (fun b hb => ?_) (Same.refl _ _) _ _ _ _ _ (fun _ _ => rfl) ((hQ i).1 hi)
    rcases hb with h | ⟨h1, h2⟩
    · exact .inl h
    · obtain ⟨r, h3, _, h4⟩ := H.gone i b hi h1
      exact .inr ⟨r, h4, fun h => h.2 ⟨i, hi, h1, h2⟩⟩
  · obtain ⟨r, h1, h2, h3⟩ := H.gone i b hi ((hQ i).2 b hb)
    refine ⟨r, h1, h2, h3, ?_⟩
    rintro ⟨j, hj, h4, h5⟩
    obtain rfl := H.dis i j b hi hj ((hQ i).2 b hb) h4
    exact h5 hb
  · by_cases h' : ∃ i, i < List.length xs ∧ Q i b ∧ ¬ Q' i b
    · obtain ⟨i, hi, h1, _⟩ := h'; exact .inr ⟨i, hi, h1⟩
    · exact .inl ⟨h, h'⟩

theorem cast_eq {s t : Ty} {x : s.den} {y : t.den} (h : s.cast t x = some y) : ∃ e : s = t, y = e ▸ x := by
  unfold Ty.cast at h
  split at h
  case isFalse => cases h
  rename_i hb
  exact ⟨Ty.eq_of_beq hb, by cases h; rfl⟩
/-- An element that is moved, or shared. -/
theorem elemV_ok (G : RelG B D η O σ a w) {t : Ty} {v : V} {x : Value} (hv : Vr w D η σ.h v x) (h0 : 0 < t.size) {y : t.den} {n : Nat} {u : Heap} (h : elemV σ.h t v = some (y, n, u)) :
    ∃ D' O' Q, RelG B D' η O' (σ.after none .un u) a w ∧ (∀ b, D b → D' b) ∧ FrzO σ.h (u ++ σ.h) O O' ∧ OwnE w D' t n y x.cells.toList Q ∧ (∀ b, Q b → ∃ r, look (u ++ σ.h) r = none ∧ look σ.h r ≠ none ∧ O' r b) := by
  have shared : ∀ {v : V} {y : t.den} {n : Nat} {u : Heap}, Vr w D η σ.h v x → (match datum σ.h t v with | some (x, u) => some (x, 0, u) | none => none) = some (y, n, u) →
      ∃ D' O' Q, RelG B D' η O' (σ.after none .un u) a w ∧ (∀ b, D b → D' b) ∧ FrzO σ.h (u ++ σ.h) O O' ∧ OwnE w D' t n y x.cells.toList Q ∧ (∀ b, Q b → ∃ r, look (u ++ σ.h) r = none ∧ look σ.h r ≠ none ∧ O' r b) := by
    intro v y n u hv h
    split at h
    case h_2 => cases h
    rename_i y' u' hd
    cases h
    obtain ⟨D', O', G', h1, h2, h3⟩ := datum_ok G hv h0 hd
    exact ⟨D', O', fun _ => False, G', h1, h2, OwnE.zero.2 ⟨h3, fun _ h => h⟩, fun _ h => h.elim⟩
  unfold elemV at h
  split at h
  · rename_i q ver e
    split at h
    · rename_i t0 n0 v0 xs hq
      split at h
      case h_2 => cases h
      rename_i y' hc
      cases h
      obtain ⟨e, hy⟩ := cast_eq hc
      subst e
      obtain rfl : y = xs := hy
      obtain ⟨hd, h1, h2⟩ := G.row hq
      cases hv with
      | ref _ _ _ _ _ hlf hr hv' hx =>
        obtain ⟨h3, h4⟩ := hx t0 n0 v0 false y hd hq (.inl rfl) h1
        have e2 : hd = x := by cases hd <;> simpa [hdrAt] using h4
        subst e2
        refine ⟨D, O, O q, G.gone q (look_some_isSome hq), fun _ h => h, ⟨FrzH.gone _ _ (look_some_isSome hq), fun _ _ => rfl⟩, ?_, fun b hb => ⟨q, by simp [look, fnd_cons], by rw [hq]; simp, hb⟩⟩
        rw [hlf.cells]
        exact h2
    · exact shared hv h
  · exact shared hv h

theorem RelG.elems (h0 : Heap) {t : Ty} (ht : 0 < t.size) : ∀ (vs : List V) (cs : List Value) {D : Bs} {O : Nat → Bs} {σ : St} {ys : List t.den} {m : Nat} {u : Heap}, RelG B D η O σ a w → Cells w D η σ.h vs cs →
    elemVs σ.h t vs = some (ys, m, u) → ∃ D' O' ν Q, RelG B D' η O' (σ.after none .un u) a w ∧ (∀ b, D b → D' b) ∧ FrzO σ.h (u ++ σ.h) O O' ∧
      Pcs w D' O' σ.h (u ++ σ.h) t ν ys (fun i => (cs.getD i undef).cells.toList) Q ∧ (∀ i, i < List.length ys → m ≤ ν i) ∧ List.length ys = vs.length
  | [], cs, D, O, σ, ys, m, u, G, H, h => by
    simp only [elemVs] at h
    cases h
    exact ⟨D, O, fun _ => 0, fun _ _ => False, G.same0, fun _ h => h, FrzO.refl _ _, ⟨fun i hi => absurd hi (Nat.not_lt_zero i), fun i b hi => absurd hi (Nat.not_lt_zero i), fun i j b hi => absurd hi (Nat.not_lt_zero i)⟩, fun i hi => absurd hi (Nat.not_lt_zero i), rfl⟩
  | [v], cs, D, O, σ, ys, m, u, G, H, h => by
    simp only [elemVs] at h
    split at h
    case h_2 => cases h
    rename_i x n u' h1
    cases h
    obtain ⟨z, cs', rfl, hv, H'⟩ := H.cons
    obtain ⟨D', O', Q, G', g1, g2, g3, g4⟩ := elemV_ok G hv ht h1
    refine ⟨D', O', fun _ => m, fun _ => Q, G', g1, g2, ⟨fun i hi => ?_, fun i b hi hb => g4 b hb, fun i j b hi hj _ _ => ?_⟩, fun i hi => Nat.le_refl _, rfl⟩
    · obtain rfl : i = 0 := by have : i < 1 := hi; omega
      exact g3
    · have h1 : i < 1 := hi
      have h2 : j < 1 := hj
      omega
  | v :: v2 :: l, cs, D, O, σ, ys, m, u, G, H, h => by
    simp only [elemVs] at h
    split at h
    case h_2 => cases h
    rename_i x n u1 h1
    split at h
    case h_2 => cases h
    rename_i ys2 m2 u2 h2
    cases h
    obtain ⟨z, cs', rfl, hv, H'⟩ := H.cons
    obtain ⟨D1, O1, Q1, G1, g1, g2, g3, g4⟩ := elemV_ok G hv ht h1
    obtain ⟨D2, O2, ν, Q2, G2, k1, k2, k3, k4, k5⟩ := RelG.elems h0 ht (v2 :: l) cs' G1 (by rw [St.after_h]; exact H'.mono (g2.toFrzH.evo g1 w η)) (by rw [St.after_h]; exact h2)
    rw [after_after] at G2
    rw [St.after_h] at k2 k3
    have F : FrzO σ.h (u2 ++ u1 ++ σ.h) O O2 := by rw [List.append_assoc]; exact g2.trans k2
    have hQ1 : ∀ b, Q1 b → ∃ r, look (u1 ++ σ.h) r = none ∧ look (u2 ++ u1 ++ σ.h) r = none ∧ look σ.h r ≠ none ∧ O2 r b := by
      intro b hb
      obtain ⟨r, r1, r2, r3⟩ := g4 b hb
      exact ⟨r, r1, by rw [List.append_assoc]; exact k2.none r1, r2, by rw [k2.dead r r1]; exact r3⟩
    have hQ2 : ∀ i b, i < List.length ys2 → Q2 i b → ∃ r, look (u1 ++ σ.h) r ≠ none ∧ look (u2 ++ u1 ++ σ.h) r = none ∧ look σ.h r ≠ none ∧ O2 r b := by
      intro i b hi hb
      obtain ⟨r, r1, r2, r3⟩ := k3.gone i b hi hb
      refine ⟨r, r2, by rw [List.append_assoc]; exact r1, fun e => r2 (g2.none e), r3⟩
    refine ⟨D2, O2, fun i => match i with | 0 => n | i + 1 => ν i, fun i => match i with | 0 => Q1 | i + 1 => Q2 i, G2, fun b hb => k1 b (g1 b hb), F, ⟨fun i hi => ?_, fun i b hi hb => ?_, fun i j b hi hj h1 h2 => ?_⟩, fun i hi => ?_, ?_⟩
    · cases i with
      | zero => exact OwnE.mono k1 (Same.refl _ _) _ _ _ _ _ (fun _ _ => rfl) g3
      | succ i => exact k3.own i (Nat.lt_of_succ_lt_succ hi)
    · cases i with
      | zero => obtain ⟨r, _, r2, r3, r4⟩ := hQ1 b hb; exact ⟨r, r2, r3, r4⟩
      | succ i => obtain ⟨r, _, r2, r3, r4⟩ := hQ2 i b (Nat.lt_of_succ_lt_succ hi) hb; exact ⟨r, r2, r3, r4⟩
    · cases i with
      | zero =>
        cases j with
        | zero => rfl
        | succ j =>
          obtain ⟨r, r1, _, _, r4⟩ := hQ1 b h1
          obtain ⟨r', s1, _, _, s4⟩ := hQ2 j b (Nat.lt_of_succ_lt_succ hj) h2
          obtain rfl := G2.odis r r' b r4 s4
          exact absurd r1 s1
      | succ i =>
        cases j with
        | zero =>
          obtain ⟨r, r1, _, _, r4⟩ := hQ1 b h2
          obtain ⟨r', s1, _, _, s4⟩ := hQ2 i b (Nat.lt_of_succ_lt_succ hi) h1
          obtain rfl := G2.odis r r' b r4 s4
          exact absurd r1 s1
        | succ j => exact congrArg (· + 1) (k3.dis i j b (Nat.lt_of_succ_lt_succ hi) (Nat.lt_of_succ_lt_succ hj) h1 h2)
    · cases i with
      | zero => exact Nat.min_le_left _ _
      | succ i => exact Nat.le_trans (Nat.min_le_right _ _) (k4 i (Nat.lt_of_succ_lt_succ hi))
    · show (x :: ys2).length = _
      simp only [List.length_cons] at k5 ⊢
      have k5' : List.length ys2 = l.length + 1 := k5
      rw [k5']
end
end Go.Proofs.YtpoppblfnaipbaaDoor.Eng
/-! ## The engine: rows that are built. -/
namespace Go.Proofs.YtpoppblfnaipbaaDoor.Eng
open Go
set_option autoImplicit false
set_option linter.unusedVariables false
set_option linter.unusedSimpArgs false

section
variable {P : Program} {B : Base} {D : Bs} {η : Nat → Gh} {O : Nat → Bs} {σ : St} {a : Act} {w : World} {o : Oper} {next : Act → World → Prop} {Q : Exit → Act → World → Prop} {R : Type} {r : R} {K : V → Heap → Option R}

/-- A new block that holds what floats. -/
theorem Pcs.row {h0 h : Heap} {t : Ty} (ht : t.isEnt = false) {m : Nat} {xs : List t.den} {f : Nat → List Value} {Q : Nat → Bs} (H : Pcs w D O h0 h t (fun _ => m) xs f Q) (hO : ∀ r b, O r b → b < w.heap.size) {w' : World} (hD : Same D w w') (hOs : ∀ i b, i < List.length xs → Q i b → w'.heap[b]? = w.heap[b]?) {b : Nat} (hb : ∀ i, i < List.length xs → ¬ Q i b)
    {c : Array Value} {T : TypeId} {off cap : Nat} (hw : w'.heap[b]? = some (.cells c T (0, 0))) (hn : List.length xs ≤ cap) (hc : off + cap * t.size ≤ c.size) (hm : cap ≤ maxLen) (hcell : ∀ i j, i < List.length xs → j < t.size → c[off + i * t.size + j]? = (f i)[j]?) :
    OwnE w' D (.sl t) (m + 1) xs [.slice (some ⟨b, off, none⟩) (List.length xs) cap] (fun y => y = b ∨ ∃ i, i < List.length xs ∧ Q i y) :=
  OwnE.mk ht <| .inr ⟨b, off, cap, c, T, Q, rfl, hw, hn, hc, hm, fun i hi => ⟨f i, (H.own i hi).len.1, fun j hj => hcell i j hi hj, OwnE.mono (fun _ h => h) hD _ _ _ _ _ (fun y hy => hOs i y hi hy) (H.own i hi)⟩, fun _ => Iff.rfl, hb, H.dis⟩
theorem RelG.build (G : RelG B D η O σ a w) {t : Ty} (hte : t.isEnt = false) {κ : Nat} (hκ : fresh σ.h κ = true) {dst : Option Nat} (hd : ∀ d, dst = some d → d < B.N) {h0 : Heap} {ν : Nat → Nat} {m : Nat} {xs : List t.den} {f : Nat → List Value} {Q : Nat → Bs} (H : Pcs w D O h0 σ.h t ν xs f Q) (hm : ∀ i, i < List.length xs → m ≤ ν i)
    {c : Array Value} {T : TypeId} {cap : Nat} (hn : List.length xs ≤ cap) (hc : c.size = cap * t.size) (hmax : cap ≤ maxLen) (hcell : ∀ i j, i < List.length xs → j < t.size → c[i * t.size + j]? = (f i)[j]?) (w1 : World) (hw1 : w1.heap = w.heap ∧ w1.os = w.os ∧ w1.tape = w.tape ∧ w1.output = w.output) :
    Rel B (σ.after dst (.ref κ [] κ t) [(κ, some (.row t m κ false xs))]) (a.put dst (.slice (some ⟨w.heap.size, 0, none⟩) (List.length xs) cap)) (w1.alloc (.cells c T)) := by
  obtain ⟨D', O2, Q', G2, h1, _, hlive, hsub, H2, h2, _⟩ := H.lower G m hm
  have old : ∀ b, b < w.heap.size → (w1.alloc (.cells c T)).heap[b]? = w.heap[b]? := fun b hb => by rw [heap_alloc_lt w1 _ (by rw [hw1.1]; exact hb), hw1.1]
  have hasz : (w1.alloc (.cells c T)).heap.size = w.heap.size + 1 := by rw [← hw1.1]; simp
  have hrow := H2.row hte (w' := w1.alloc (.cells c T)) (fun r b hb => (G2.olt r b hb).1) (fun b hb => old b (G2.dlt b hb)) (fun i b hi hb => by
    obtain ⟨r, _, _, hr⟩ := H2.gone i b hi hb
    exact old b (G2.olt r b hr).1) (b := w.heap.size) (fun i hi hb => by
    obtain ⟨r, _, _, hr⟩ := H2.gone i _ hi hb
    exact Nat.lt_irrefl _ (G2.olt r _ hr).1) (c := c) (T := T) (off := 0) (cap := cap) (by rw [← hw1.1]; exact heap_alloc_new w1 _) hn (by rw [Nat.zero_add]; exact Nat.le_of_eq hc.symm) hmax (fun i j hi hj => by rw [Nat.zero_add]; exact hcell i j hi hj)
  refine G2.newRow hκ hd (fun r => look σ.h r = none) (fun r h => h) _ hrow ?_ hw1.2.1 hw1.2.2.1 hw1.2.2.2 (by rw [hasz]; omega) (fun b hb _ => old b hb)
  rintro b (rfl | ⟨i, hi, hb⟩)
  · left; exact ⟨Nat.le_refl _, by rw [hasz]; omega⟩
  · right
    obtain ⟨r, hr1, _, hr2⟩ := H2.gone i b hi hb
    exact ⟨r, hr1, hr2⟩
theorem Ty.size_pos_of {A : Ann} {T : Nat} {t : Ty} : True := trivial

/-- The parts of a literal, one behind the other. -/
theorem partsDense_ok : ∀ (l : List (Nat × Operand)) (i : Nat) (vs : List V), partsDense i (l.map fun p => (p.1, σ.eval p.2)) = some vs → vs = l.map (fun p => σ.eval p.2) ∧ (l.map fun p => (p.1, a.eval p.2)) = ((l.map fun p => a.eval p.2).zipIdx i).map fun x => (x.2, x.1)
  | [], _, _, h => by simp [partsDense] at h; subst h; exact ⟨rfl, rfl⟩
  | p :: l, i, vs, h => by
    simp only [List.map_cons, partsDense] at h
    split at h
    case h_2 => cases h
    rename_i hi
    split at h
    case h_2 => cases h
    rename_i vs' h2
    cases h
    obtain ⟨h3, h4⟩ := partsDense_ok l (i + 1) vs' h2
    have hi := Nat.eq_of_beq_eq_true hi
    refine ⟨by rw [h3]; rfl, ?_⟩
    simp only [List.map_cons, List.zipIdx_cons, h4, hi]
theorem cells_map (G : RelG B D η O σ a w) : ∀ (l : List Operand), Cells w D η σ.h (l.map σ.eval) (l.map a.eval) := fun l => ⟨by simp, fun i hi => by
  have hi' : i < l.length := by simpa using hi
  simp only [List.getElem_map, List.getD_eq_getElem?_getD, List.getElem?_map, List.getElem?_eq_getElem hi', Option.map_some, Option.getD_some]
  exact G.eval _⟩
theorem op_buildSlice {A : Ann} (W : WF P A) (G : RelG B D η O σ a w) (hn : Post B σ a o.dst next K r) (hd : ∀ d, o.dst = some d → d < B.N) (T n κ : Nat) (parts : Array (Nat × Operand)) (ho : o.op = .buildSlice T n parts) {t : Ty} (ht : fnd A.ty T = some (.sl t)) (hte : t.isEnt = false) (h0 : 0 < t.size) {vs : List V} (hp : partsDense 0 (parts.toList.map fun p => (p.1, σ.eval p.2)) = some vs)
    (hκ : fresh σ.h κ = true) (hnv : n = vs.length) (hle : n * t.size ≤ 16777216) {xs : List t.den} {m : Nat} {u : Heap} (he : elemVs σ.h t vs = some (xs, m, u)) (h : K (.ref κ [] κ t) ((κ, some (.row t m κ false xs)) :: u) = some r) : o.wp P a w next Q := by
  obtain ⟨e, hu, hel⟩ := W.sl ht hte
  obtain ⟨i, d, F⟩ := W.facts hel
  obtain ⟨z, hz, hze, _⟩ := F.zero
  obtain ⟨hvs, hparts⟩ := partsDense_ok (σ := σ) (a := a) parts.toList 0 vs hp
  have hcs : Cells w D η σ.h vs (parts.toList.map fun p => a.eval p.2) := by
    have := cells_map G (parts.toList.map fun p => p.2)
    simp only [List.map_map] at this
    rw [hvs]
    exact this
  obtain ⟨D', O', ν, Q', G', g1, g2, H, g3, g4⟩ := RelG.elems σ.h h0 vs _ G hcs he
  generalize hws : (parts.toList.map fun p => a.eval p.2) = ws at *
  have hwl : ws.length = n := by rw [hnv, hvs, ← hws]; simp
  have hwn : List.length xs = n := by rw [g4, hnv]
  have hget : ∀ j (hj : j < ws.length), ws.getD j undef = ws[j] := fun j hj => by simp [List.getD, List.getElem?_eq_getElem hj]
  have hwc : ∀ v ∈ ws, v.cells.size = t.size := by
    intro v hv
    obtain ⟨j, hj, rfl⟩ := List.getElem_of_mem hv
    have := (H.own j (by omega)).len.1
    rw [hget j hj] at this
    simpa using this
  have hcap : n ≤ maxLen := by
    have : n * 1 ≤ n * t.size := Nat.mul_le_mul_left _ h0
    simp only [maxLen]; omega
  have hex : ∃ rc : Array Value, (Instr.buildSlice T n (parts.map fun (i, x) => (i, a.eval x))).run P w = .ok (.slice (some ⟨w.heap.size, 0, none⟩) n n) (w.alloc (.cells rc e)) ∧ rc.size = n * t.size ∧ ∀ i j (hi : i < ws.length), j < t.size → rc[i * t.size + j]? = ws[i].cells[j]? := by
    have e3 : (parts.map fun (i, x) => (i, a.eval x)).toList = (ws.zipIdx 0).map fun x => (x.2, x.1) := by
      rw [Array.toList_map]; exact hparts
    by_cases hn0 : n = 0
    · subst hn0
      have hw0 : ws = [] := List.eq_nil_of_length_eq_zero hwl
      refine ⟨#[], ?_, by simp, fun i j hi => by rw [hw0] at hi; exact absurd hi (Nat.not_lt_zero _)⟩
      rw [hw0] at e3
      have e4 : (parts.map fun (i, x) => (i, a.eval x)) = #[] := Array.toList_inj.1 (by rw [e3]; rfl)
      simp [Instr.buildSlice, run_underlying hu, sizeOf, typeInfo, F.info, newRow, e4, Instr.fill, Array.range_zero']
    · obtain ⟨rc, hf, hrs, hrk⟩ := Great.fill_dense h0 ws 0 ((Array.range (n * t.size)).map (z.cells[· % z.cells.size]!)) hwc (by rw [hwl]; simp)
      have hnn : ¬ n * t.size = 0 := by
        have := Nat.mul_pos (Nat.pos_of_ne_zero hn0) h0
        omega
      refine ⟨rc, run_buildSlice (P := P) w T e n _ rc i z hu F.info hz (by rw [F.size]; omega) (by rw [F.size]; exact hnn) (by rw [F.size, e3]; exact hf), by rw [hrs]; simp, fun i j hi hj => ?_⟩
      rw [hrk]
      have h6 : (i * t.size + j) / t.size = i := by rw [Nat.mul_comm, Nat.mul_add_div h0, Nat.div_eq_of_lt hj, Nat.add_zero]
      have h7 : (i * t.size + j) % t.size = j := by rw [Nat.mul_comm, Nat.mul_add_mod, Nat.mod_eq_of_lt hj]
      have h8 : i * t.size + j < (0 + ws.length) * t.size := by
        have h9 : (i + 1) * t.size ≤ ws.length * t.size := Nat.mul_le_mul_right _ hi
        rw [Nat.add_mul, Nat.one_mul] at h9
        rw [Nat.zero_add]
        omega
      rw [if_pos ⟨by simp, h8⟩, h6, h7, Nat.sub_zero, List.getElem?_eq_getElem hi]
      rfl
  obtain ⟨rc, h5, hrs, hrk⟩ := hex
  have hrun : (execOp a.eval o).run P w = .ok (.value (.slice (some ⟨w.heap.size, 0, none⟩) n n)) (w.alloc (.cells rc e)) := by
    simp only [execOp, ho, Sem.run_bind, h5, Result.andThen_ok, Sem.run_pure]
  have hR := G'.build hte (κ := κ) (dst := o.dst) (by
    rw [St.after_h]
    unfold fresh
    rw [g2.new κ (fresh_none hκ)]) hd (by rw [St.after_h]; exact H) (m := m) g3 (c := rc) (T := e) (cap := n) (by omega) (by rw [hrs]) hcap (fun i j hi hj => by
      have hi' : i < ws.length := by omega
      rw [hrk i j hi' hj, hget i hi']
      simp) w ⟨rfl, rfl, rfl, rfl⟩
  rw [after_after, hwn] at hR
  exact wp_value hn h hR hrun
end
end Go.Proofs.YtpoppblfnaipbaaDoor.Eng
/-! ## The engine: rows that are made; bytes and strings. -/
namespace Go.Proofs.YtpoppblfnaipbaaDoor.Eng
open Go
set_option autoImplicit false
set_option linter.unusedVariables false
set_option linter.unusedSimpArgs false

section
variable {P : Program} {B : Base} {D : Bs} {η : Nat → Gh} {O : Nat → Bs} {σ : St} {a : Act} {w : World} {o : Oper} {next : Act → World → Prop} {Q : Exit → Act → World → Prop} {R : Type} {r : R} {K : V → Heap → Option R}

theorem zero_Rz {w : World} {D : Bs} : ∀ (t : Ty), t.noEnt = true → Rz w D t t.dflt (zeroCells t)
  | .int _, _ => rfl
  | .bool, _ => rfl
  | .str, _ => ⟨⟨#[]⟩, rfl, rfl⟩
  | .unit, _ => rfl
  | .pair a b, h => by
    simp only [Ty.noEnt, Bool.and_eq_true] at h
    exact ⟨_, _, rfl, zero_Rz a h.1, zero_Rz b h.2⟩
  | .sl t, h => by
    have h : t.isEnt = false := by simpa [Ty.noEnt] using h
    have e : zeroCells (.sl t) = [.slice none 0 0] := by unfold zeroCells; rw [h]
    rw [e, Rz.sl h]
    exact ⟨none, 0, rfl, Nat.le_refl _, fun h => absurd h (Nat.lt_irrefl _)⟩
  | .ent _ _, h => by cases h
  | .tree, _ => RzT.mk ⟨#[]⟩ 0 [] none 0 (fun _ => []) (Nat.le_refl _) (fun h => absurd h (Nat.lt_irrefl _)) (fun i h => absurd h (Nat.not_lt_zero _))
theorem zero_own {w : World} {D : Bs} (t : Ty) (ht : t.noEnt = true) (n : Nat) : OwnE w D t n t.dflt (zeroCells t) (fun _ => False) := by
  cases n with
  | zero => exact OwnE.zero.2 ⟨zero_Rz t ht, fun _ h => h⟩
  | succ n =>
    cases t with
    | sl t =>
      have h : t.isEnt = false := by simpa [Ty.noEnt] using ht
      have e : zeroCells (.sl t) = [.slice none 0 0] := by unfold zeroCells; rw [h]
      rw [e]
      exact OwnE.mk h (.inl ⟨rfl, rfl, fun _ h => h⟩)
    | _ => exact (OwnE.other (fun _ => by simp)).2 ⟨zero_Rz _ ht, fun _ h => h⟩
theorem made_get {z : Array Value} {n s i j : Nat} (hz : z.size = s) (hi : i < n) (hj : j < s) : (madeCells z (n * s))[i * s + j]? = z[j]? := by
  have h0 : 0 < s := by omega
  have h7 : (i * s + j) % s = j := by rw [Nat.mul_comm, Nat.mul_add_mod, Nat.mod_eq_of_lt hj]
  have h8 : i * s + j < n * s := by
    have h9 : (i + 1) * s ≤ n * s := Nat.mul_le_mul_right _ hi
    rw [Nat.add_mul, Nat.one_mul] at h9
    omega
  simp only [madeCells, hz]
  rw [Array.getElem?_map]
  have e : (Array.range (n * s))[i * s + j]? = some (i * s + j) := by
    rw [Array.getElem?_eq_getElem (by simpa using h8)]; simp
  rw [e]
  simp only [Option.map_some, h7]
  rw [Array.getElem?_eq_getElem (by omega)]
  simp [hz, hj]
theorem op_makeSlice {A : Ann} (W : WF P A) (G : RelG B D η O σ a w) (hn : Post B σ a o.dst next K r) (hd : ∀ d, o.dst = some d → d < B.N) (T κ : Nat) (l c : Operand) (ho : o.op = .makeSlice T l c) {t : Ty} (ht : fnd A.ty T = some (.sl t)) (hte : t.isEnt = false) (hne : t.noEnt = true)
    (hκ : fresh σ.h κ = true) {k k' : IntKind} {n : Int} (hl : σ.eval l = .d (.int k) n) (hc : σ.eval c = .d (.int k') n) (h0 : 0 ≤ n) (h1 : n < (maxLenE : Int)) (h : K (.ref κ [] κ t) [(κ, some (.row t 99 κ false (List.replicate n.toNat t.dflt)))] = some r) : o.wp P a w next Q := by
  obtain ⟨e, hu, hel⟩ := W.sl ht hte
  obtain ⟨i, d, F⟩ := W.facts hel
  obtain ⟨z, hz, hze, _⟩ := F.zero
  have hze := vEqs_eq hze
  have hzs : z.cells.size = t.size := by rw [← Array.length_toList, hze, zeroCells_length]
  have e1 := G.eval l
  rw [hl] at e1
  have e1 := vr_int e1
  have e2 := G.eval c
  rw [hc] at e2
  have e2 := vr_int e2
  have h1' : n < 1099511627776 := h1
  have hb : (i.bytes : Int) * n ≤ 281474976710656 := by
    have hb1 : (i.bytes : Int) ≤ 128 := by have := F.bytes; omega
    have : (i.bytes : Int) * n ≤ 128 * n := Int.mul_le_mul_of_nonneg_right hb1 h0
    omega
  have hrun0 := run_make (P := P) w T e i z hu F.info hz k k' n n h0 (Int.le_refl _) hb (by omega)
  have hlen : List.length (List.replicate n.toNat t.dflt) = n.toNat := List.length_replicate
  have hR := G.build hte (κ := κ) (dst := o.dst) hκ hd (h0 := σ.h) (t := t) (ν := fun _ => 99) (m := 99) (xs := List.replicate n.toNat t.dflt) (f := fun _ => zeroCells t) (Q := fun _ _ => False)
    ⟨fun i hi => by
      have : rd (t := t) (List.replicate n.toNat t.dflt) i = t.dflt := by
        simp only [rd, List.getD, List.getElem?_replicate]; split <;> rfl
      rw [this]; exact zero_own t hne 99, fun i b hi hb => hb.elim, fun i j b hi hj hb => hb.elim⟩ (fun i hi => Nat.le_refl _)
    (c := madeCells z.cells (n.toNat * t.size)) (T := e) (cap := n.toNat) (by rw [hlen]; exact Nat.le_refl _) (size_madeCells _ _) (by simp only [maxLen]; omega) (fun i j hi hj => by
      rw [hlen] at hi
      rw [made_get hzs hi hj, ← hze]; simp) w ⟨rfl, rfl, rfl, rfl⟩
  rw [hlen] at hR
  refine wp_value hn h hR ?_
  rw [F.size] at hrun0
  simp only [execOp, ho, e1, e2, Sem.run_bind, hrun0, Result.andThen_ok, Sem.run_pure]

/-- A new block, shared at once. -/
theorem RelG.newShared (G : RelG B D η O σ a w) {dst : Option Nat} (hd : ∀ d, dst = some d → d < B.N) (w1 : World) (hw1 : w1.heap = w.heap ∧ w1.os = w.os ∧ w1.tape = w.tape ∧ w1.output = w.output) (ob : Go.Obj) {v : V} {x : Value}
    (hv : Vr (w1.alloc ob) (fun b => D b ∨ b = w.heap.size) η σ.h v x) : Rel B (σ.after dst v []) (a.put dst x) (w1.alloc ob) := by
  have old : ∀ b, b < w.heap.size → (w1.alloc ob).heap[b]? = w.heap[b]? := fun b hb => by rw [heap_alloc_lt w1 _ (by rw [hw1.1]; exact hb), hw1.1]
  have hasz : (w1.alloc ob).heap.size = w.heap.size + 1 := by rw [← hw1.1]; simp
  have E : Evo w D η σ.h (w1.alloc ob) (fun b => D b ∨ b = w.heap.size) η ([] ++ σ.h) := G.evo (fun _ h => .inl h) (fun b hb => old b (G.dlt b hb)) (fun _ _ => rfl) (fun r hr => .same rfl (fun b hb => old b (G.olt r b hb).1))
  refine ⟨_, η, O, G.go (u := []) hd E hw1.2.1 hw1.2.2.1 hw1.2.2.2 (by rw [hasz]; omega) (fun b hb => old b (Nat.lt_of_lt_of_le (G.klt b hb) G.size)) G.okeep ?_ ?_ ?_ G.odis ?_ hv⟩
  · rintro b (h | rfl)
    · have := G.dlt b h; omega
    · omega
  · rintro b (h | rfl)
    · exact .inl h
    · right; intro hk; have := G.klt _ hk; have := G.size; omega
  · intro r b h
    refine ⟨by have := (G.olt r b h).1; omega, ?_⟩
    rintro (h' | rfl)
    · exact (G.olt r b h).2 h'
    · exact Nat.lt_irrefl _ (G.olt r _ h).1
  · intro r ob' hr
    exact (G.objs r ob' hr).mono E (look_some_isSome hr) (fun b hb => old b (G.olt r b hb).1)
theorem op_conv_bytes {A : Ann} (W : WF P A) (G : RelG B D η O σ a w) (hn : Post B σ a o.dst next K r) (hd : ∀ d, o.dst = some d → d < B.N) (T U e : Nat) (x : Operand) (ho : o.op = .convert T U x) (hT : P.underlying T = some .string) (hU : P.underlying U = some (.slice e)) (he : P.underlying e = some (.int .u8))
    {s : List UInt8} (hb : σ.eval x = .d .str s) (h : K (.d (.sl (.int .u8)) (toBytes s)) [] = some r) : o.wp P a w next Q := by
  have hv := G.eval x
  rw [hb] at hv
  obtain ⟨z, h1, h2⟩ := vr_str hv
  have hrun := run_bytes_of_string (P := P) w T U e z hT hU he
  have hsz : z.size = s.length := by rw [← h1]; rfl
  have hR := G.newShared (dst := o.dst) hd w.drew ⟨rfl, rfl, rfl, rfl⟩ (.cells (bytesRow z (grownCap w z.size 0 e)) e ((bytesRow z (grownCap w z.size 0 e)).size, (bytesRow z (grownCap w z.size 0 e)).size + 1)) (v := .d (.sl (.int .u8)) (toBytes s)) (x := .slice (some ⟨w.heap.size, 0, none⟩) z.size (grownCap w z.size 0 e)) (.d _ _ _ rfl (by
      have hl : List.length (toBytes s) = z.size := by simp [toBytes, hsz]
      refine (Rz.sl rfl).2 ⟨some ⟨w.heap.size, 0, none⟩, grownCap w z.size 0 e, by rw [hl], by rw [hl]; exact grownCap_ge w _ _ _, fun h0 => ⟨w.heap.size, 0, rfl, .inr rfl, fun i hi => ?_⟩⟩
      rw [hl] at hi
      refine ⟨[.int .u8 (rd (t := .int .u8) (toBytes s) i)], rfl, rfl, fun j hj => ?_⟩
      obtain rfl : j = 0 := by simpa [Ty.size] using hj
      have hi2 : i < s.length := by omega
      have e1 : rd (t := .int .u8) (toBytes s) i = (s[i].toNat : Int) := by simp [rd, toBytes, List.getD, hi2]
      rw [e1]
      have e2 : z.data.toList[i]? = some s[i] := by rw [h1]; exact List.getElem?_eq_getElem hi2
      have e3 : (bytesRow z (grownCap w z.size 0 e))[i]? = some (.int .u8 (s[i].toNat : Int)) := by
        unfold bytesRow
        have hi3 : i < z.data.size := hi
        rw [Array.getElem?_append_left (by simpa using hi3), Array.getElem?_map]
        have : z.data[i]? = some s[i] := by simpa using e2
        rw [this]; rfl
      have hnew : (w.drew.alloc (.cells (bytesRow z (grownCap w z.size 0 e)) e ((bytesRow z (grownCap w z.size 0 e)).size, (bytesRow z (grownCap w z.size 0 e)).size + 1))).heap[w.heap.size]? = some (.cells (bytesRow z (grownCap w z.size 0 e)) e ((bytesRow z (grownCap w z.size 0 e)).size, (bytesRow z (grownCap w z.size 0 e)).size + 1)) := heap_alloc_new w.drew _
      simp only [World.cell?, hnew, Ty.size, Nat.mul_one, Nat.zero_add, Nat.add_zero, e3]
      simp))
  refine wp_value hn h hR ?_
  simp only [execOp, ho, h2, Sem.run_bind, hrun, Result.andThen_ok, Sem.run_pure]
theorem foldl_push : ∀ (ns : List Int) (s : ByteArray), (ns.foldl (fun r n => r.push (UInt8.ofNat n.toNat)) s).data.toList = s.data.toList ++ ofBytes ns
  | [], s => by simp [ofBytes]
  | n :: ns, s => by
    simp only [List.foldl_cons]
    rw [foldl_push ns]
    simp [ofBytes, ByteArray.push]
theorem op_conv_bstr {A : Ann} (W : WF P A) (G : RelG B D η O σ a w) (hn : Post B σ a o.dst next K r) (hd : ∀ d, o.dst = some d → d < B.N) (T U e : Nat) (x : Operand) (ho : o.op = .convert T U x) (hT : P.underlying T = some (.slice e)) (hU : P.underlying U = some .string) (he : P.underlying e = some (.int .u8))
    {xs : List Int} (hb : rowOf σ.h (σ.eval x) = some ⟨.sl (.int .u8), xs⟩) (h : K (.d .str (ofBytes xs)) [] = some r) : o.wp P a w next Q := by
  obtain ⟨s, ys, m, O', e1, h1⟩ := rowOf_ok G (G.eval x) hb
  cases e1
  obtain ⟨ad, cap, e2, hcap, hrow⟩ := row_head rfl h1
  have key : ∃ z : ByteArray, (convert T U (a.eval x)).run P w = .ok (.string z) w ∧ z.data.toList = ofBytes xs := by
    rw [e2, run_convert_bytes_string w T U e ad _ cap hT he hU]
    cases ad with
    | none =>
      have : xs = [] := by
        cases xs with
        | nil => rfl
        | cons y ys => obtain ⟨b, off, hh, _⟩ := hrow (Nat.succ_pos _); cases hh
      subst this
      exact ⟨.empty, rfl, rfl⟩
    | some ad =>
      refine ⟨_, run_bytesToString (P := P) w ad _ cap xs ?_, by rw [foldl_push]; simp⟩
      have hl := run_loadCells_list (P := P) w ad (xs.map (Value.int .u8)) (fun j v hj => by
        have hj' : j < xs.length := by
          have := (List.getElem?_eq_some_iff.1 hj).1
          simpa using this
        obtain ⟨b, off, hh, _, hall⟩ := hrow (Nat.lt_of_le_of_lt (Nat.zero_le _) hj')
        cases hh
        obtain ⟨us, Oi, h2, h3, _, h4⟩ := hall j hj'
        have h5 := ((OwnE.other (fun _ => by simp)).1 h3).1
        have h5 : us = [.int .u8 (rd (t := .int .u8) xs j)] := h5
        have h6 := h4 0 (by simp [Ty.size])
        rw [h5] at h6
        simp only [Ty.size, Nat.mul_one, Nat.add_zero, List.getElem?_cons_zero] at h6
        rw [add_none, h6]
        have e3 : rd (t := .int .u8) xs j = xs[j] := by simp [rd, List.getD, hj']
        rw [e3]
        simpa [List.getElem?_eq_getElem hj'] using hj)
      simpa using hl
  obtain ⟨z, hrun, hz⟩ := key
  refine wp_pure hn G hd h (.d .str _ _ rfl ⟨z, hz, rfl⟩) ?_
  simp only [execOp, ho, Sem.run_bind, hrun, Result.andThen_ok, Sem.run_pure]
end
end Go.Proofs.YtpoppblfnaipbaaDoor.Eng
/-! ## The engine: append. -/
namespace Go.Proofs.YtpoppblfnaipbaaDoor.Eng
open Go
set_option autoImplicit false
set_option linter.unusedVariables false
set_option linter.unusedSimpArgs false

section
variable {P : Program} {B : Base} {D : Bs} {η : Nat → Gh} {O : Nat → Bs} {σ : St} {a : Act} {w : World} {o : Oper} {next : Act → World → Prop} {Q : Exit → Act → World → Prop} {R : Type} {r : R} {K : V → Heap → Option R}

/-- The cells of the first n elements. -/
def flatF (f : Nat → List Value) : Nat → List Value | 0 => [] | n + 1 => flatF f n ++ f n
theorem flatF_len {f : Nat → List Value} {s : Nat} : ∀ {n : Nat}, (∀ i, i < n → (f i).length = s) → (flatF f n).length = n * s
  | 0, _ => by simp [flatF]
  | n + 1, h => by rw [flatF, List.length_append, flatF_len (fun i hi => h i (by omega)), h n (by omega), Nat.add_mul, Nat.one_mul]
theorem flatF_get {f : Nat → List Value} {s : Nat} : ∀ {n : Nat}, (∀ i, i < n → (f i).length = s) → ∀ {i j : Nat}, i < n → j < s → (flatF f n)[i * s + j]? = (f i)[j]?
  | 0, _, i, j, hi, _ => absurd hi (Nat.not_lt_zero _)
  | n + 1, h, i, j, hi, hj => by
    have hl := flatF_len (f := f) (s := s) (n := n) (fun i hi => h i (by omega))
    rw [flatF]
    by_cases e : i < n
    · have h9 : (i + 1) * s ≤ n * s := Nat.mul_le_mul_right _ e
      rw [Nat.add_mul, Nat.one_mul] at h9
      rw [List.getElem?_append_left (by omega)]
      exact flatF_get (fun i hi => h i (by omega)) e hj
    · obtain rfl : i = n := by omega
      rw [List.getElem?_append_right (by omega), hl]
      congr 1; omega
theorem flatF_of {f : Nat → List Value} {s n : Nat} (h : ∀ i, i < n → (f i).length = s) {w : World} {b off : Nat} (hc : ∀ i j, i < n → j < s → w.cell? ⟨b, off + i * s + j, none⟩ = (f i)[j]?) {k : Nat} {v : Value} (hk : (flatF f n)[k]? = some v) : w.cell? ⟨b, off + k, none⟩ = some v := by
  have hlt : k < n * s := by rw [← flatF_len h]; exact (List.getElem?_eq_some_iff.1 hk).1
  have hs : 0 < s := by rcases Nat.eq_zero_or_pos s with e | e
                        · subst e; simp at hlt
                        · exact e
  have hi : k / s < n := Nat.div_lt_of_lt_mul (by rw [Nat.mul_comm]; exact hlt)
  have hj : k % s < s := Nat.mod_lt _ hs
  have e : k / s * s + k % s = k := by rw [Nat.mul_comm]; exact Nat.div_add_mod k s
  have h1 := flatF_get h hi hj
  rw [e, hk] at h1
  have h2 := hc _ _ hi hj
  rw [Nat.add_assoc, e, ← h1] at h2
  exact h2

/-- A row's elements, told one by one. -/
structure Elems (w : World) (D : Bs) (t : Ty) (n : Nat) (xs : List t.den) (x : Value) (f : Nat → List Value) (Q : Nat → Bs) : Prop where
  head : ∃ ad cap, x = .slice ad (List.length xs) cap ∧ (0 < List.length xs → ∃ b off, ad = some ⟨b, off, none⟩ ∧ ∀ i j, i < List.length xs → j < t.size → w.cell? ⟨b, off + i * t.size + j, none⟩ = (f i)[j]?)
  own : ∀ i, i < List.length xs → OwnE w D t n (rd xs i) (f i) (Q i)
  dis : ∀ i j b, i < List.length xs → j < List.length xs → Q i b → Q j b → i = j
theorem elems_own {t : Ty} {n : Nat} {xs : List t.den} {x : Value} {Ox : Bs} (h : OwnRow w t.size (List.length xs) (fun i us Oi => OwnE w D t n (rd xs i) us Oi) x Ox) :
    ∃ f Q, Elems w D t n xs x f Q ∧ (∀ i b, i < List.length xs → Q i b → Ox b) ∧
      ((List.length xs = 0 ∧ x = .slice none 0 0 ∧ ∀ b, ¬ Ox b) ∨ ∃ b off cap c T, x = .slice (some ⟨b, off, none⟩) (List.length xs) cap ∧ w.heap[b]? = some (.cells c T (0, 0)) ∧ List.length xs ≤ cap ∧ off + cap * t.size ≤ c.size ∧ cap ≤ maxLen ∧ Ox b ∧ (∀ i, i < List.length xs → ¬ Q i b) ∧ ∀ i j, i < List.length xs → j < t.size → c[off + i * t.size + j]? = (f i)[j]?) := by
  rcases h with ⟨h0, rfl, hO⟩ | ⟨b, off, cap, c, T, OO, rfl, hb, hn, hc, hm, hall, hOO, hnb, hdis⟩
  · refine ⟨fun _ => [], fun _ _ => False, ⟨⟨none, 0, by rw [h0], fun h => by omega⟩, fun i hi => by omega, fun i j b hi => by omega⟩, fun i b hi => by omega, .inl ⟨h0, rfl, hO⟩⟩
  · have key : ∀ i, ∃ us : List Value, i < List.length xs → us.length = t.size ∧ (∀ j, j < t.size → c[off + i * t.size + j]? = us[j]?) ∧ OwnE w D t n (rd xs i) us (OO i) := by
      intro i
      by_cases hi : i < List.length xs
      · obtain ⟨us, h1⟩ := hall i hi; exact ⟨us, fun _ => h1⟩
      · exact ⟨[], fun h => absurd h hi⟩
    obtain ⟨f, hf⟩ : ∃ f : Nat → List Value, ∀ i, i < List.length xs → (f i).length = t.size ∧ (∀ j, j < t.size → c[off + i * t.size + j]? = (f i)[j]?) ∧ OwnE w D t n (rd xs i) (f i) (OO i) :=
      ⟨fun i => Classical.choose (key i), fun i => Classical.choose_spec (key i)⟩
    refine ⟨f, OO, ⟨⟨_, cap, rfl, fun h => ⟨b, off, rfl, fun i j hi hj => ?_⟩⟩, fun i hi => (hf i hi).2.2, hdis⟩, fun i y hi hy => (hOO y).2 (.inr ⟨i, hi, hy⟩), .inr ⟨b, off, cap, c, T, rfl, hb, hn, hc, hm, (hOO b).2 (.inl rfl), hnb, fun i j hi hj => (hf i hi).2.1 j hj⟩⟩
    rw [← (hf i hi).2.1 j hj]; simp [World.cell?, hb]
theorem elems_Rz {t : Ty} (ht : t.isEnt = false) {xs : List t.den} {x : Value} (h : Rz w D (.sl t) xs [x]) : ∃ f, Elems w D t 0 xs x f (fun _ _ => False) := by
  obtain ⟨ad, cap, e, hc, hrow⟩ := (Rz.sl ht).1 h
  obtain rfl : x = _ := by simpa using e
  by_cases h0 : 0 < List.length xs
  · obtain ⟨b, off, rfl, hb, hall⟩ := hrow h0
    have key : ∀ i, ∃ us : List Value, i < List.length xs → us.length = t.size ∧ Rz w D t (rd xs i) us ∧ ∀ j, j < t.size → w.cell? ⟨b, off + i * t.size + j, none⟩ = us[j]? := by
      intro i
      by_cases hi : i < List.length xs
      · obtain ⟨us, h1⟩ := hall i hi; exact ⟨us, fun _ => h1⟩
      · exact ⟨[], fun h => absurd h hi⟩
    obtain ⟨f, hf⟩ : ∃ f : Nat → List Value, ∀ i, i < List.length xs → (f i).length = t.size ∧ Rz w D t (rd xs i) (f i) ∧ ∀ j, j < t.size → w.cell? ⟨b, off + i * t.size + j, none⟩ = (f i)[j]? :=
      ⟨fun i => Classical.choose (key i), fun i => Classical.choose_spec (key i)⟩
    exact ⟨f, ⟨⟨_, cap, rfl, fun _ => ⟨b, off, rfl, fun i j hi hj => (hf i hi).2.2 j hj⟩⟩, fun i hi => OwnE.zero.2 ⟨(hf i hi).2.1, fun _ h => h⟩, fun i j b hi hj h => h.elim⟩⟩
  · exact ⟨fun _ => [], ⟨⟨ad, cap, rfl, fun h => absurd h h0⟩, fun i hi => absurd (Nat.lt_of_le_of_lt (Nat.zero_le _) hi) h0, fun i j b hi hj h => h.elim⟩⟩

/-- The row that is built upon. -/
theorem baseV_ok (G : RelG B D η O σ a w) {t : Ty} {v : V} {x : Value} (hv : Vr w D η σ.h v x) {xs : List t.den} {n : Nat} {u : Heap} (h : baseV σ.h t v = some (xs, n, u)) :
    ∃ Ox, RelG B D η O (σ.after none .un u) a w ∧ FrzO σ.h (u ++ σ.h) O O ∧ OwnE w D (.sl t) (n + 1) xs [x] Ox ∧ (∀ b, Ox b → ∃ r, look (u ++ σ.h) r = none ∧ look σ.h r ≠ none ∧ O r b) := by
  unfold baseV at h
  split at h
  · split at h
    · cases h
    rename_i he
    cases h
    obtain rfl := vr_k hv
    exact ⟨fun _ => False, G.same0, FrzO.refl _ _, OwnE.mk he (.inl ⟨rfl, rfl, fun _ h => h⟩), fun b h => h.elim⟩
  · rename_i q ver e
    split at h
    case h_2 => cases h
    rename_i t0 n0 v0 ys hq
    split at h
    case h_2 => cases h
    rename_i y' hc
    cases h
    obtain ⟨e, hy⟩ := cast_eq hc
    cases e
    obtain rfl : xs = ys := hy
    obtain ⟨hd, h1, h2⟩ := G.row hq
    cases hv with
    | ref _ _ _ _ _ hlf hr hv' hx =>
      obtain ⟨h3, h4⟩ := hx t n v0 false xs hd hq (.inl rfl) h1
      have e2 : hd = x := by cases hd <;> simpa [hdrAt] using h4
      subst e2
      have h5 := h2
      exact ⟨O q, G.gone q (look_some_isSome hq), ⟨FrzH.gone _ _ (look_some_isSome hq), fun _ _ => rfl⟩, h5, fun b hb => ⟨q, by simp [look, fnd_cons], by rw [hq]; simp, hb⟩⟩
  · cases h
theorem Elems.mono {D' : Bs} {t : Ty} {n : Nat} {xs : List t.den} {x : Value} {f : Nat → List Value} {Q : Nat → Bs} (H : Elems w D t n xs x f Q) (hD : ∀ b, D b → D' b) : Elems w D' t n xs x f Q :=
  ⟨H.head, fun i hi => OwnE.mono hD (Same.refl _ _) _ _ _ _ _ (fun _ _ => rfl) (H.own i hi), H.dis⟩
/-- What an append adds. -/
theorem addsV_ok (G : RelG B D η O σ a w) {t : Ty} (hte : t.isEnt = false) {v : V} {x : Value} (hv : Vr w D η σ.h v x) {ys : List t.den} {m : Nat} {u : Heap} (h : addsV σ.h t v = some (ys, m, u)) :
    ∃ D' O' ν f Q, RelG B D' η O' (σ.after none .un u) a w ∧ (∀ b, D b → D' b) ∧ FrzO σ.h (u ++ σ.h) O O' ∧ Elems w D' t ν ys x f Q ∧ (0 < List.length ys → m ≤ ν) ∧ (∀ i b, i < List.length ys → Q i b → ∃ r, look (u ++ σ.h) r = none ∧ look σ.h r ≠ none ∧ O' r b) := by
  have fall : ∀ {v : V} {ys : List t.den} {m : Nat} {u : Heap}, Vr w D η σ.h v x → (match leafD σ.h (.sl t) v with | some (y, u) => some ((y, 0, u) : List t.den × Nat × Heap) | none => none) = some (ys, m, u) →
      ∃ D' O' ν f Q, RelG B D' η O' (σ.after none .un u) a w ∧ (∀ b, D b → D' b) ∧ FrzO σ.h (u ++ σ.h) O O' ∧ Elems w D' t ν ys x f Q ∧ (0 < List.length ys → m ≤ ν) ∧ (∀ i b, i < List.length ys → Q i b → ∃ r, look (u ++ σ.h) r = none ∧ look σ.h r ≠ none ∧ O' r b) := by
    intro v ys m u hv h
    split at h
    case h_2 => cases h
    rename_i y' u' hl
    cases h
    obtain ⟨D', O', G', h1, h2, h3⟩ := leafD_ok G hv hl
    obtain ⟨f, E⟩ := elems_Rz hte h3
    exact ⟨D', O', 0, f, _, G', h1, h2, E, fun _ => Nat.le_refl _, fun i b hi hb => hb.elim⟩
  unfold addsV at h
  split at h
  · rename_i s z
    split at h
    case h_2 => cases h
    rename_i y' hc
    cases h
    obtain ⟨e, hy⟩ := cast_eq hc
    subst e
    obtain rfl : ys = z := hy
    obtain ⟨f, E⟩ := elems_Rz hte (vr_sl hv)
    exact ⟨D, O, 0, f, _, G.same0, fun _ h => h, FrzO.refl _ _, E, fun _ => Nat.le_refl _, fun i b hi hb => hb.elim⟩
  · cases h
    obtain rfl := vr_k hv
    obtain ⟨f, E⟩ := elems_Rz hte (w := w) (D := D) (t := t) (xs := []) (x := .slice none 0 0) ((Rz.sl hte).2 ⟨none, 0, rfl, Nat.le_refl _, fun h => absurd h (Nat.lt_irrefl _)⟩)
    exact ⟨D, O, 0, f, _, G.same0, fun _ h => h, FrzO.refl _ _, E, fun h => absurd h (Nat.lt_irrefl _), fun i b hi hb => hb.elim⟩
  · rename_i q is ver e
    split at h
    · rename_i t0 n0 v0 zs hq
      split at h
      case h_2 => cases h
      rename_i y' hc
      obtain ⟨e, hy⟩ := cast_eq hc
      cases e
      obtain rfl : y' = zs := hy
      obtain ⟨hd, h1, h2⟩ := G.row hq
      cases hv with
      | ref _ _ _ _ _ hlf hr hv' hx =>
        obtain ⟨h3, h4⟩ := hx t n0 v0 false y' hd hq (.inl rfl) h1
        have e2 : hd = x := by cases hd <;> simpa [hdrAt] using h4
        subst e2
        obtain ⟨f, Q', E, hsub, _⟩ := elems_own (h2.row hte)
        split at h
        · cases h
          refine ⟨D, O, 0, f, fun _ _ => False, G.same0, fun _ h => h, FrzO.refl _ _, ⟨E.head, fun i hi => OwnE.zero.2 ⟨(OwnE.zero.1 (E.own i hi)).1, fun _ h => h⟩, fun i j b hi hj h => h.elim⟩, fun _ => Nat.le_refl _, fun i b hi hb => hb.elim⟩
        · rename_i hflat
          cases h
          have hns : ∀ s, t ≠ .sl s := by rintro s rfl; simp [flatT] at hflat
          refine ⟨D, O, 0, f, fun _ _ => False, G.same0, fun _ h => h, FrzO.refl _ _, ⟨E.head, fun i hi => OwnE.zero.2 ⟨((OwnE.other hns).1 (E.own i hi)).1, fun _ h => h⟩, fun i j b hi hj h => h.elim⟩, fun _ => Nat.le_refl _, fun i b hi hb => hb.elim⟩
        · cases h
          exact ⟨D, O, m, f, Q', G.gone q (look_some_isSome hq), fun _ h => h, ⟨FrzH.gone _ _ (look_some_isSome hq), fun _ _ => rfl⟩, E, fun _ => Nat.le_refl _, fun i b hi hb => ⟨q, by simp [look, fnd_cons], by rw [hq]; simp, hsub i b hi hb⟩⟩
    · exact fall hv h
  · cases h
end
end Go.Proofs.YtpoppblfnaipbaaDoor.Eng
/-! ## The engine: append, run. -/
namespace Go.Proofs.YtpoppblfnaipbaaDoor.Eng
open Go
set_option autoImplicit false
set_option linter.unusedVariables false
set_option linter.unusedSimpArgs false

section
variable {P : Program} {B : Base} {D : Bs} {η : Nat → Gh} {O : Nat → Bs} {σ : St} {a : Act} {w : World} {o : Oper} {next : Act → World → Prop} {Q : Exit → Act → World → Prop} {R : Type} {r : R} {K : V → Heap → Option R}

theorem join_get {f g : Nat → List Value} {s n m : Nat} {olds news rest : List Value} (ho : olds.length = n * s) (hof : ∀ i j, i < n → j < s → olds[i * s + j]? = (f i)[j]?) (hn : news.length = m * s) (hnf : ∀ i j, i < m → j < s → news[i * s + j]? = (g i)[j]?)
    (i j : Nat) (hi : i < n + m) (hj : j < s) : (olds ++ news ++ rest)[i * s + j]? = (if i < n then f i else g (i - n))[j]? := by
  by_cases e : i < n
  · have h9 : (i + 1) * s ≤ n * s := Nat.mul_le_mul_right _ e
    rw [Nat.add_mul, Nat.one_mul] at h9
    rw [List.append_assoc, List.getElem?_append_left (by omega), if_pos e]
    exact hof i j e hj
  · obtain ⟨k, rfl⟩ : ∃ k, i = n + k := ⟨i - n, by omega⟩
    have h9 : (k + 1) * s ≤ m * s := Nat.mul_le_mul_right _ (by omega)
    rw [Nat.add_mul, Nat.one_mul] at h9
    have e2 : (n + k) * s + j = n * s + (k * s + j) := by rw [Nat.add_mul]; omega
    rw [if_neg e, e2, List.append_assoc, List.getElem?_append_right (by omega), ho, Nat.add_sub_cancel_left, List.getElem?_append_left (by omega)]
    have e3 : n + k - n = k := by omega
    rw [e3]
    exact hnf k j (by omega) hj
theorem join_at {f g : Nat → List Value} {s n m off : Nat} {olds news rest : List Value} (ho : olds.length = off + n * s) (hof : ∀ i j, i < n → j < s → olds[off + i * s + j]? = (f i)[j]?) (hn : news.length = m * s) (hnf : ∀ i j, i < m → j < s → news[i * s + j]? = (g i)[j]?)
    (i j : Nat) (hi : i < n + m) (hj : j < s) : (olds ++ news ++ rest)[off + i * s + j]? = (if i < n then f i else g (i - n))[j]? := by
  have e : (olds ++ news ++ rest)[off + i * s + j]? = (olds.drop off ++ news ++ rest)[i * s + j]? := by
    rw [Nat.add_assoc, ← List.getElem?_drop, List.append_assoc, List.drop_append_of_le_length (by omega), ← List.append_assoc]
  rw [e]
  exact join_get (by rw [List.length_drop]; omega) (fun i j hi hj => by rw [List.getElem?_drop, ← Nat.add_assoc]; exact hof i j hi hj) hn hnf i j hi hj
theorem rd_left {t : Ty} {xs ys : List t.den} {i : Nat} (h : i < xs.length) : rd (t := t) (xs ++ ys) i = rd (t := t) xs i := by
  simp only [rd, List.getD]; rw [List.getElem?_append_left h]
theorem rd_right {t : Ty} {xs ys : List t.den} {i : Nat} (h : ¬ i < xs.length) : rd (t := t) (xs ++ ys) i = rd (t := t) ys (i - xs.length) := by
  simp only [rd, List.getD]; rw [List.getElem?_append_right (by omega)]
theorem run_append_in {w : World} {T ty e T' : TypeId} {i : TypeInfo} (ht : P.underlying T = some (.slice e)) (hi : P.info? e = some i) {b off sLen sCap : Nat} {cur : Array Value} (hg : w.heap[b]? = some (.cells cur T' (0, 0)))
    {ad : Option Addr} {m c : Nat} {news : List Value} (hf : (Builtin.firstCells i.size m (.slice ad m c)).run P w = .ok news.toArray w) (h1 : ∀ u ∈ news, u.oneCell' = true) (hroom : sLen + m ≤ sCap) (hfit : off + sLen * i.size + news.length ≤ cur.size) :
    (Builtin.append_ #[T, T] ty #[.slice (some ⟨b, off, none⟩) sLen sCap, .slice ad m c]).run P w = .ok (.slice (some ⟨b, off, none⟩) (sLen + m) sCap) (w.setRow b (cur.toList.take (off + sLen * i.size) ++ news ++ cur.toList.drop (off + sLen * i.size + news.length)).toArray) := by
  have hst := run_storeCells_at P b (off + sLen * i.size) T' news 0 cur w hg (by simpa using hfit) h1
  simp only [Nat.add_zero] at hst
  simp [Builtin.append_, run_underlying ht, sizeOf, typeInfo, hi, Builtin.lenOf, hroom, hf, Addr.add_lit, hst]
theorem exec_append {c : Call} {T : TypeId} (ho : o.op = .call c) (hc : c.callee = .builtin .append) (hT : c.argTypes = #[T, T]) {p q : Operand} (hp : c.args.toList = [p, q]) {x y v : Value} (hx : a.eval p = x) (hy : a.eval q = y) {w' : World}
    (h : (Builtin.append_ #[T, T] o.type #[x, y]).run P w = .ok v w') : (execOp a.eval o).run P w = .ok (.value v) w' := by
  rw [exec_builtin ho hc]
  have e : c.args.map a.eval = #[x, y] := Array.toList_inj.1 (by rw [args_of (a := a) hp]; simp [hx, hy])
  simp only [builtin, e, hT, Sem.run_bind, h, Result.andThen_ok, Sem.run_pure]

theorem op_append {A : Ann} (W : WF P A) (G : RelG B D η O σ a w) (hn : Post B σ a o.dst next K r) (hd : ∀ d, o.dst = some d → d < B.N) (c : Call) (ho : o.op = .call c) (hc : c.callee = .builtin .append) {T κ : Nat} (hT : c.argTypes.toList = [T, T]) {t : Ty} (ht : fnd A.ty T = some (.sl t)) (hte : t.isEnt = false) (h0 : 0 < t.size) (hκ : fresh σ.h κ = true)
    {va vb : V} (hargs : c.args.toList.map σ.eval = [va, vb]) {xs ys : List t.den} {n m : Nat} {u u' : Heap} (hb : baseV σ.h t va = some (xs, n, u)) (ha : addsV (u ++ σ.h) t vb = some (ys, m, u')) (hlen : List.length xs + List.length ys < maxLenE)
    (h : K (.ref κ [] κ t) ((κ, some (.row t (min n m) κ false (xs ++ ys))) :: (u' ++ u)) = some r) : o.wp P a w next Q := by
  obtain ⟨e, hu, hel⟩ := W.sl ht hte
  obtain ⟨i, d, F⟩ := W.facts hel
  obtain ⟨z, hz, hze, _⟩ := F.zero
  have hze := vEqs_eq hze
  have hzs : z.cells.size = t.size := by rw [← Array.length_toList, hze, zeroCells_length]
  have hT' : c.argTypes = #[T, T] := Array.toList_inj.1 (by rw [hT])
  obtain ⟨p, q, hp, rfl, rfl⟩ := map_two hargs
  obtain ⟨Ox, G1, F1, hrow, hOx⟩ := baseV_ok G (G.eval p) hb
  have hv2 := (G.eval q).mono (F1.toFrzH.evo (fun _ h => h) w η)
  obtain ⟨D2, O2, ν, g, Q2, G2, hD, F2, E2, hν, hQ2⟩ := addsV_ok G1 hte (by rw [St.after_h]; exact hv2) (by rw [St.after_h]; exact ha)
  rw [St.after_h] at F2 hQ2
  rw [after_after] at G2
  obtain ⟨f, Q1, E1, hsub1, hcase⟩ := elems_own (hrow.row hte)
  have E1 := E1.mono hD
  have hF : FrzO σ.h (u' ++ (u ++ σ.h)) O O2 := F1.trans F2
  have hQ1 : ∀ b, Ox b → ∃ r, look (u ++ σ.h) r = none ∧ look (u' ++ (u ++ σ.h)) r = none ∧ look σ.h r ≠ none ∧ O2 r b := by
    intro b hb
    obtain ⟨r, r1, r2, r3⟩ := hOx b hb
    exact ⟨r, r1, F2.none r1, r2, by rw [F2.dead r r1]; exact r3⟩
  have hcross : ∀ i b, i < List.length ys → Ox b → ¬ Q2 i b := by
    intro i b hi h1 h2
    obtain ⟨r, r1, _, _, r4⟩ := hQ1 b h1
    obtain ⟨r', s1, s2, s3⟩ := hQ2 i b hi h2
    obtain rfl := G2.odis r r' b r4 s3
    exact s2 r1
  have hσ2 : (σ.after none .un (u' ++ u)).h = u' ++ (u ++ σ.h) := by rw [St.after_h, List.append_assoc]
  have hll : List.length (xs ++ ys) = List.length xs + List.length ys := List.length_append
  let QQ : Nat → Bs := fun i => if i < List.length xs then Q1 i else Q2 (i - List.length xs)
  let ff : Nat → List Value := fun i => if i < List.length xs then f i else g (i - List.length xs)
  have H : Pcs w D2 O2 σ.h (σ.after none .un (u' ++ u)).h t (fun i => if i < List.length xs then n else ν) (xs ++ ys) ff QQ := by
    rw [hσ2]
    refine ⟨fun i hi => ?_, fun i b hi hb => ?_, fun i j b hi hj h1 h2 => ?_⟩
    · rw [hll] at hi
      by_cases e : i < List.length xs
      · simp only [ff, QQ, if_pos e, rd_left e]; exact E1.own i e
      · simp only [ff, QQ, if_neg e, rd_right e]; exact E2.own _ (by omega)
    · rw [hll] at hi
      by_cases e : i < List.length xs
      · simp only [QQ, if_pos e] at hb
        obtain ⟨r, _, r2, r3, r4⟩ := hQ1 b (hsub1 i b e hb)
        exact ⟨r, r2, r3, r4⟩
      · simp only [QQ, if_neg e] at hb
        obtain ⟨r, r1, r2, r3⟩ := hQ2 _ b (by omega) hb
        exact ⟨r, r1, fun e => r2 (F1.none e), r3⟩
    · rw [hll] at hi hj
      by_cases e : i < List.length xs <;> by_cases e' : j < List.length xs
      · simp only [QQ, if_pos e, if_pos e'] at h1 h2; exact E1.dis i j b e e' h1 h2
      · simp only [QQ, if_pos e, if_neg e'] at h1 h2; exact absurd h2 (hcross _ b (by omega) (hsub1 i b e h1))
      · simp only [QQ, if_neg e, if_pos e'] at h1 h2; exact absurd h1 (hcross _ b (by omega) (hsub1 j b e' h2))
      · simp only [QQ, if_neg e, if_neg e'] at h1 h2
        have := E2.dis _ _ b (by omega) (by omega) h1 h2
        omega
  have hm : ∀ i, i < List.length (xs ++ ys) → min n m ≤ (if i < List.length xs then n else ν) := by
    intro i hi
    rw [hll] at hi
    split
    · exact Nat.min_le_left _ _
    · exact Nat.le_trans (Nat.min_le_right _ _) (hν (by omega))
  have hκ2 : fresh (σ.after none .un (u' ++ u)).h κ = true := by
    unfold fresh; rw [hσ2, hF.new κ (fresh_none hκ)]
  have hll2 : List.length xs + List.length ys < 1099511627776 := hlen
  have h63 : List.length xs + List.length ys ≤ maxLen := by simp only [maxLen]; omega
  have hbytes : (List.length xs + List.length ys) * i.bytes ≤ 140737488355328 := by
    have := Nat.mul_le_mul (Nat.le_of_lt hll2) F.bytes
    omega
  have hfl : ∀ i, i < List.length xs → (f i).length = t.size := fun i hi => (E1.own i hi).len.1
  have hgl : ∀ i, i < List.length ys → (g i).length = t.size := fun i hi => (E2.own i hi).len.1
  have honeG : ∀ v ∈ flatF g (List.length ys), v.oneCell' = true := by
    have : ∀ n, n ≤ List.length ys → ∀ v ∈ flatF g n, v.oneCell' = true := by
      intro n
      induction n with
      | zero => intro _ v hv; simp [flatF] at hv
      | succ n ih =>
        intro hn v hv
        simp only [flatF, List.mem_append] at hv
        rcases hv with hv | hv
        · exact ih (by omega) v hv
        · exact ((E2.own n (by omega)).len.2 v hv).one
    exact this _ (Nat.le_refl _)
  have hnl : (flatF g (List.length ys)).length = List.length ys * t.size := flatF_len hgl
  obtain ⟨ad2, cap2, ex2, hrd2⟩ := E2.head
  have hnews : ∀ b off, ad2 = some ⟨b, off, none⟩ → (0 < List.length ys) → ∀ j v, (flatF g (List.length ys))[j]? = some v → w.cell? (Addr.add ⟨b, off, none⟩ j) = some v := by
    intro b off hb hy j v hj
    obtain ⟨b', off', hb', hc⟩ := hrd2 hy
    rw [hb] at hb'; cases hb'
    rw [add_none]; exact flatF_of hgl hc hj
  -- a new block
  have grow : ∀ old : Nat, old < List.length xs + List.length ys → ∀ olds : List Value, olds.length = List.length xs * t.size → (∀ i j, i < List.length xs → j < t.size → olds[i * t.size + j]? = (f i)[j]?) →
      (execOp a.eval o).run P w = .ok (.value (.slice (some ⟨w.heap.size, 0, none⟩) (List.length xs + List.length ys) (grownCap w (List.length xs + List.length ys) old e))) (w.drew.alloc (.cells (olds.toArray ++ (flatF g (List.length ys)).toArray ++ Builtin.zeroCells z.cells (grownCap w (List.length xs + List.length ys) old e - (List.length xs + List.length ys))) e)) →
      o.wp P a w next Q := by
    intro old hold olds hol hof hrun
    have hge := grownCap_ge w (List.length xs + List.length ys) old e
    have hcm := grownCap_le_maxLen w (List.length xs + List.length ys) old e h63
    have hR := G2.build hte (κ := κ) (dst := o.dst) hκ2 hd H (m := min n m) hm (c := olds.toArray ++ (flatF g (List.length ys)).toArray ++ Builtin.zeroCells z.cells (grownCap w (List.length xs + List.length ys) old e - (List.length xs + List.length ys))) (T := e) (cap := grownCap w (List.length xs + List.length ys) old e) (by rw [hll]; exact hge) (by
      simp only [Array.size_append, List.size_toArray, size_zeroCells, hzs, hol, hnl, ← Nat.add_mul]
      congr 1; omega) hcm (fun i j hi hj => by
      rw [hll] at hi
      have := join_get (rest := (Builtin.zeroCells z.cells (grownCap w (List.length xs + List.length ys) old e - (List.length xs + List.length ys))).toList) hol hof hnl (fun i j hi hj => flatF_get hgl hi hj) i j hi hj
      rw [← this, ← Array.getElem?_toList]
      simp) w.drew ⟨rfl, rfl, rfl, rfl⟩
    rw [after_after, hll] at hR
    exact wp_value hn h hR hrun
  rcases hcase with ⟨hx0, hx, hOx0⟩ | ⟨b, off, cap, cur, T', hx, hwb, hnc, hcs, hcm, hOb, hnb, hcf⟩
  · have hxs : xs = [] := List.eq_nil_of_length_eq_zero hx0
    by_cases hy0 : List.length ys = 0
    · have hys : ys = [] := List.eq_nil_of_length_eq_zero hy0
      subst hxs hys
      have hrun := exec_append (P := P) (w := w) (a := a) ho hc hT' hp hx ex2 (v := .slice none 0 0) (w' := w) (by
        simp [Builtin.append_, run_underlying hu, sizeOf, typeInfo, F.info, Builtin.lenOf, Builtin.firstCells]
        cases ad2 <;> simp [loadCells, loadCellsFrom])
      have hR := G2.newRow (κ := κ) (dst := o.dst) hκ2 hd (t := t) (n := min n m) (xs := []) (w' := w) (x := .slice none 0 0) (fun _ => False) (fun _ h => h.elim) (fun _ => False) (OwnE.mk hte (.inl ⟨rfl, rfl, fun _ h => h⟩)) (fun b h => h.elim) rfl rfl rfl (Nat.le_refl _) (fun _ _ _ => rfl)
      rw [after_after] at hR
      exact wp_value hn h hR hrun
    · obtain ⟨b2, off2, ead, hc2⟩ := hrd2 (by omega)
      have h00 : List.length xs = 0 := hx0
      have hb3 := hbytes
      rw [h00, Nat.zero_add] at hb3
      have hr := run_append_nil (P := P) w T o.type e i z hu F.info hz ⟨b2, off2, none⟩ (List.length ys) cap2 (flatF g (List.length ys)) (by rw [F.size]; exact hnl) (hnews b2 off2 ead (by omega)) (by omega) (by omega) (by omega)
      refine grow 0 (by omega) [] (by rw [h00]; simp) (fun i j hi => by rw [h00] at hi; exact absurd hi (Nat.not_lt_zero _)) ?_
      rw [h00, Nat.zero_add]
      rw [ead] at ex2
      have := exec_append (P := P) (w := w) (a := a) ho hc hT' hp hx ex2 hr
      simpa using this
  · by_cases hroom : List.length xs + List.length ys ≤ cap
    · -- in place
      have hf : (Builtin.firstCells i.size (List.length ys) (.slice ad2 (List.length ys) cap2)).run P w = .ok (flatF g (List.length ys)).toArray w := by
        by_cases hy0 : List.length ys = 0
        · rw [hy0]; cases ad2 <;> simp [Builtin.firstCells, loadCells, loadCellsFrom, flatF]
        · obtain ⟨b2, off2, ead, hc2⟩ := hrd2 (by omega)
          rw [ead]
          exact run_firstCells_some (P := P) w i.size _ _ _ _ _ (by rw [F.size]; exact hnl) (hnews b2 off2 ead (by omega))
      have hfit : off + List.length xs * i.size + (flatF g (List.length ys)).length ≤ cur.size := by
        have hmul : (List.length xs + List.length ys) * t.size ≤ cap * t.size := Nat.mul_le_mul_right _ hroom
        rw [Nat.add_mul] at hmul
        rw [hnl, F.size]; omega
      have hr := run_append_in (P := P) (ty := o.type) hu F.info hwb hf honeG hroom hfit
      have hrun := exec_append (P := P) (w := w) (a := a) ho hc hT' hp hx ex2 hr
      rw [F.size] at hrun hfit
      obtain ⟨D3, O3, Q3, G3, h1, _, hlive, hsub, H3, h2, h3⟩ := H.lower G2 (min n m) hm
      have hbQ : ∀ i, i < List.length (xs ++ ys) → ¬ QQ i b := by
        intro i hi hq
        rw [hll] at hi
        by_cases e : i < List.length xs
        · simp only [QQ, if_pos e] at hq; exact hnb i e hq
        · simp only [QQ, if_neg e] at hq; exact hcross _ b (by omega) hOb hq
      obtain ⟨rb, _, rb2, _, rb4⟩ := hQ1 b hOb
      have hb3 : O3 rb b := by
        rcases h3 rb b rb4 with h | ⟨i, hi, hq⟩
        · exact h
        · exact absurd hq (hbQ i hi)
      let news := flatF g (List.length ys)
      let w' := w.setRow b (cur.toList.take (off + List.length xs * t.size) ++ flatF g (List.length ys) ++ cur.toList.drop (off + List.length xs * t.size + (flatF g (List.length ys)).length)).toArray
      have hw' : w'.heap[b]? = some (.cells (cur.toList.take (off + List.length xs * t.size) ++ flatF g (List.length ys) ++ cur.toList.drop (off + List.length xs * t.size + (flatF g (List.length ys)).length)).toArray T' (0, 0)) := setRow_heap w b cur _ T' _ hwb
      have hoth : ∀ k, k ≠ b → w'.heap[k]? = w.heap[k]? := fun k hk => setRow_other w b k _ (by first | exact hk | exact fun e => hk e)
      have hrow3 := H3.row hte (w' := w') (fun r b hb => (G3.olt r b hb).1) (fun k hk => hoth k (fun e => (G3.olt rb b hb3).2 (e ▸ hk))) (fun i k hi hk => hoth k (fun e => hbQ i hi (e ▸ h2 i k hk))) (b := b) (fun i hi hk => hbQ i hi (h2 i b hk)) (off := off) (cap := cap) hw' (by rw [hll]; exact hroom) (by
        rw [hnl] at hfit ⊢
        simp only [List.size_toArray, List.length_append, List.length_take, List.length_drop, Array.length_toList, hnl]
        omega) hcm (fun i j hi hj => by
        rw [hll] at hi
        have htl : (cur.toList.take (off + List.length xs * t.size)).length = off + List.length xs * t.size := by
          have hcl : cur.toList.length = cur.size := Array.length_toList
          rw [List.length_take, hcl]; omega
        have := join_at (rest := cur.toList.drop (off + List.length xs * t.size + (flatF g (List.length ys)).length)) htl (fun i j hi hj => by
          have h9 : (i + 1) * t.size ≤ List.length xs * t.size := Nat.mul_le_mul_right _ hi
          rw [Nat.add_mul, Nat.one_mul] at h9
          rw [List.getElem?_take, if_pos (by omega), Array.getElem?_toList]
          exact hcf i j hi hj) hnl (fun i j hi hj => flatF_get hgl hi hj) i j hi hj
        rw [← this]
        simp)
      have hR := G3.newRow (κ := κ) (dst := o.dst) hκ2 hd (fun r => look (σ.after none .un (u' ++ u)).h r = none) (fun r h => h) _ hrow3 (by
        rintro k (rfl | ⟨i, hi, hk⟩)
        · right; exact ⟨rb, by rw [hσ2]; exact rb2, hb3⟩
        · right
          obtain ⟨r, r1, _, r3⟩ := H3.gone i k hi hk
          exact ⟨r, r1, r3⟩) rfl rfl rfl (by simp [w']) (fun k hk hne => hoth k (fun e => hne ⟨rb, by rw [hσ2]; exact rb2, e ▸ hb3⟩))
      rw [after_after, hll] at hR
      exact wp_value hn h hR hrun
    · have holds : ∀ j v, (flatF f (List.length xs))[j]? = some v → w.cell? (Addr.add ⟨b, off, none⟩ j) = some v := by
        intro j v hj
        rw [add_none]
        refine flatF_of (off := off) hfl (fun i j hi hj => ?_) hj
        rw [← hcf i j hi hj]; simp [World.cell?, hwb]
      by_cases hy0 : List.length ys = 0
      · omega
      obtain ⟨b2, off2, ead, hc2⟩ := hrd2 (by omega)
      have hr := run_append_grow (P := P) w T o.type e i z hu F.info hz ⟨b, off, none⟩ (List.length xs) cap (flatF f (List.length xs)) (by rw [F.size]; exact flatF_len hfl) holds ⟨b2, off2, none⟩ (List.length ys) cap2 (flatF g (List.length ys)) (by rw [F.size]; exact hnl) (hnews b2 off2 ead (by omega)) (by omega) (by omega) (growslice_fits (by omega) hbytes)
      rw [ead] at ex2
      exact grow cap (by omega) _ (flatF_len hfl) (fun i j hi hj => flatF_get hfl hi hj) (exec_append (P := P) (w := w) (a := a) ho hc hT' hp hx ex2 hr)
end
end Go.Proofs.YtpoppblfnaipbaaDoor.Eng
/-! ## The engine: rows of the call's own that are read. -/
namespace Go.Proofs.YtpoppblfnaipbaaDoor.Eng
open Go
set_option autoImplicit false
set_option linter.unusedVariables false
set_option linter.unusedSimpArgs false

section
variable {P : Program} {B : Base} {D : Bs} {η : Nat → Gh} {O : Nat → Bs} {σ : St} {a : Act} {w : World} {o : Oper} {next : Act → World → Prop} {Q : Exit → Act → World → Prop} {R : Type} {r : R} {K : V → Heap → Option R}

theorem exec_one {c : Call} {b : Builtin} (ho : o.op = .call c) (hc : c.callee = .builtin b) {T : TypeId} (hT : c.argTypes.toList = [T]) {p : Operand} (hp : c.args.toList = [p]) {x : Value} (hx : a.eval p = x) :
    (execOp a.eval o).run P w = (builtin b #[T] o.type (c.args.map fun | .const _ => true | _ => false) #[x]).run P w := by
  rw [exec_builtin ho hc]
  have e : c.args.map a.eval = #[x] := Array.toList_inj.1 (by rw [args_of (a := a) hp]; simp [hx])
  have e2 : c.argTypes = #[T] := Array.toList_inj.1 (by rw [hT])
  rw [e, e2] <;> rfl
theorem WF.strT {A : Ann} (W : WF P A) {T : Nat} (h : fnd A.ty T = some .str) : P.underlying T = some .string := W.str (by unfold isTy; rw [h]; rfl)
theorem op_len {A : Ann} (W : WF P A) (G : RelG B D η O σ a w) (hn : Post B σ a o.dst next K r) (hd : ∀ d, o.dst = some d → d < B.N) (c : Call) (ho : o.op = .call c) (hc : c.callee = .builtin .len) {T : Nat} (hT : c.argTypes.toList = [T])
    {v : V} (hargs : c.args.toList.map σ.eval = [v]) {n : Nat} (hl : lenV A T σ.h v = some n) (h : K (.d (.int .i64) (n : Int)) [] = some r) : o.wp P a w next Q := by
  obtain ⟨p, hp, hv⟩ := map_one hargs
  have H := G.eval p
  rw [hv] at H
  generalize hx : a.eval p = x at H
  refine wp_pure hn G hd h (mk_int _ _) ?_
  rw [exec_one ho hc hT hp hx]
  unfold lenV at hl
  split at hl
  · rename_i s hty
    cases hl
    obtain ⟨z, h1, rfl⟩ := vr_str H
    have hz : z.size = s.length := by rw [← h1]; rfl
    simp [builtin, Builtin.len_, run_underlying (W.strT hty), goInt, hz, Sem.run_bind]
  · rename_i t k hty
    split at hl
    case h_2 => cases hl
    rename_i hsl
    cases hl
    obtain ⟨t', hty', hte⟩ := slTy_of hsl
    obtain rfl := vr_k H
    obtain ⟨e, hu, _⟩ := W.sl hty' hte
    simp [builtin, Builtin.len_, run_underlying hu, goInt, Sem.run_bind]
  · rename_i t v' hty _
    split at hl
    case h_2 => cases hl
    rename_i s xs hsl hr
    split at hl
    case h_1 => cases hl
    rename_i hse
    cases hl
    obtain ⟨t', hty', hte⟩ := slTy_of hsl
    obtain ⟨s', ys, m, O', e1, h1⟩ := rowOf_ok G H hr
    cases e1
    obtain ⟨ad, cap, rfl, _⟩ := row_head hse h1
    obtain ⟨e, hu, _⟩ := W.sl hty' hte
    simp [builtin, Builtin.len_, run_underlying hu, goInt, Sem.run_bind]
  · cases hl

/-- An element of a row within a row. -/
theorem snoc_at {w : World} {p : List Bool} {b off len cap j : Nat} {s : Ty} {ys : List s.den} (hse : s.isEnt = false) (hj : j < ys.length) : ∀ (is : List Nat) (t : Ty) (xs : List t.den) (hv : Value), Valid t xs is → hdrAt w hv is = some (.slice (some ⟨b, off, none⟩) len cap) → rowAt t xs is = some ⟨.sl s, ys⟩ →
    ValidE t xs (is ++ [j]) ∧ elTy t (is ++ [j]) = some s ∧ elPtr w p hv t (is ++ [j]) = some (.pointer (some ⟨b, off + j * s.size + offs s p, none⟩))
  | [], t, xs, hv, _, hx, hr => by
    have e : hv = .slice (some ⟨b, off, none⟩) len cap := by
      have : some hv = some (Value.slice (some ⟨b, off, none⟩) len cap) := by rw [← hx]; cases hv <;> rfl
      exact Option.some.inj this
    have hr' : some (⟨.sl t, xs⟩ : C) = some ⟨.sl s, ys⟩ := by cases t <;> exact hr
    cases hr'
    subst e
    refine ⟨by cases s <;> exact ⟨hse, hj⟩, by cases s <;> rfl, by cases s <;> rfl⟩
  | i :: is, .sl t, xs, hv, ⟨hi, hval⟩, hx, hr => by
    simp only [rowAt] at hr
    match hv, hx with
    | .slice (some ad) n c, hx =>
      simp only [hdrAt] at hx
      split at hx
      case h_2 => cases hx
      rename_i v' hc
      obtain ⟨h1, h2, h3⟩ := snoc_at hse hj is t (rd xs i) v' hval hx hr
      cases is with
      | nil => exact ⟨⟨hi, h1⟩, h2, by simp only [List.cons_append, List.nil_append, elPtr, hc]; exact h3⟩
      | cons k is => exact ⟨⟨hi, h1⟩, h2, by simp only [List.cons_append, elPtr, hc]; exact h3⟩
    | .slice none n c, hx => simp [hdrAt] at hx
  | _ :: _, .int _, _, _, hval, _, _ => hval.elim
  | _ :: _, .bool, _, _, hval, _, _ => hval.elim
  | _ :: _, .str, _, _, hval, _, _ => hval.elim
  | _ :: _, .unit, _, _, hval, _, _ => hval.elim
  | _ :: _, .pair _ _, _, _, hval, _, _ => hval.elim
  | _ :: _, .tree, _, _, hval, _, _ => hval.elim
  | _ :: _, .ent _ _, _, _, hval, _, _ => hval.elim
theorem op_indexAddr_ref {A : Ann} (W : WF P A) (G : RelG B D η O σ a w) (hn : Post B σ a o.dst next K r) (hd : ∀ d, o.dst = some d → d < B.N) (T : Nat) (x i : Operand) (ho : o.op = .indexAddr T x i) {q : Nat} {is : List Nat} {v : Nat} {t s : Ty} (hb : σ.eval x = .ref q is v t)
    {xs : List s.den} (hr : rowOf σ.h (.ref q is v t) = some ⟨.sl s, xs⟩) (hT : isSl A T s = true) {t0 : Ty} {n v0 : Nat} {fz : Bool} {xs0 : List t0.den} (hq : look σ.h q = some (.row t0 n v0 fz xs0))
    (h : idx (σ.eval i) (List.length xs) (fun j => K (.rp q (is ++ [j]) v0 [] s) []) = some r) : o.wp P a w next Q := by
  have hv := G.eval x
  rw [hb] at hv
  obtain ⟨k, z, h2, h3, h4, h5⟩ := idx_some h (G.eval i)
  obtain ⟨s', ys, m, O', e1, h1⟩ := rowOf_ok G hv hr
  cases e1
  obtain ⟨ad, cap, hx, hcap, hrow⟩ := row_head (isSl_of hT).2 h1
  obtain ⟨b, off, rfl, _⟩ := hrow (by omega)
  generalize hy : a.eval x = y at hv hx
  subst hx
  obtain ⟨hd', g1, g2, g3⟩ := G.objs q _ hq
  have key : Valid t0 xs0 is ∧ hdrAt w hd' is = some (.slice (some ⟨b, off, none⟩) (List.length xs) cap) ∧ rowAt t0 xs0 is = some ⟨.sl s, xs⟩ := by
    unfold rowOf at hr
    simp only [hq] at hr
    cases hv with
    | ref _ _ _ _ _ hlf hrr hvv hx =>
      split at hr
      · cases hr
        obtain ⟨k1, k2⟩ := hx _ n v0 fz _ hd' hq (.inl rfl) g1
        exact ⟨k1, k2, by cases s <;> rfl⟩
      · rename_i hbv
        obtain ⟨k1, k2⟩ := hx t0 n v0 fz xs0 hd' hq (.inr (Nat.eq_of_beq_eq_true hbv).symm) g1
        exact ⟨k1, k2, hr⟩
      · cases hr
  have hj : z.toNat < List.length xs := by omega
  obtain ⟨k1, k2, k3⟩ := snoc_at (p := []) (isSl_of hT).2 hj is t0 xs0 hd' key.1 key.2.1 key.2.2
  refine wp_pure hn G hd h5 (x := .pointer (some ⟨b, off + z.toNat * s.size, none⟩)) (.rp q _ v0 [] s _ Leaf.pointer (look_some_isSome hq) g3 (fun t1 n1 v1 fz1 xs1 hd1 hl1 _ he1 => ?_)) ?_
  · rw [hq] at hl1; cases hl1
    rw [g1] at he1; cases he1
    refine ⟨k1, by rw [k2]; cases s <;> rfl, ?_⟩
    rw [k3]
    have e : offs s [] = 0 := by cases s <;> rfl
    rw [e]; rfl
  · simp only [execOp, ho, hy, h2, Sem.run_bind, indexAt_run W hT b off _ cap k z h3 h4, Result.andThen_ok, Sem.run_pure]

theorem part_ty : ∀ (p : List Bool) (t : Ty) (x : t.den) (c : C), part t x p = some c → partTy t p = some c.t
  | [], t, x, c, h => by
    have : part t x [] = some ⟨t, x⟩ := by cases t <;> rfl
    rw [this] at h; cases h; cases t <;> rfl
  | false :: p, .pair a b, x, c, h => by simp only [part] at h; simp only [partTy]; exact part_ty p a x.1 c h
  | true :: p, .pair a b, x, c, h => by simp only [part] at h; simp only [partTy]; exact part_ty p b x.2 c h
  | [false], .tree, x, c, h => by simp only [part] at h; cases h; rfl
  | [true, false], .tree, x, c, h => by simp only [part] at h; cases h; rfl
  | [true, true], .tree, x, c, h => by simp only [part] at h; cases h; rfl
  | [true], .tree, x, c, h => by simp [part] at h
  | false :: _ :: _, .tree, x, c, h => by simp [part] at h
  | true :: false :: _ :: _, .tree, x, c, h => by simp [part] at h
  | true :: true :: _ :: _, .tree, x, c, h => by simp [part] at h
  | _ :: _, .int _, _, _, h => by simp [part] at h
  | _ :: _, .bool, _, _, h => by simp [part] at h
  | _ :: _, .str, _, _, h => by simp [part] at h
  | _ :: _, .unit, _, _, h => by simp [part] at h
  | _ :: _, .sl _, _, _, h => by simp [part] at h
theorem vr_rp {hp : Heap} {q : Nat} {is : List Nat} {v : Nat} {p : List Bool} {t : Ty} {x : Value} (H : Vr w D η hp (.rp q is v p t) x) : (fnd hp q).isSome ∧ (fnd hp v).isSome ∧ ∀ t0 n v0 fz xs hv, look hp q = some (.row t0 n v0 fz xs) → v0 = v → η q = .row hv → ValidE t0 xs is ∧ ((elTy t0 is).bind fun e => partTy e p) = some t ∧ elPtr w p hv t0 is = some x := by
  cases H with
  | rp _ _ _ _ _ _ hlf hr hv hx => exact ⟨hr, hv, hx⟩
theorem elem_some : ∀ (is : List Nat) (t : Ty) (xs : List t.den), ValidE t xs is → ∃ c, elemAt t xs is = some c
  | [], t, xs, h => by simp [ValidE] at h
  | [i], t, xs, h => ⟨⟨t, rd xs i⟩, by cases t <;> rfl⟩
  | i :: j :: is, .sl t, xs, ⟨_, h⟩ => by simp only [elemAt]; exact elem_some (j :: is) t _ h
  | _ :: _ :: _, .int _, _, h => h.elim
  | _ :: _ :: _, .bool, _, h => h.elim
  | _ :: _ :: _, .str, _, h => h.elim
  | _ :: _ :: _, .unit, _, h => h.elim
  | _ :: _ :: _, .pair _ _, _, h => h.elim
  | _ :: _ :: _, .tree, _, h => h.elim
  | _ :: _ :: _, .ent _ _, _, h => h.elim
/-- A place in a row of the call's own: its address, what stands there. -/
theorem RelG.place (G : RelG B D η O σ a w) {q : Nat} {is : List Nat} {p : List Bool} {s : Ty} {x : Value} {t0 : Ty} {n v0 : Nat} {fz : Bool} {xs0 : List t0.den} (hv : Vr w D η σ.h (.rp q is v0 p s) x) (hq : look σ.h q = some (.row t0 n v0 fz xs0)) {c : C} (hc : elemAt t0 xs0 is = some c) :
    ∃ b off us Oi, x = .pointer (some ⟨b, off + offs c.t p, none⟩) ∧ partTy c.t p = some s ∧ us.length = c.t.size ∧ OwnE w D c.t (dep fz n - is.length) c.x us Oi ∧ ∀ j, j < c.t.size → w.cell? ⟨b, off + j, none⟩ = us[j]? := by
  obtain ⟨h1, h2, h3⟩ := vr_rp hv
  obtain ⟨hd, g1, g2⟩ := G.row hq
  obtain ⟨k1, k2, k3⟩ := h3 _ _ _ _ _ hd hq rfl g1
  obtain ⟨b, off, us, Oi, m1, m2, m3, m4, m5, m6⟩ := elem_at p is t0 _ xs0 hd x _ c g2 k1 k3 hc
  rw [m2] at k2
  exact ⟨b, off, us, Oi, m1, k2, m3, m4, m6⟩
theorem op_load_rp {A : Ann} (W : WF P A) (G : RelG B D η O σ a w) (hn : Post B σ a o.dst next K r) (hd : ∀ d, o.dst = some d → d < B.N) (T : Nat) (x : Operand) (ho : o.op = .load T x) {t : Ty} (ht : fnd A.ty T = some t)
    {q : Nat} {is : List Nat} {p : List Bool} {t0 : Ty} {n v0 : Nat} {fz : Bool} {xs0 : List t0.den} (hb : σ.eval x = .rp q is v0 p t) (hq : look σ.h q = some (.row t0 n v0 fz xs0)) {c : C} (hc : elemAt t0 xs0 is = some c)
    (h : (match (generalizing := false) p, Nat.ble is.length n, c.t with
            | [], true, .sl e => K (.ref q is v0 e) []
            | p, _, _ => (match part c.t c.x p with | some z => K (val z.t z.x) [] | none => none)) = some r) : o.wp P a w next Q := by
  have hv := G.eval x
  rw [hb] at hv
  obtain ⟨i, d, F⟩ := W.facts ht
  obtain ⟨b, off, us, Oi, h1, h2, h3, h4, h5⟩ := G.place hv hq hc
  obtain ⟨ct, cx⟩ := c
  simp only at h1 h2 h3 h4 h5 h
  -- where a row of its own is read
  by_cases hown : ∃ e, p = [] ∧ Nat.ble is.length n = true ∧ ct = .sl e
  · obtain ⟨e, rfl, hbl, rfl⟩ := hown
    rw [hbl] at h
    simp only at h
    have e0 : partTy (.sl e) [] = some (.sl e) := rfl
    rw [e0] at h2; cases h2
    obtain ⟨u, rfl⟩ : ∃ u, us = [u] := by match us, h3 with | [u], _ => exact ⟨u, rfl⟩
    have hlf := h4.len.2 u (by simp)
    have h6 := h5 0 (by simp [Ty.size])
    simp only [Nat.add_zero, List.getElem?_cons_zero] at h6
    have hz : offs (.sl e) [] = 0 := rfl
    rw [hz, Nat.add_zero] at h1
    obtain ⟨hr1, hv1, hx⟩ := vr_rp hv
    obtain ⟨hd', g1, g2⟩ := G.row hq
    obtain ⟨k1, k2, k3⟩ := hx _ _ _ _ _ hd' hq rfl g1
    have conv : ∀ (is : List Nat) (t0 : Ty) (xs0 : List t0.den) (hd' : Value), ValidE t0 xs0 is → elTy t0 is = some (.sl e) → elPtr w [] hd' t0 is = some (.pointer (some ⟨b, off, none⟩)) → Valid t0 xs0 is ∧ hdrAt w hd' is = some u := by
      intro is
      induction is with
      | nil => intro t0 xs0 hd' hval; simp [ValidE] at hval
      | cons i is ih =>
        intro t0 xs0 hd' hval hty hp
        cases is with
        | nil =>
          have e1 : t0 = .sl e := by cases t0 <;> simp [elTy] at hty ⊢; exact hty
          subst e1
          match hd', hp with
          | .slice (some ad) l c, hp =>
            simp only [elPtr, Option.some.injEq, Value.pointer.injEq, Addr.mk.injEq] at hp
            obtain ⟨rfl, hoff, _⟩ := hp
            have : off = ad.off + i := by rw [← hoff]; simp [Ty.size, hz]
            refine ⟨⟨by cases e <;> exact hval.2, by cases e <;> trivial⟩, ?_⟩
            simp only [hdrAt]
            rw [← this, h6]
            try (cases u <;> rfl)
          | .slice none l c, hp => simp [elPtr] at hp
        | cons j is =>
          cases t0 with
          | sl t0 =>
            match hd', hp with
            | .slice (some ad) l c, hp =>
              simp only [elPtr] at hp
              split at hp
              case h_2 => cases hp
              rename_i v' hcell
              obtain ⟨m1, m2⟩ := ih t0 (rd xs0 i) v' hval.2 hty hp
              exact ⟨⟨hval.1, m1⟩, by simp only [hdrAt, hcell]; exact m2⟩
            | .slice none l c, hp => simp [elPtr] at hp
          | _ => exact hval.elim
    have helty : elTy t0 is = some (.sl e) := by
      cases he : elTy t0 is with
      | none => rw [he] at k2; cases k2
      | some t1 =>
        rw [he] at k2
        have : partTy t1 [] = some t1 := by cases t1 <;> rfl
        simp only [Option.bind_some, this] at k2
        exact k2
    rw [h1] at k3
    obtain ⟨m1, m2⟩ := conv is t0 xs0 hd' k1 helty k3
    refine wp_pure hn G hd h (x := u) (.ref q is v0 e u hlf hr1 hv1 (fun t1 n1 v1 fz1 xs1 hd1 hl1 _ he1 => ?_)) ?_
    · rw [hq] at hl1; cases hl1
      rw [g1] at he1; cases he1
      exact ⟨m1, m2⟩
    · have e := load_run F (w := w) b off [u] rfl (fun j v hj => by
        match j, hj with
        | 0, hj => simp at hj; subst hj; exact h6)
      have e2 : (loadVar T ⟨b, off, none⟩).run P w = .ok u w := by
        rcases e with e | ⟨_, e'⟩
        · exact e
        · exact absurd rfl e'
      simp only [execOp, ho, Instr.loadAt, Instr.sureAddr, h1, Sem.run_bind, Sem.run_pure, Result.andThen_ok, e2]
  · -- a datum
    have hpart : ∃ z, part ct cx p = some z ∧ K (val z.t z.x) [] = some r := by
      split at h
      · refine absurd ⟨_, by first | rfl | assumption, by assumption, by first | rfl | assumption⟩ hown
      · split at h
        case h_2 => cases h
        rename_i z hz
        exact ⟨z, hz, h⟩
    obtain ⟨z, hz, h⟩ := hpart
    have hRz : Rz w D ct cx us := by
      cases ct with
      | sl e =>
        cases p with
        | cons _ _ => simp [part] at hz
        | nil =>
          have hb' : ¬ is.length ≤ n := fun hle => hown ⟨e, rfl, Nat.ble_eq_true_of_le hle, rfl⟩
          have e0 : dep fz n - is.length = 0 := by cases fz <;> simp [dep] <;> omega
          rw [e0] at h4
          exact (OwnE.zero.1 h4).1
      | _ => exact ((OwnE.other (fun _ => by simp)).1 h4).1
    obtain ⟨z1, z2⟩ := part_Rz p ct cx us z hRz hz
    have hzt : z.t = t := by
      have := part_ty p ct cx z hz
      rw [this] at h2; cases h2; rfl
    obtain ⟨zt, zx⟩ := z
    simp only at hzt z1 z2 h
    subst hzt
    have hl : ((us.drop (offs ct p)).take zt.size).length = zt.size := by simp; omega
    have e := load_run F (w := w) b (off + offs ct p) _ hl (fun j v hj => by
      have hj' : j < zt.size := by rw [← hl]; exact (List.getElem?_eq_some_iff.1 hj).1
      rw [List.getElem?_take, if_pos hj', List.getElem?_drop] at hj
      rw [Nat.add_assoc, h5 _ (by omega), hj])
    have e2 : (loadVar T ⟨b, off + offs ct p, none⟩).run P w = .ok (match zt.agg with | true => .agg ((us.drop (offs ct p)).take zt.size).toArray | false => ((us.drop (offs ct p)).take zt.size).getD 0 undef) w := by
      rcases e with e | ⟨e, e'⟩
      · exact e
      · exact absurd (by cases zt <;> first | rfl | (simp [Ty.agg] at e; done)) e'
    refine wp_pure hn G hd h (val_ok zt zx _ z1) ?_
    simp only [execOp, ho, Instr.loadAt, Instr.sureAddr, h1, Sem.run_bind, Sem.run_pure, Result.andThen_ok, e2]
    rfl
end
end Go.Proofs.YtpoppblfnaipbaaDoor.Eng
/-! ## The engine: stores into rows of the call's own: what stands there then. -/
namespace Go.Proofs.YtpoppblfnaipbaaDoor.Eng
open Go
set_option autoImplicit false
set_option linter.unusedVariables false
set_option linter.unusedSimpArgs false

theorem splice_left {α : Type} (u v ys : List α) (n m : Nat) (h : n + m ≤ u.length) : (u ++ v).take n ++ ys ++ (u ++ v).drop (n + m) = (u.take n ++ ys ++ u.drop (n + m)) ++ v := by
  rw [List.take_append_of_le_length (by omega), List.drop_append_of_le_length h]; simp
theorem splice_right {α : Type} (u v ys : List α) (n m k : Nat) (hk : k = u.length) : (u ++ v).take (k + n) ++ ys ++ (u ++ v).drop (k + n + m) = u ++ (v.take n ++ ys ++ v.drop (n + m)) := by
  subst hk
  have e1 : (u ++ v).take (u.length + n) = u ++ v.take n := by rw [List.take_append]; simp [List.take_of_length_le]
  have e2 : (u ++ v).drop (u.length + n + m) = v.drop (n + m) := by
    rw [Nat.add_assoc, ← List.drop_drop]; simp
  rw [e1, e2]; simp
theorem setPart_nil {w : World} {D : Bs} {t s : Ty} {x z : t.den} {y : s.den} {us vs : List Value} (h : Rz w D t x us) (hp : setPart t x [] ⟨s, y⟩ = some z) (hy : Rz w D s y vs) :
    Rz w D t z (us.take (offs t []) ++ vs ++ us.drop (offs t [] + s.size)) ∧ offs t [] + s.size ≤ us.length := by
  have hc : s.cast t y = some z := by cases t <;> exact hp
  obtain ⟨e, hz⟩ := cast_eq hc
  subst e
  obtain rfl : z = y := hz
  have e0 : offs s [] = 0 := by cases s <;> rfl
  have hl := (Rz.shape _ _ _ h).1
  rw [e0, Nat.zero_add, ← hl]
  simp only [List.take_zero, List.nil_append, List.drop_length, List.append_nil]
  exact ⟨hy, Nat.le_refl _⟩
theorem setPart_Rz {w : World} {D : Bs} {s : Ty} {y : s.den} {vs : List Value} (hy : Rz w D s y vs) : ∀ (p : List Bool) (t : Ty) (x z : t.den) (us : List Value), Rz w D t x us → setPart t x p ⟨s, y⟩ = some z →
    Rz w D t z (us.take (offs t p) ++ vs ++ us.drop (offs t p + s.size)) ∧ offs t p + s.size ≤ us.length
  | [], t, x, z, us, h, hp => setPart_nil h hp hy
  | false :: p, .pair a b, x, z, us, ⟨u, v, e, h1, h2⟩, hp => by
    simp only [setPart] at hp
    split at hp
    case h_2 => cases hp
    rename_i y' hs
    cases hp
    obtain ⟨g1, g2⟩ := setPart_Rz hy p a x.1 y' u h1 hs
    subst e
    refine ⟨⟨_, v, ?_, g1, h2⟩, ?_⟩
    · exact splice_left u v vs _ _ g2
    · simp only [offs, List.length_append]; omega
  | true :: p, .pair a b, x, z, us, ⟨u, v, e, h1, h2⟩, hp => by
    simp only [setPart] at hp
    split at hp
    case h_2 => cases hp
    rename_i y' hs
    cases hp
    obtain ⟨g1, g2⟩ := setPart_Rz hy p b x.2 y' v h2 hs
    have hl := (Rz.shape _ _ _ h1).1
    subst e
    refine ⟨⟨u, _, ?_, h1, g1⟩, ?_⟩
    · exact splice_right u v vs _ _ _ hl.symm
    · simp only [offs, List.length_append, hl]; omega
  | [false], .tree, x, z, us, h, hp => by
    obtain ⟨u, v, e, h1, h2⟩ := Rz.tree.1 h
    simp only [setPart] at hp
    split at hp
    case h_2 => cases hp
    rename_i y' hc
    cases hp
    have hs : setPart .str x.s [] ⟨s, y⟩ = some y' := hc
    obtain ⟨g1, g2⟩ := setPart_nil h1 hs hy
    subst e
    have e1 := splice_left u v vs _ _ g2
    refine ⟨Rz.tree.2 ⟨_, v, e1, g1, h2⟩, ?_⟩
    have e0 : offs .str [] = 0 := rfl
    rw [e0] at g2
    simp only [offs, List.length_append]; omega
  | [true, false], .tree, x, z, us, h, hp => by
    obtain ⟨u, v, e, h1, u2, v2, e2, h2, h3⟩ := Rz.tree.1 h
    simp only [setPart] at hp
    split at hp
    case h_2 => cases hp
    rename_i y' hc
    cases hp
    have hs : setPart (.int .i64) x.r [] ⟨s, y⟩ = some y' := hc
    obtain ⟨g1, g2⟩ := setPart_nil h2 hs hy
    have hl : u.length = 1 := (Rz.shape _ _ _ h1).1
    subst e e2
    have e1 := splice_right u (u2 ++ v2) vs (offs (.int .i64) []) s.size _ hl.symm
    rw [splice_left u2 v2 vs _ _ g2] at e1
    refine ⟨Rz.tree.2 ⟨u, _, e1, h1, _, v2, rfl, g1, h3⟩, ?_⟩
    have e0 : offs (.int .i64) [] = 0 := rfl
    rw [e0] at g2
    simp only [offs, List.length_append, hl]; omega
  | [true, true], .tree, x, z, us, h, hp => by
    obtain ⟨u, v, e, h1, u2, v2, e2, h2, h3⟩ := Rz.tree.1 h
    simp only [setPart] at hp
    split at hp
    case h_2 => cases hp
    rename_i y' hc
    cases hp
    have hs : setPart .kids x.k [] ⟨s, y⟩ = some y' := hc
    obtain ⟨g1, g2⟩ := setPart_nil h3 hs hy
    have hl : u.length = 1 := (Rz.shape _ _ _ h1).1
    have hl2 : u2.length = 1 := (Rz.shape _ _ _ h2).1
    subst e e2
    have e0 : offs .kids [] = 0 := rfl
    have e1 := splice_right u (u2 ++ v2) vs 1 s.size _ hl.symm
    have e3 := splice_right u2 v2 vs (offs .kids []) s.size _ hl2.symm
    rw [e0, Nat.add_zero] at e3
    have e4 : (u2 ++ v2).take 1 ++ vs ++ (u2 ++ v2).drop (1 + s.size) = u2 ++ (v2.take 0 ++ vs ++ v2.drop (0 + s.size)) := e3
    rw [e4] at e1
    rw [e0] at g1 g2
    refine ⟨Rz.tree.2 ⟨u, _, e1, h1, u2, _, rfl, h2, g1⟩, ?_⟩
    simp only [offs, List.length_append, hl, hl2]; omega
  | [true], .tree, x, z, us, h, hp => by simp [setPart] at hp
  | false :: _ :: _, .tree, x, z, us, h, hp => by simp [setPart] at hp
  | true :: false :: _ :: _, .tree, x, z, us, h, hp => by simp [setPart] at hp
  | true :: true :: _ :: _, .tree, x, z, us, h, hp => by simp [setPart] at hp
  | _ :: _, .int _, _, _, _, _, hp => by simp [setPart] at hp
  | _ :: _, .bool, _, _, _, _, hp => by simp [setPart] at hp
  | _ :: _, .str, _, _, _, _, hp => by simp [setPart] at hp
  | _ :: _, .unit, _, _, _, _, hp => by simp [setPart] at hp
  | _ :: _, .sl _, _, _, _, _, hp => by simp [setPart] at hp
  | _ :: _, .ent _ _, _, _, _, _, hp => by simp [setPart] at hp

theorem rd_set_same {t : Ty} {xs : List t.den} {i : Nat} {y : t.den} (hi : i < xs.length) : rd (t := t) (xs.set i y) i = y := by simp [rd, List.getD, hi]
theorem rd_set_other {t : Ty} {xs : List t.den} {i k : Nat} {y : t.den} (hk : k ≠ i) : rd (t := t) (xs.set i y) k = rd (t := t) xs k := by
  simp only [rd, List.getD, List.getElem?_set]; rw [if_neg (Ne.symm hk)]

/-- What a store leaves of the heads. -/
structure Kept (w w' : World) (t : Ty) (xs zs : List t.den) (hv : Value) : Prop where
  hdr : ∀ is, Valid t xs is → Valid t zs is ∧ hdrAt w' hv is = hdrAt w hv is
  el : ∀ is p, ValidE t xs is → ValidE t zs is ∧ elPtr w' p hv t is = elPtr w p hv t is

/-- A store into a row of the call's own. -/
theorem store_at {w : World} {D : Bs} (p : List Bool) {s : Ty} {y : s.den} {vs : List Value} (hy : Rz w D s y vs) {e : Ty} : ∀ (is : List Nat) (t : Ty) (N : Nat) (xs : List t.den) (hv : Value) (O : Bs) (zs : List t.den) (b off : Nat),
    is.length ≤ N → OwnE w D (.sl t) N xs [hv] O → (∀ k, O k → ¬ D k) → ValidE t xs is → elTy t is = some e → elPtr w p hv t is = some (.pointer (some ⟨b, off, none⟩)) →
    ((∀ e', e ≠ .sl e') ∨ N = is.length) → setAt t xs is p ⟨s, y⟩ = some zs →
    ∃ c T, w.heap[b]? = some (.cells c T (0, 0)) ∧ O b ∧ off + s.size ≤ c.size ∧ ∀ (w' : World) (c' : Array Value), w'.heap[b]? = some (.cells c' T (0, 0)) → c'.size = c.size → (∀ k, k < off ∨ off + s.size ≤ k → c'[k]? = c[k]?) → (∀ j, j < s.size → c'[off + j]? = vs[j]?) →
      (∀ k, k ≠ b → w'.heap[k]? = w.heap[k]?) → OwnE w' D (.sl t) N zs [hv] O ∧ ((∀ e', e ≠ .sl e') → Kept w w' t xs zs hv)
  | [], t, N, xs, hv, O, zs, b, off, _, _, _, hval, _, _, _, _ => by simp [ValidE] at hval
  | [i], t, N + 1, xs, hv, O, zs, b, off, hN, ⟨v, e1, h⟩, hOD, hval, hty, hp, hsh, hset => by
    obtain rfl : hv = v := by simpa using e1
    have hi2 : t.isEnt = false ∧ i < List.length xs := by cases t <;> exact hval
    have hi := hi2.2
    have hte0 := hi2.1
    replace h := (OwnE.row hte0 ⟨_, rfl, h⟩ : OwnRow w t.size (List.length xs) (fun i us Oi => OwnE w D t N (rd xs i) us Oi) hv O)
    have hte : t = e := by cases t <;> simpa [elTy] using hty
    subst hte
    have hset2 : (match setPart t (rd xs i) p ⟨s, y⟩ with | some y => some (xs.set i y) | none => none) = some zs := by cases t <;> exact hset
    split at hset2
    case h_2 => cases hset2
    rename_i z hz
    cases hset2
    rcases h with ⟨h0, _⟩ | ⟨b0, o0, cap, c, T, OO, rfl, hb, hn, hc, hm, hall, hOO, hnb, hdis⟩
    · omega
    have hp2 : (⟨b, off, none⟩ : Addr) = ⟨b0, o0 + i * t.size + offs t p, none⟩ := by
      cases t <;> simp [elPtr] at hp <;> simp [hp]
    simp only [Addr.mk.injEq, and_true] at hp2
    obtain ⟨rfl, rfl⟩ := hp2
    obtain ⟨us, u1, u2, u3⟩ := hall i hi
    have hiff : ∀ (w : World) (x : t.den) (us : List Value) (Oi : Bs), OwnE w D t N x us Oi ↔ (Rz w D t x us ∧ ∀ b, ¬ Oi b) := by
      intro w x us Oi
      rcases hsh with h | h
      · exact OwnE.other h
      · have h0 : N = 0 := by simpa using h
        subst h0; exact OwnE.zero
    obtain ⟨r1, r2⟩ := (hiff _ _ _ _).1 u3
    obtain ⟨q1, q2⟩ := setPart_Rz hy p t _ z us r1 hz
    have hvl := (Rz.shape _ _ _ hy).1
    have hbound : (i + 1) * t.size ≤ cap * t.size := Nat.mul_le_mul_right _ (by omega)
    rw [Nat.add_mul, Nat.one_mul] at hbound
    have hbO : O b := (hOO b).2 (.inl rfl)
    refine ⟨c, T, hb, hbO, by omega, fun w' c' hw' hcs hout hin hoth => ?_⟩
    have hD : Same D w w' := fun k hk => hoth k (fun e => hOD b hbO (e ▸ hk))
    refine ⟨OwnE.mk hte0 <| .inr ⟨b, o0, cap, c', T, OO, by rw [List.length_set], hw', by rw [List.length_set]; exact hn, by rw [hcs]; exact hc, hm, fun k hk => ?_, fun x => by rw [List.length_set]; exact hOO x, fun k hk => hnb k (by rwa [List.length_set] at hk), fun k l x hk hl => hdis k l x (by rwa [List.length_set] at hk) (by rwa [List.length_set] at hl)⟩, fun hne => ?_⟩
    · rw [List.length_set] at hk
      by_cases ek : k = i
      · subst ek
        refine ⟨us.take (offs t p) ++ vs ++ us.drop (offs t p + s.size), by simp [hvl]; omega, fun j hj => ?_, ?_⟩
        · have hsp := splice_get us vs (offs t p) (by omega) j
          rw [hvl] at hsp
          rw [hsp]
          split
          · rw [hout _ (by omega)]; exact u2 j hj
          · split
            · have := hin (j - offs t p) (by omega)
              rw [← this]; congr 1; omega
            · rw [hout _ (by omega)]; exact u2 j hj
        · show OwnE w' D t N (rd (xs.set k z) k) _ (OO k)
          rw [rd_set_same hi]
          have r3 : Rz w' D t z (us.take (offs t p) ++ vs ++ us.drop (offs t p + s.size)) := Rz.mono (fun _ h => h) hD _ _ _ q1
          exact (hiff _ _ _ _).2 ⟨r3, r2⟩
      · obtain ⟨us', v1, v2, v3⟩ := hall k hk
        refine ⟨us', v1, fun j hj => ?_, ?_⟩
        · rw [hout _ ?_]
          · exact v2 j hj
          · by_cases hlt : k < i
            · have : (k + 1) * t.size ≤ i * t.size := Nat.mul_le_mul_right _ hlt
              rw [Nat.add_mul, Nat.one_mul] at this
              left; omega
            · have : (i + 1) * t.size ≤ k * t.size := Nat.mul_le_mul_right _ (by omega)
              rw [Nat.add_mul, Nat.one_mul] at this
              right; omega
        · show OwnE w' D t N (rd (xs.set i z) k) _ (OO k)
          rw [rd_set_other ek]
          exact OwnE.mono (fun _ h => h) hD _ _ _ _ _ (fun x hx => hoth x (fun e => hnb k hk (e ▸ hx))) v3
    · refine ⟨fun js hj => ?_, fun js q hj => ?_⟩
      · cases js with
        | nil => exact ⟨by cases t <;> trivial, by simp [hdrAt]⟩
        | cons k js => cases t <;> first | exact hj.elim | exact absurd rfl (hne _)
      · cases js with
        | nil => simp [ValidE] at hj
        | cons k js =>
          cases js with
          | nil =>
            refine ⟨?_, el_one _ _ _ _ _ _⟩
            have : k < List.length xs := by cases t <;> exact hj.2
            have h2 : k < (xs.set i z).length := by rw [List.length_set]; exact this
            cases t <;> exact ⟨hte0, h2⟩
          | cons l js => cases t <;> first | exact hj.elim | exact absurd rfl (hne _)
  | i :: j :: is, .sl t, N + 1, xs, hv, O, zs, b, off, hN, ⟨v, e1, h⟩, hOD, ⟨hi, hval⟩, hty, hp, hsh, hset => by
    obtain rfl : hv = v := by simpa using e1
    replace h := (OwnE.row rfl ⟨_, rfl, h⟩ : OwnRow w (Ty.sl t).size (List.length xs) (fun i us Oi => OwnE w D (.sl t) N (rd xs i) us Oi) hv O)
    rcases h with ⟨h0, _⟩ | ⟨b0, o0, cap, c, T, OO, rfl, hb, hn, hc, hm, hall, hOO, hnb, hdis⟩
    · omega
    obtain ⟨us, u1, u2, u3⟩ := hall i hi
    have u2 := u2 0 (by simp [Ty.size])
    simp only [Ty.size, Nat.mul_one, Nat.add_zero] at u1 u2
    obtain ⟨u, rfl⟩ : ∃ u, us = [u] := by match us, u1 with | [u], _ => exact ⟨u, rfl⟩
    simp only [List.getElem?_cons_zero] at u2
    have hcell : w.cell? ⟨b0, o0 + i, none⟩ = some u := by simp only [World.cell?, hb]; simpa using u2
    simp only [elPtr, hcell] at hp
    simp only [setAt] at hset
    split at hset
    case h_2 => cases hset
    rename_i z hz
    cases hset
    have hsub : ∀ k, OO i k → O k := fun k hk => (hOO k).2 (.inr ⟨i, hi, hk⟩)
    obtain ⟨cb, T', g1, g2, g3, g4⟩ := store_at p hy (j :: is) t N (rd xs i) u (OO i) z b off (by simp at hN ⊢; omega) u3 (fun k hk => hOD k (hsub k hk)) hval hty hp (hsh.imp_right fun h => by simp at h ⊢; omega) hz
    have hne0 : b0 ≠ b := fun e => hnb i hi (e ▸ g2)
    refine ⟨cb, T', g1, hsub b g2, g3, fun w' c' hw' hcs hout hin hoth => ?_⟩
    obtain ⟨k1, k2⟩ := g4 w' c' hw' hcs hout hin hoth
    have hD : Same D w w' := fun k hk => hoth k (fun e => hOD b (hsub b g2) (e ▸ hk))
    have hkOO : ∀ k, k < List.length xs → k ≠ i → ∀ x, OO k x → w'.heap[x]? = w.heap[x]? := fun k hk ek x hx => hoth x (fun e => ek (hdis k i b hk hi (e ▸ hx) g2))
    refine ⟨OwnE.mk rfl <| .inr ⟨b0, o0, cap, c, T, OO, by rw [List.length_set], (hoth b0 hne0).trans hb, by rw [List.length_set]; exact hn, hc, hm, fun k hk => ?_, fun x => by rw [List.length_set]; exact hOO x, fun k hk => hnb k (by rwa [List.length_set] at hk), fun k l x hk hl => hdis k l x (by rwa [List.length_set] at hk) (by rwa [List.length_set] at hl)⟩, fun hne => ?_⟩
    · rw [List.length_set] at hk
      by_cases ek : k = i
      · subst ek
        refine ⟨[u], rfl, fun j hj => ?_, ?_⟩
        · obtain rfl : j = 0 := by simpa [Ty.size] using hj
          simpa [Ty.size] using u2
        · show OwnE w' D (.sl t) N (rd (t := .sl t) (List.set xs k z) k) _ (OO k)
          rw [rd_set_same (t := .sl t) hi]; exact k1
      · obtain ⟨us', v1, v2, v3⟩ := hall k hk
        refine ⟨us', v1, v2, ?_⟩
        show OwnE w' D (.sl t) N (rd (t := .sl t) (List.set xs i z) k) _ (OO k)
        rw [rd_set_other (t := .sl t) ek]
        exact OwnE.mono (fun _ h => h) hD _ _ _ _ _ (hkOO k hk ek) v3
    · have Kp := k2 hne
      have cellk : ∀ k, k < List.length xs → ∃ uk, w.cell? ⟨b0, o0 + k, none⟩ = some uk ∧ w'.cell? ⟨b0, o0 + k, none⟩ = some uk ∧ OwnE w D (.sl t) N (rd (t := .sl t) xs k) [uk] (OO k) := by
        intro k hk
        obtain ⟨us', v1, v2, v3⟩ := hall k hk
        have v2 := v2 0 (by simp [Ty.size])
        simp only [Ty.size, Nat.mul_one, Nat.add_zero] at v1 v2
        obtain ⟨uk, rfl⟩ : ∃ u, us' = [u] := by match us', v1 with | [u], _ => exact ⟨u, rfl⟩
        simp only [List.getElem?_cons_zero] at v2
        have hc1 : w.cell? ⟨b0, o0 + k, none⟩ = some uk := by simp only [World.cell?, hb]; simpa using v2
        exact ⟨uk, hc1, by rw [cell?_same (hoth b0 hne0)]; exact hc1, v3⟩
      refine ⟨fun js hj => ?_, fun js q hj => ?_⟩
      · cases js with
        | nil => exact ⟨trivial, by simp [hdrAt]⟩
        | cons k js =>
          obtain ⟨hk, hj⟩ := hj
          obtain ⟨uk, c1, c2, c3⟩ := cellk k hk
          have hk' : k < (List.set xs i z).length := by rw [List.length_set]; exact hk
          simp only [hdrAt, c1, c2]
          by_cases ek : k = i
          · subst ek
            have : uk = u := by rw [hcell] at c1; exact (Option.some.inj c1).symm
            subst this
            obtain ⟨m1, m2⟩ := Kp.hdr js hj
            exact ⟨⟨hk', by rw [rd_set_same (t := .sl t) hi]; exact m1⟩, m2⟩
          · refine ⟨⟨hk', by rw [rd_set_other (t := .sl t) ek]; exact hj⟩, ?_⟩
            exact hdr_Own hD js t N _ uk (OO k) (hkOO k hk ek) c3 hj
      · cases js with
        | nil => simp [ValidE] at hj
        | cons k js =>
          cases js with
          | nil =>
            refine ⟨?_, el_one _ _ _ _ _ _⟩
            have h2 : k < (List.set xs i z).length := by rw [List.length_set]; exact hj.2
            exact ⟨rfl, h2⟩
          | cons l js =>
            obtain ⟨hk, hj⟩ := hj
            obtain ⟨uk, c1, c2, c3⟩ := cellk k hk
            have hk' : k < (List.set xs i z).length := by rw [List.length_set]; exact hk
            simp only [elPtr, c1, c2]
            by_cases ek : k = i
            · subst ek
              have : uk = u := by rw [hcell] at c1; exact (Option.some.inj c1).symm
              subst this
              obtain ⟨m1, m2⟩ := Kp.el (l :: js) q hj
              exact ⟨⟨hk', by rw [rd_set_same (t := .sl t) hi]; exact m1⟩, m2⟩
            · refine ⟨⟨hk', by rw [rd_set_other (t := .sl t) ek]; exact hj⟩, ?_⟩
              exact el_Own hD q (l :: js) t N _ uk (OO k) (hkOO k hk ek) c3 hj
  | i :: is, t, 0, xs, hv, O, zs, b, off, hN, _, _, _, _, _, _, _ => by simp at hN
  | _ :: _ :: _, .int _, _ + 1, _, _, _, _, _, _, _, _, _, hval, _, _, _, _ => hval.elim
  | _ :: _ :: _, .bool, _ + 1, _, _, _, _, _, _, _, _, _, hval, _, _, _, _ => hval.elim
  | _ :: _ :: _, .str, _ + 1, _, _, _, _, _, _, _, _, _, hval, _, _, _, _ => hval.elim
  | _ :: _ :: _, .unit, _ + 1, _, _, _, _, _, _, _, _, _, hval, _, _, _, _ => hval.elim
  | _ :: _ :: _, .pair _ _, _ + 1, _, _, _, _, _, _, _, _, _, hval, _, _, _, _ => hval.elim
  | _ :: _ :: _, .tree, _ + 1, _, _, _, _, _, _, _, _, _, hval, _, _, _, _ => hval.elim
  | _ :: _ :: _, .ent _ _, _ + 1, _, _, _, _, _, _, _, _, _, hval, _, _, _, _ => hval.elim
end Go.Proofs.YtpoppblfnaipbaaDoor.Eng
/-! ## The engine: stores into rows of the call's own; parts of their elements; cuts. -/
namespace Go.Proofs.YtpoppblfnaipbaaDoor.Eng
open Go
set_option autoImplicit false
set_option linter.unusedVariables false
set_option linter.unusedSimpArgs false

section
variable {P : Program} {B : Base} {D : Bs} {η : Nat → Gh} {O : Nat → Bs} {σ : St} {a : Act} {w : World} {o : Oper} {next : Act → World → Prop} {Q : Exit → Act → World → Prop} {R : Type} {r : R} {K : V → Heap → Option R}

theorem RelG.setRow (G : RelG B D η O σ a w) {dst : Option Nat} (hd : ∀ d, dst = some d → d < B.N) {q : Nat} {t : Ty} {n v v' : Nat} {xs zs : List t.den} {hd' : Value} (hq : look σ.h q = some (.row t n v false xs)) (hη : η q = .row hd') {w' : World} (hrow : OwnE w' D (.sl t) (n + 1) zs [hd'] (O q)) {b : Nat} (hb : O q b)
    (hoth : ∀ k, k ≠ b → w'.heap[k]? = w.heap[k]?) (hos : w'.os = w.os) (htape : w'.tape = w.tape) (hout : w'.output = w.output) (hsz : w'.heap.size = w.heap.size) (u : Heap) (hlk : look (u ++ σ.h) q = some (.row t n v' false zs)) (hother : ∀ r, r ≠ q → look (u ++ σ.h) r = look σ.h r)
    (hver : (fnd (u ++ σ.h) v').isSome) (hv' : v' = v ∨ fnd σ.h v' = none) (hk : v' = v → Kept w w' t xs zs hd') {val : V} {x : Value} (hval : Vr w' D η (u ++ σ.h) val x) : RelG B D η O (σ.after dst val u) (a.put dst x) w' := by
  have hDs : Same D w w' := fun k hk => hoth k (fun e => (G.olt q b hb).2 (e ▸ hk))
  have hOs : ∀ r, r ≠ q → Same (O r) w w' := fun r hr k hk => hoth k (fun e => hr (G.odis r q b (e ▸ hk) hb))
  have E : Evo w D η σ.h w' D η (u ++ σ.h) := G.evo (fun _ h => h) hDs (fun _ _ => rfl) (fun r hr => by
    by_cases e : r = q
    · subst e
      refine .row t n v false xs n v' false zs hq hlk hv' (fun hv he => ?_)
      rw [hη] at he; cases he
      refine ⟨fun is hc hval => ?_, fun hc is p hval => (hk hc).el is p hval⟩
      rcases hc with hc | hc
      · subst hc
        exact ⟨by cases t <;> trivial, by simp [hdrAt]⟩
      · exact (hk hc).hdr is hval
    · exact .same (hother r e) (hOs r e))
  refine G.go hd E hos htape hout (by omega) (fun k hk => hoth k (fun e => G.okeep q b hb (e ▸ hk))) G.okeep (fun k hk => by rw [hsz]; exact G.dlt k hk) (fun _ h => .inl h) (fun r k hk => by rw [hsz]; exact G.olt r k hk) G.odis ?_ hval
  intro r ob hr
  by_cases e : r = q
  · subst e
    rw [hlk] at hr; cases hr
    exact ⟨hd', hη, hrow, hver⟩
  · rw [hother r e] at hr
    exact (G.objs r ob hr).mono E (look_some_isSome hr) (hOs r e)
theorem partTy_sl {e t : Ty} {p : List Bool} (h : partTy (.sl e) p = some t) : p = [] ∧ t = .sl e := by
  cases p with
  | nil => exact ⟨rfl, by have : partTy (.sl e) [] = some (.sl e) := rfl
                          rw [this] at h; cases h; rfl⟩
  | cons b p => cases b <;> simp [partTy] at h
theorem Evo.trans' {w w1 w2 : World} {D D1 D2 : Bs} {η : Nat → Gh} {h h1 h2 : Heap} : True := trivial
/-- The store itself. -/
theorem RelG.storeRow (G : RelG B D η O σ a w) {A : Ann} {T : Nat} {t : Ty} {i : TypeInfo} {d : TypeDesc} (F : TyFacts P A T t i d) {dst : Option Nat} (hd : ∀ d, dst = some d → d < B.N) {q : Nat} {is : List Nat} {p : List Bool} {t0 : Ty} {n v v' : Nat} {xs zs : List t0.den} {ptr x : Value} {y : t.den} (hv : Vr w D η σ.h (.rp q is v p t) ptr)
    (hq : look σ.h q = some (.row t0 n v false xs)) (hy : Rz w D t y x.cells.toList) (hN : is.length ≤ n + 1) (hset : setAt t0 xs is p ⟨t, y⟩ = some zs) (u : Heap) (hlk : look (u ++ σ.h) q = some (.row t0 n v' false zs)) (hother : ∀ r, r ≠ q → look (u ++ σ.h) r = look σ.h r) (hver : (fnd (u ++ σ.h) v').isSome)
    (hc : ((∃ e, t = .sl e ∧ p = []) ∧ fnd σ.h v' = none ∧ n + 1 = is.length) ∨ (¬ (∃ e, t = .sl e ∧ p = []) ∧ v' = v)) :
    ∃ w' ad, ptr = .pointer (some ad) ∧ (storeVar T ad x).run P w = .ok () w' ∧ RelG B D η O (σ.after dst .un u) (a.put dst undef) w' := by
  obtain ⟨h1, h2, h3⟩ := vr_rp hv
  obtain ⟨hd', g1, g2, g3⟩ := G.objs q _ hq
  obtain ⟨k1, k2, k3⟩ := h3 _ _ _ _ _ hd' hq rfl g1
  obtain ⟨e, he, hpe⟩ : ∃ e, elTy t0 is = some e ∧ partTy e p = some t := by
    cases he : elTy t0 is with
    | none => rw [he] at k2; cases k2
    | some e => rw [he] at k2; exact ⟨e, rfl, k2⟩
  obtain ⟨c0, hc0⟩ := elem_some is t0 xs k1
  obtain ⟨b, off, us, Oi, m1, _⟩ := elem_at p is t0 _ xs hd' ptr (O q) c0 g2 k1 k3 hc0
  obtain ⟨off', rfl⟩ : ∃ off', ptr = .pointer (some ⟨b, off', none⟩) := ⟨_, m1⟩
  have hne : (∀ e', e ≠ .sl e') ∨ n + 1 = is.length := by
    rcases hc with ⟨_, _, h⟩ | ⟨h, _⟩
    · exact .inr h
    · refine .inl fun e' ee => h ?_
      subst ee
      obtain ⟨h4, h5⟩ := partTy_sl hpe
      exact ⟨e', h5, h4⟩
  obtain ⟨c, T', s1, s2, s3, s4⟩ := store_at p hy is t0 (n + 1) xs hd' (O q) zs b off' hN g2 (fun k hk => (G.olt q k hk).2) k1 he k3 hne hset
  have hsh := Rz.shape _ _ _ hy
  have hst := run_storeCells_at P b off' T' x.cells.toList 0 c w s1 (by rw [hsh.1]; omega) (fun v hv => (hsh.2 v hv).one)
  simp only [Nat.add_zero] at hst
  have hcl : c.toList.length = c.size := Array.length_toList
  have hsp := fun j => splice_get c.toList x.cells.toList off' (by rw [hsh.1]; omega) j
  rw [hsh.1] at hsp hst
  obtain ⟨f1, f2⟩ := s4 (w.setRow b (c.toList.take off' ++ x.cells.toList ++ c.toList.drop (off' + t.size)).toArray) _ (setRow_heap w b c _ T' _ s1) (by
      have hcl' : (List.take off' c.toList ++ x.cells.toList ++ List.drop (off' + t.size) c.toList).length = c.toList.length := by
        simp only [List.length_append, List.length_take, List.length_drop, hsh.1]; omega
      rw [List.size_toArray, hcl', hcl]) (fun k hk => by
      rw [List.getElem?_toArray, hsp k]
      by_cases e1 : k < off'
      · rw [if_pos e1]; simp
      · rw [if_neg e1, if_neg (by omega)]; simp) (fun j hj => by
      rw [List.getElem?_toArray, hsp (off' + j), if_neg (by omega), if_pos (by omega), Nat.add_sub_cancel_left]) (fun k hk => setRow_other w b k _ (by first | exact hk | exact fun e => hk e))
  refine ⟨_, ⟨b, off', none⟩, rfl, ?_, G.setRow hd hq g1 f1 s2 (fun k hk => setRow_other w b k _ (by first | exact hk | exact fun e => hk e)) rfl rfl rfl (by simp) u hlk hother hver ?_ ?_ (.un _)⟩
  · simp only [storeVar, Sem.run_bind, F.sizeOf, Result.andThen_ok]
    have hxs : x.cells.size = t.size := by rw [← hsh.1, Array.length_toList]
    rw [if_neg (by rw [hxs]; simp), hst]
  · rcases hc with ⟨_, h, _⟩ | ⟨_, h⟩
    · exact .inr h
    · exact .inl h
  · intro ev
    rcases hc with ⟨_, h, _⟩ | ⟨h, _⟩
    · rw [ev] at h
      rw [h] at g3; cases g3
    · exact f2 (fun e' ee => h (by subst ee; obtain ⟨h4, h5⟩ := partTy_sl hpe; exact ⟨e', h5, h4⟩))

theorem op_store_rp {A : Ann} (W : WF P A) (G : RelG B D η O σ a w) (hn : Post B σ a o.dst next K r) (hd : ∀ d, o.dst = some d → d < B.N) (T κ : Nat) (ad x : Operand) (ho : o.op = .store T ad x) {t : Ty} (ht : fnd A.ty T = some t) (h0 : 0 < t.size)
    {q : Nat} {is : List Nat} {p : List Bool} {t0 : Ty} {n v0 : Nat} {xs zs : List t0.den} (hb : σ.eval ad = .rp q is v0 p t) {y : t.den} {u : Heap} (hy : datum σ.h t (σ.eval x) = some (y, u)) (hq : look (u ++ σ.h) q = some (.row t0 n v0 false xs)) (hN : is.length ≤ n + 1) (hset : setAt t0 xs is p ⟨t, y⟩ = some zs)
    (h : (match (generalizing := false) t, p with
              | .sl _, [] => (match fresh σ.h κ with
                | true => K .un ((q, some (.row t0 (min n (is.length - 1)) κ false zs)) :: (κ, none) :: u)
                | false => none)
              | _, _ => K .un ((q, some (.row t0 n v0 false zs)) :: u)) = some r) : o.wp P a w next Q := by
  obtain ⟨i, d, F⟩ := W.facts ht
  have hv := G.eval ad
  rw [hb] at hv
  obtain ⟨D1, O1, G1, hD, hF, hR⟩ := datum_ok G (G.eval x) h0 hy
  have hv1 := hv.mono (hF.toFrzH.evo hD w η)
  have hst : (σ.after none .un u).h = u ++ σ.h := St.after_h _ _ _ _
  have hql : look (σ.after none .un u).h q = some (.row t0 n v0 false xs) := by rw [hst]; exact hq
  have hqs := look_some_isSome hql
  obtain ⟨hdq, gq1, gq2, gq3⟩ := G1.objs q _ hql
  have run : ∀ {w' : World} {ad' : Addr}, a.eval ad = .pointer (some ad') → (storeVar T ad' (a.eval x)).run P w = .ok () w' → (execOp a.eval o).run P w = .ok .skip w' := by
    intro w' ad' e1 e2
    simp only [execOp, ho, Instr.storeAt, Instr.sureAddr, e1, Sem.run_bind, Sem.run_pure, Result.andThen_ok, e2]
  by_cases hcase : ∃ e, t = .sl e ∧ p = []
  · obtain ⟨e, rfl, rfl⟩ := hcase
    simp only at h
    split at h
    case h_2 => cases h
    rename_i hκ
    have hκn := fresh_none hκ
    have hκ1 : fnd (u ++ σ.h) κ = none := hF.new κ hκn
    have hκq : κ ≠ q := fun e => by rw [← e, hst, hκ1] at hqs; cases hqs
    have his : 0 < is.length := by
      rcases is with _ | ⟨i, is⟩
      · simp [setAt] at hset
      · simp
    obtain ⟨D2, O2, G2, h1, h2, h3, E⟩ := G1.lower hql (min n (is.length - 1)) false (by simp only [dep]; omega)
    rw [hst] at E
    have hst2 : ((σ.after none .un u).after none .un [(q, some (.row t0 (min n (is.length - 1)) v0 false xs))]).h = (q, some (.row t0 (min n (is.length - 1)) v0 false xs)) :: (u ++ σ.h) := by rw [St.after_h, hst]; rfl
    have hlk2 : ∀ (ob : Ob) (hp : Heap), look ((q, some ob) :: hp) q = some ob := fun ob hp => by simp [look, fnd_cons]
    have hlk3 : ∀ (ob : Ob) (hp : Heap) r, r ≠ q → look ((q, some ob) :: hp) r = look hp r := fun ob hp r hr => by
      have := look_append_none (u := [(q, some ob)]) (h := hp) (r := r) (by rw [fnd_cons, if_neg (Ne.symm hr)]; rfl)
      exact this
    -- u2: what the step leaves, over the lowered state's own heap
    have hfin : ∀ (s : St), s.t = σ.t → s.h = (q, some (Ob.row t0 (min n (is.length - 1)) v0 false xs)) :: (u ++ σ.h) → ∀ w' : World, RelG B D2 η O2 (s.after o.dst .un [(q, some (.row t0 (min n (is.length - 1)) κ false zs)), (κ, none)]) (a.put o.dst undef) w' → Rel B (σ.after o.dst .un ((q, some (.row t0 (min n (is.length - 1)) κ false zs)) :: (κ, none) :: u)) (a.put o.dst undef) w' := by
      intro s hs1 hs2 w' Gf
      have hsh : (s.after o.dst .un [(q, some (.row t0 (min n (is.length - 1)) κ false zs)), (κ, none)]).h = [(q, some (.row t0 (min n (is.length - 1)) κ false zs)), (κ, none)] ++ ((q, some (Ob.row t0 (min n (is.length - 1)) v0 false xs)) :: (u ++ σ.h)) := by rw [St.after_h, hs2]
      have hsg : (σ.after o.dst .un ((q, some (.row t0 (min n (is.length - 1)) κ false zs)) :: (κ, none) :: u)).h = (q, some (.row t0 (min n (is.length - 1)) κ false zs)) :: (κ, none) :: (u ++ σ.h) := by rw [St.after_h]; rfl
      have hfe : ∀ r, fnd ([(q, some (Ob.row t0 (min n (is.length - 1)) κ false zs)), (κ, none)] ++ ((q, some (Ob.row t0 (min n (is.length - 1)) v0 false xs)) :: (u ++ σ.h))) r = fnd ((q, some (Ob.row t0 (min n (is.length - 1)) κ false zs)) :: (κ, none) :: (u ++ σ.h)) r := by
        intro r
        simp only [List.cons_append, List.nil_append, fnd_cons]
        by_cases e1 : q = r
        · simp [e1]
        · simp [e1]
      have hle : ∀ r, look ([(q, some (Ob.row t0 (min n (is.length - 1)) κ false zs)), (κ, none)] ++ ((q, some (Ob.row t0 (min n (is.length - 1)) v0 false xs)) :: (u ++ σ.h))) r = look ((q, some (Ob.row t0 (min n (is.length - 1)) κ false zs)) :: (κ, none) :: (u ++ σ.h)) r := by
        intro r; simp only [look, hfe r]
      have Ev : Evo w' D2 η ([(q, some (Ob.row t0 (min n (is.length - 1)) κ false zs)), (κ, none)] ++ ((q, some (Ob.row t0 (min n (is.length - 1)) v0 false xs)) :: (u ++ σ.h))) w' D2 η ((q, some (Ob.row t0 (min n (is.length - 1)) κ false zs)) :: (κ, none) :: (u ++ σ.h)) :=
        FrzH.evo ⟨fun r hr => by rw [← hfe r]; exact hr, fun r hr => by rw [← hfe r]; exact hr, fun r l hl => by rw [hle r]; exact hl, fun r t n v fz xs hl => ⟨n, fz, by rw [hle r]; exact hl⟩⟩ (fun _ h => h) w' η
      refine ⟨D2, η, O2, { Gf with objs := ?_, tmps := ?_, hb := fun i b h => ⟨by rw [hsg, ← hfe i, ← hsh]; exact (Gf.hb i b h).1, (Gf.hb i b h).2⟩ }⟩
      · intro r ob hr
        rw [hsg] at hr ⊢
        rw [← hle r] at hr
        have := Gf.objs r ob (by rw [hsh]; exact hr)
        rw [hsh] at this
        exact this.mono Ev (look_some_isSome hr) (Same.refl _ _)
      · intro j v hj
        rw [hsg]
        have hj' : fnd (s.after o.dst .un [(q, some (Ob.row t0 (min n (is.length - 1)) κ false zs)), (κ, none)]).t j = some v := by
          rw [St.after_t] at hj ⊢
          rw [hs1]; exact hj
        obtain ⟨t1, t2⟩ := Gf.tmps j v hj'
        rw [hsh] at t2
        exact ⟨t1, t2.mono Ev⟩
    obtain ⟨w', ad', e1, e2, Gf⟩ := G2.storeRow F (dst := o.dst) hd (v' := κ) (zs := zs) (by rw [St.after_h, hst]; exact hv1.mono E) (by rw [hst2]; exact hlk2 _ _) (Rz.mono h1 (Same.refl _ _) _ _ _ hR) (by omega) hset [(q, some (.row t0 (min n (is.length - 1)) κ false zs)), (κ, none)] (hlk2 _ _) (fun r hr => by
      rw [hst2]
      have e1 := hlk3 (.row t0 (min n (is.length - 1)) κ false zs) ((κ, none) :: ((q, some (.row t0 (min n (is.length - 1)) v0 false xs)) :: (u ++ σ.h))) r hr
      refine e1.trans ?_
      by_cases eκ : r = κ
      · subst eκ
        rw [hlk3 _ _ r hr]
        have : look (u ++ σ.h) r = none := by simp [look, hκ1]
        rw [this]; simp [look, fnd_cons]
      · exact look_append_none (u := [(κ, none)]) (by rw [fnd_cons, if_neg (Ne.symm eκ)]; rfl)) (by simp [fnd_cons, Ne.symm hκq]) (.inl ⟨⟨e, rfl, rfl⟩, by rw [hst2, fnd_cons, if_neg (Ne.symm hκq)]; exact hκ1, by omega⟩)
    exact wp_skip' hn h (hfin ((σ.after none .un u).after none .un [(q, some (.row t0 (min n (is.length - 1)) v0 false xs))]) rfl hst2 w' Gf) (run e1 e2)
  · have h' : K .un ((q, some (.row t0 n v0 false zs)) :: u) = some r := by
      split at h
      · exact absurd ⟨_, by first | rfl | assumption, by first | rfl | assumption⟩ hcase
      · exact h
    obtain ⟨w', ad', e1, e2, Gf⟩ := G1.storeRow F (dst := o.dst) hd (v' := v0) (zs := zs) (by rw [hst]; exact hv1) hql hR hN hset [(q, some (.row t0 n v0 false zs))] (by simp [look, fnd_cons]) (fun r hr => look_append_none (by rw [fnd_cons, if_neg (Ne.symm hr)]; rfl)) (fnd_isSome_append gq3) (.inr ⟨hcase, rfl⟩)
    rw [after_after] at Gf
    exact wp_skip' hn h' ⟨_, _, _, Gf⟩ (run e1 e2)
/-- A row that a whole row's name tells. -/
theorem RelG.whole (G : RelG B D η O σ a w) {q v : Nat} {t t0 : Ty} {z : Value} (hv : Vr w D η σ.h (.ref q [] v t) z) {n v0 : Nat} {xs : List t0.den} (hq : look σ.h q = some (.row t0 n v0 false xs)) : η q = .row z ∧ OwnE w D (.sl t0) (n + 1) xs [z] (O q) := by
  obtain ⟨hd, h1, h2, _⟩ := G.objs q _ hq
  cases hv with
  | ref _ _ _ _ _ hlf hr hv' hx =>
    obtain ⟨_, h4⟩ := hx t0 n v0 false xs hd hq (.inl rfl) h1
    have h4 : hd = z := by simpa [hdrAt] using h4
    subst h4
    exact ⟨h1, h2⟩
/-- A row of one's own goes over to a row of rows. -/
theorem op_store_own {A : Ann} (W : WF P A) (G : RelG B D η O σ a w) (hn : Post B σ a o.dst next K r) (hd : ∀ d, o.dst = some d → d < B.N) (T κ : Nat) (ad x : Operand) (ho : o.op = .store T ad x) (ht : fnd A.ty T = some (.sl (.int .i64)))
    {q i v0 : Nat} (hb : σ.eval ad = .rp q [i] v0 [] (.sl (.int .i64))) {u : Heap} (hs : storeOwn κ σ.h q i v0 (σ.eval x) = some u) (h : K .un u = some r) : o.wp P a w next Q := by
  unfold storeOwn at hs
  split at hs
  case h_2 => cases hs
  rename_i r2 v2 t2 hx
  split at hs
  case h_2 => cases hs
  rename_i n v1 xs m v3 ys hq hq2 hκ
  split at hs
  case h_2 => cases hs
  rename_i hv1 hn1
  cases hs
  obtain rfl := Nat.eq_of_beq_eq_true hv1
  have hn1 := Nat.le_of_ble_eq_true hn1
  obtain ⟨ti, td, F⟩ := W.facts ht
  have hv := G.eval ad
  rw [hb] at hv
  have hvx := G.eval x
  rw [hx] at hvx
  obtain ⟨e1, own2⟩ := G.whole hvx hq2
  have hlf : Leaf (a.eval x) := by
    generalize a.eval x = y at hvx
    cases hvx with
    | ref _ _ _ _ _ hlf _ _ _ => exact hlf
  obtain ⟨hd', g1, g2, g3⟩ := G.objs q _ hq
  obtain ⟨_, _, h3⟩ := vr_rp hv
  obtain ⟨k1, _, k3⟩ := h3 _ _ _ _ _ hd' hq rfl g1
  have hi : (Ty.sl (.int .i64)).isEnt = false ∧ i < List.length xs := k1
  have hi := hi.2
  obtain ⟨n, rfl⟩ : ∃ m, n = m + 1 := ⟨n - 1, by omega⟩
  rcases g2.row rfl with ⟨h0, _⟩ | ⟨b, off, cap, c, T', OO, rfl, hblk, hnc, hc, hl, hall, hOO, hnb, hdis⟩
  · omega
  have hone : (Ty.sl (.int .i64)).size = 1 := rfl
  rw [hone, Nat.mul_one] at hc
  have hptr : a.eval ad = .pointer (some ⟨b, off + i, none⟩) := by
    have : elPtr w [] (.slice (some ⟨b, off, none⟩) (List.length xs) cap) (.sl (.int .i64)) [i] = some (.pointer (some ⟨b, off + i * 1 + 0, none⟩)) := rfl
    rw [this] at k3
    simpa using k3.symm
  have hne : q ≠ r2 := fun e => by subst e; rw [hq] at hq2; cases hq2
  have hκn := fresh_none hκ
  have hκ1 : q ≠ κ := fun e => by have := look_some_isSome hq; rw [e, hκn] at this; cases this
  have hκ2 : r2 ≠ κ := fun e => by have := look_some_isSome hq2; rw [e, hκn] at this; cases this
  have hOb : O q b := (hOO b).2 (.inl rfl)
  have hcells : (a.eval x).cells = #[a.eval x] := hlf.cells
  have hst := run_storeCells_at P b (off + i) T' (a.eval x).cells.toList 0 c w hblk (by rw [hcells]; simp; omega) (fun v hv => by
    rw [hcells] at hv
    have e : v = a.eval x := by simpa using hv
    rw [e]; exact hlf.one)
  simp only [Nat.add_zero, hcells] at hst
  have hcl : c.toList.length = c.size := Array.length_toList
  have hsp := fun j => splice_get c.toList [a.eval x] (off + i) (by simp; omega) j
  generalize hw' : w.setRow b (c.toList.take (off + i) ++ [a.eval x] ++ c.toList.drop (off + i + [a.eval x].length)).toArray = w' at hst
  obtain ⟨c', hc'⟩ : ∃ c' : Array Value, c' = (c.toList.take (off + i) ++ [a.eval x] ++ c.toList.drop (off + i + [a.eval x].length)).toArray := ⟨_, rfl⟩
  rw [← hc'] at hw'
  have hblk' : w'.heap[b]? = some (.cells c' T' (0, 0)) := by rw [← hw']; exact setRow_heap w b c c' T' (0, 0) hblk
  have hoth : ∀ k, k ≠ b → w'.heap[k]? = w.heap[k]? := fun k hk => by rw [← hw']; exact setRow_other w b k _ (by first | exact hk | exact fun e => hk e)
  have hsz : w'.heap.size = w.heap.size := by rw [← hw']; simp
  have hsize : c'.size = c.size := by rw [hc']; simp; omega
  have hat : c'[off + i]? = some (a.eval x) := by
    rw [hc', List.getElem?_toArray, hsp (off + i), if_neg (by omega), if_pos (by simp)]; simp
  have hat2 : ∀ j, j ≠ off + i → c'[j]? = c[j]? := fun j hj => by
    rw [hc', List.getElem?_toArray, hsp j]
    by_cases h1 : j < off + i
    · rw [if_pos h1]; simp
    · rw [if_neg h1, if_neg (by simp; omega)]; simp
  have hD : Same D w w' := fun k hk => hoth k (fun e => (G.olt q b hOb).2 (e ▸ hk))
  have hO : ∀ k, k ≠ q → Same (O k) w w' := fun k hk y hy => hoth y (fun e => hk (G.odis k q b (e ▸ hy) hOb))
  let OO' : Nat → Bs := fun j y => (j = i ∧ O r2 y) ∨ (j ≠ i ∧ OO j y)
  let O' : Nat → Bs := fun k y => (k = q ∧ (y = b ∨ ∃ j, j < List.length xs ∧ OO' j y)) ∨ (k ≠ q ∧ k ≠ r2 ∧ O k y)
  have hsub : ∀ k y, O' k y → O k y ∨ (k = q ∧ O r2 y) := by
    rintro k y (⟨rfl, rfl | ⟨j, hj, ⟨_, h⟩ | ⟨_, h⟩⟩⟩ | ⟨_, _, h⟩)
    · exact .inl hOb
    · exact .inr ⟨rfl, h⟩
    · exact .inl ((hOO y).2 (.inr ⟨j, hj, h⟩))
    · exact .inl h
  have hno2 : ∀ k y, O' k y → k ≠ q → k ≠ r2 ∧ O k y := by
    rintro k y (⟨rfl, _⟩ | ⟨_, h1, h2⟩) hk
    · exact absurd rfl hk
    · exact ⟨h1, h2⟩
  have hlk : look ([(q, some (Ob.row (.sl (.int .i64)) (n + 1) κ false (List.set xs i ys))), (κ, none), (r2, none)] ++ σ.h) q = some (.row (.sl (.int .i64)) (n + 1) κ false (List.set xs i ys)) := by simp [look, fnd_cons]
  have hlk2 : look ([(q, some (Ob.row (.sl (.int .i64)) (n + 1) κ false (List.set xs i ys))), (κ, none), (r2, none)] ++ σ.h) r2 = none := by simp [look, fnd_cons, hne, Ne.symm hκ2]
  have hlk3 : ∀ k, k ≠ q → k ≠ r2 → look ([(q, some (Ob.row (.sl (.int .i64)) (n + 1) κ false (List.set xs i ys))), (κ, none), (r2, none)] ++ σ.h) k = look σ.h k := fun k h1 h2 => by
    by_cases hk : κ = k
    · subst hk; simp [look, fnd_cons, hκ1, hκn]
    · simp [look, fnd_cons, Ne.symm h1, Ne.symm h2, hk]
  have hver : (fnd ([(q, some (Ob.row (.sl (.int .i64)) (n + 1) κ false (List.set xs i ys))), (κ, none), (r2, none)] ++ σ.h) κ).isSome := by simp [fnd_cons, hκ1]
  have hvne : κ ≠ v0 := fun e => by rw [← e, hκn] at g3; cases g3
  have hE : Evo w D η σ.h w' D η ([(q, some (Ob.row (.sl (.int .i64)) (n + 1) κ false (List.set xs i ys))), (κ, none), (r2, none)] ++ σ.h) := G.evo (fun _ h => h) hD (fun _ _ => rfl) (fun k hk => by
    by_cases h1 : k = q
    · subst h1
      refine .row (.sl (.int .i64)) (n + 1) v0 false xs (n + 1) κ false (List.set xs i ys) hq hlk (.inr hκn) (fun hv' he => ⟨fun is hc hval => ?_, fun hc => absurd hc hvne⟩)
      rcases hc with rfl | hc
      · exact ⟨trivial, by simp [hdrAt]⟩
      · exact absurd hc hvne
    · by_cases h2 : k = r2
      · subst h2; exact .gone hlk2
      · exact .same (hlk3 k h1 h2) (hO k h1))
  have hlen : List.length (List.set xs i ys) = List.length xs := List.length_set
  refine wp_skip' hn h ⟨D, η, O', G.go hd hE (by rw [← hw']; rfl) (by rw [← hw']; rfl) (by rw [← hw']; rfl) (by omega) (fun k hk => hoth k (fun e => G.okeep q b hOb (e ▸ hk))) (fun k y hy => ?_) (fun k hk => by rw [hsz]; exact G.dlt k hk) (fun _ h => .inl h) (fun k y hy => ?_) (fun k k' y hy hy' => ?_) (fun k ob hk => ?_) (.un _)⟩ ?_
  · rcases hsub k y hy with h | ⟨_, h⟩
    · exact G.okeep k y h
    · exact G.okeep r2 y h
  · rw [hsz]
    rcases hsub k y hy with h | ⟨_, h⟩
    · exact G.olt k y h
    · exact G.olt r2 y h
  · by_cases h1 : k = q
    · by_cases h2 : k' = q
      · rw [h1, h2]
      · obtain ⟨h3, h4⟩ := hno2 k' y hy' h2
        rcases hsub k y hy with h | ⟨_, h⟩
        · rw [h1]; rw [h1] at h; exact absurd (G.odis q k' y h h4).symm h2
        · exact absurd (G.odis r2 k' y h h4).symm h3
    · obtain ⟨h3, h4⟩ := hno2 k y hy h1
      by_cases h2 : k' = q
      · rcases hsub k' y hy' with h | ⟨_, h⟩
        · exact absurd ((G.odis k k' y h4 h).trans h2) h1
        · exact absurd (G.odis k r2 y h4 h) h3
      · exact G.odis k k' y h4 (hno2 k' y hy' h2).2
  · by_cases h1 : k = q
    · subst h1
      rw [hlk] at hk; cases hk
      refine ⟨_, g1, OwnE.mk rfl (.inr ⟨b, off, cap, c', T', OO', by rw [hlen], hblk', by rw [hlen]; exact hnc, by rw [hone, Nat.mul_one]; omega, hl, fun j hj => ?_, fun y => ?_, fun j hj hy => ?_, fun j j' y hj hj' hy hy' => ?_⟩), hver⟩
      · rw [hlen] at hj
        by_cases e : j = i
        · subst e
          have e2 : rd (t := .sl (.int .i64)) (List.set xs j ys) j = ys := by simp [rd, List.getD, hj]
          refine ⟨[a.eval x], rfl, fun j' hj' => ?_, ?_⟩
          · rw [hone] at hj' ⊢
            obtain rfl : j' = 0 := by omega
            rw [Nat.mul_one, Nat.add_zero]; exact hat
          · show OwnE w' D (.sl (.int .i64)) (n + 1) (rd (t := .sl (.int .i64)) (List.set xs j ys) j) _ _
            rw [e2]
            have eO : OO' j = O r2 := by
              funext y
              exact propext ⟨fun h => h.elim (fun h => h.2) (fun h => absurd rfl h.1), fun h => .inl ⟨rfl, h⟩⟩
            rw [eO]
            have := OwnE.mono (fun _ h => h) hD _ _ _ _ _ (hO r2 (Ne.symm hne)) own2
            obtain ⟨z, ez, hz⟩ := this
            refine ⟨z, ez, hz.imp (fun hz => ⟨hz.1, OwnRow.mono (fun _ _ => rfl) (fun i us Oi _ _ hp => ?_) hz.2⟩) id⟩
            exact (OwnE.other (fun _ => by simp)).2 ((OwnE.other (fun _ => by simp)).1 hp)
        · obtain ⟨us, l1, l2, l3⟩ := hall j hj
          have e2 : rd (t := .sl (.int .i64)) (List.set xs i ys) j = rd (t := .sl (.int .i64)) xs j := by simp [rd, List.getD, List.getElem?_set_ne (Ne.symm e)]
          refine ⟨us, l1, fun j' hj' => ?_, ?_⟩
          · rw [← l2 j' hj']
            rw [hone] at hj' ⊢
            exact hat2 _ (by omega)
          · show OwnE w' D (.sl (.int .i64)) (n + 1) (rd (t := .sl (.int .i64)) (List.set xs i ys) j) _ _
            rw [e2]
            have eO : OO' j = OO j := by
              funext y
              exact propext ⟨fun h => h.elim (fun h => absurd h.1 e) (fun h => h.2), fun h => .inr ⟨e, h⟩⟩
            rw [eO]
            exact OwnE.mono (fun _ h => h) hD _ _ _ _ _ (fun y hy => hoth y (fun e => hnb j hj (e ▸ hy))) l3
      · rw [hlen]
        constructor
        · rintro (⟨_, h⟩ | ⟨h, _⟩)
          · exact h
          · exact absurd rfl h
        · exact fun h => .inl ⟨rfl, h⟩
      · rcases hy with ⟨_, h⟩ | ⟨_, h⟩
        · exact hne (G.odis _ _ b hOb h)
        · exact hnb j (by rw [hlen] at hj; exact hj) h
      · rw [hlen] at hj hj'
        rcases hy with ⟨e1, h1⟩ | ⟨e1, h1⟩ <;> rcases hy' with ⟨e2, h2⟩ | ⟨e2, h2⟩
        · rw [e1, e2]
        · exact absurd (G.odis _ _ y ((hOO y).2 (.inr ⟨j', hj', h2⟩)) h1) hne
        · exact absurd (G.odis _ _ y ((hOO y).2 (.inr ⟨j, hj, h1⟩)) h2) hne
        · exact hdis j j' y hj hj' h1 h2
    · by_cases h2 : k = r2
      · subst h2; rw [hlk2] at hk; cases hk
      · rw [hlk3 k h1 h2] at hk
        have eO : O' k = O k := by
          funext y
          exact propext ⟨fun h => h.elim (fun h => absurd h.1 h1) (fun h => h.2.2), fun h => .inr ⟨h1, h2, h⟩⟩
        rw [eO]
        exact (G.objs k ob hk).mono hE (look_some_isSome hk) (hO k h1)
  · simp only [execOp, ho, Instr.storeAt, Instr.sureAddr, hptr, Sem.run_bind, Sem.run_pure, Result.andThen_ok, storeVar, F.sizeOf]
    rw [if_neg (by rw [hcells]; simp [Ty.size]), hcells, hst]
    rfl
end
end Go.Proofs.YtpoppblfnaipbaaDoor.Eng
/-! ## The engine: parts of elements, cuts of rows, structs that are built. -/
namespace Go.Proofs.YtpoppblfnaipbaaDoor.Eng
open Go
set_option autoImplicit false
set_option linter.unusedVariables false
set_option linter.unusedSimpArgs false

section
variable {P : Program} {B : Base} {D : Bs} {η : Nat → Gh} {O : Nat → Bs} {σ : St} {a : Act} {w : World} {o : Oper} {next : Act → World → Prop} {Q : Exit → Act → World → Prop} {R : Type} {r : R} {K : V → Heap → Option R}

theorem partTy_nil (t : Ty) : partTy t [] = some t := by cases t <;> rfl
theorem offs_nil (t : Ty) : offs t [] = 0 := by cases t <;> rfl
theorem partTy_append : ∀ (q : List Bool) (e t s : Ty) (p : List Bool), partTy e q = some t → partTy t p = some s → partTy e (q ++ p) = some s ∧ offs e (q ++ p) = offs e q + offs t p
  | [], e, t, s, p, h1, h2 => by
    rw [partTy_nil] at h1; cases h1
    exact ⟨h2, by rw [offs_nil]; simp⟩
  | false :: q, .pair a b, t, s, p, h1, h2 => by
    obtain ⟨g1, g2⟩ := partTy_append q a t s p h1 h2
    exact ⟨g1, g2⟩
  | true :: q, .pair a b, t, s, p, h1, h2 => by
    obtain ⟨g1, g2⟩ := partTy_append q b t s p h1 h2
    exact ⟨g1, by simp only [List.cons_append, offs]; omega⟩
  | [false], .tree, t, s, p, h1, h2 => by
    cases h1
    cases p with
    | nil => exact ⟨h2, by simp [offs]⟩
    | cons b p => cases b <;> simp [partTy] at h2
  | [true, false], .tree, t, s, p, h1, h2 => by
    cases h1
    cases p with
    | nil => exact ⟨h2, by simp [offs]⟩
    | cons b p => cases b <;> simp [partTy] at h2
  | [true, true], .tree, t, s, p, h1, h2 => by
    cases h1
    cases p with
    | nil => exact ⟨h2, by simp [offs, Ty.kids]⟩
    | cons b p => cases b <;> simp [partTy, Ty.kids] at h2
  | [true], .tree, _, _, _, h1, _ => by simp [partTy] at h1
  | false :: _ :: _, .tree, _, _, _, h1, _ => by simp [partTy] at h1
  | true :: false :: _ :: _, .tree, _, _, _, h1, _ => by simp [partTy] at h1
  | true :: true :: _ :: _, .tree, _, _, _, h1, _ => by simp [partTy] at h1
  | _ :: _, .int _, _, _, _, h1, _ => by simp [partTy] at h1
  | _ :: _, .bool, _, _, _, h1, _ => by simp [partTy] at h1
  | _ :: _, .str, _, _, _, h1, _ => by simp [partTy] at h1
  | _ :: _, .unit, _, _, _, h1, _ => by simp [partTy] at h1
  | _ :: _, .sl _, _, _, _, h1, _ => by simp [partTy] at h1
theorem elPtr_shift {w : World} {q : List Bool} {e : Ty} : ∀ (is : List Nat) (t : Ty) (hv : Value) (x : Value), elTy t is = some e → elPtr w q hv t is = some x → ∃ b off, x = .pointer (some ⟨b, off + offs e q, none⟩) ∧ ∀ q', elPtr w q' hv t is = some (.pointer (some ⟨b, off + offs e q', none⟩))
  | [], t, hv, x, h, _ => by cases t <;> simp [elTy] at h
  | [i], t, hv, x, h, hp => by
    have e0 : t = e := by cases t <;> simpa [elTy] using h
    subst e0
    obtain ⟨ad, l, c, rfl⟩ : ∃ ad l c, hv = .slice (some ad) l c := by
      cases hv with
      | slice a l c => cases a with
        | none => cases t <;> simp [elPtr] at hp
        | some ad => exact ⟨ad, l, c, rfl⟩
      | _ => cases t <;> simp [elPtr] at hp
    refine ⟨ad.block, ad.off + i * t.size, ?_, fun q' => by cases t <;> rfl⟩
    have : elPtr w q (.slice (some ad) l c) t [i] = some (.pointer (some ⟨ad.block, ad.off + i * t.size + offs t q, none⟩)) := by cases t <;> rfl
    rw [this] at hp; exact (Option.some.inj hp).symm
  | i :: j :: is, .sl t, hv, x, h, hp => by
    obtain ⟨ad, l, c, rfl⟩ : ∃ ad l c, hv = .slice (some ad) l c := by
      cases hv with
      | slice a l c => cases a with
        | none => simp [elPtr] at hp
        | some ad => exact ⟨ad, l, c, rfl⟩
      | _ => simp [elPtr] at hp
    have key : ∀ (v : Value), w.cell? ⟨ad.block, ad.off + i, none⟩ = some v → ∀ q', elPtr w q' (.slice (some ad) l c) (.sl t) (i :: j :: is) = elPtr w q' v t (j :: is) := fun v hc q' => by simp only [elPtr, hc]
    cases hc : w.cell? ⟨ad.block, ad.off + i, none⟩ with
    | none => simp [elPtr, hc] at hp
    | some v =>
      rw [key v hc] at hp
      obtain ⟨b, off, h1, h2⟩ := elPtr_shift (j :: is) t v x h hp
      exact ⟨b, off, h1, fun q' => (key v hc q').trans (h2 q')⟩
theorem liveV_row {h : Heap} {r v : Nat} (H : liveV h r v = true) : ∃ t n fz, ∃ xs : List (Ty.den t), look h r = some (.row t n v fz xs) := by
  unfold liveV at H
  split at H
  · rename_i t n v0 fz xs hl
    obtain rfl := Nat.eq_of_beq_eq_true H
    exact ⟨t, n, fz, xs, hl⟩
  · cases H
theorem liveB_box {h : Heap} {r : Nat} (H : liveB h r = true) : ∃ l, look h r = some (.box l) := by
  unfold liveB at H
  split at H
  · rename_i l hl; exact ⟨l, hl⟩
  · cases H
theorem op_fieldAddr_rp {A : Ann} (W : WF P A) (G : RelG B D η O σ a w) (hn : Post B σ a o.dst next K r) (hd : ∀ d, o.dst = some d → d < B.N) (T f : Nat) (x : Operand) (ho : o.op = .fieldAddr T x f) {c : Nat} {p : List Bool} (hf : fieldAt P T f = some (c, p))
    {q : Nat} {is : List Nat} {v : Nat} {pp : List Bool} {t : Ty} (hx : σ.eval x = .rp q is v pp t) (ht : isTy A T t = true) (hl : liveV σ.h q v = true) {z : C} (hz : part t t.dflt p = some z) (h : K (.rp q is v (pp ++ p) z.t) [] = some r) : o.wp P a w next Q := by
  have hv := G.eval x
  rw [hx] at hv
  obtain ⟨h1, h2, h3⟩ := vr_rp hv
  obtain ⟨t0, n, fz, xs, hq⟩ := liveV_row hl
  obtain ⟨hdr, g1, g2⟩ := G.row hq
  obtain ⟨k1, k2, k3⟩ := h3 _ _ _ _ _ hdr hq rfl g1
  obtain ⟨e, he, hpe⟩ : ∃ e, elTy t0 is = some e ∧ partTy e pp = some t := by
    cases he : elTy t0 is with
    | none => rw [he] at k2; cases k2
    | some e => rw [he] at k2; exact ⟨e, rfl, k2⟩
  obtain ⟨b, off, hxe, hsh⟩ := elPtr_shift is t0 hdr _ he k3
  obtain ⟨m1, m2⟩ := partTy_append pp e t z.t p hpe (part_ty p t _ z hz)
  have hF := fieldAt_f hf
  have hoff := hF.offs W ht
  refine wp_pure hn G hd h (x := .pointer (some ⟨b, off + offs e pp + c, none⟩)) (.rp q is v _ _ _ Leaf.pointer h1 h2 (fun t1 n1 v1 fz1 xs1 hd1 hl1 _ he1 => ?_)) ?_
  · rw [hq] at hl1; cases hl1
    rw [g1] at he1; cases he1
    refine ⟨k1, by rw [he]; exact m1, ?_⟩
    rw [hsh, m2, hoff, Nat.add_assoc]
  · simp only [execOp, ho, hxe, Sem.run_bind, hF.run, Result.andThen_ok, Sem.run_pure]
theorem op_nilCheck_rp (G : RelG B D η O σ a w) (hn : Post B σ a o.dst next K r) (hd : ∀ d, o.dst = some d → d < B.N) (x : Operand) (ho : o.op = .nilCheck x) {q : Nat} {is : List Nat} {v : Nat} {pp : List Bool} {t : Ty} (hx : σ.eval x = .rp q is v pp t) (hl : liveV σ.h q v = true) (h : K (.rp q is v pp t) [] = some r) : o.wp P a w next Q := by
  have hv := G.eval x
  rw [hx] at hv
  obtain ⟨h1, h2, h3⟩ := vr_rp hv
  obtain ⟨t0, n, fz, xs, hq⟩ := liveV_row hl
  obtain ⟨hdr, g1, g2⟩ := G.row hq
  obtain ⟨k1, k2, k3⟩ := h3 _ _ _ _ _ hdr hq rfl g1
  cases he : elTy t0 is with
  | none => rw [he] at k2; cases k2
  | some e =>
    obtain ⟨b, off, hxe, hsh⟩ := elPtr_shift is t0 hdr _ he k3
    refine wp_pure hn G hd h hv ?_
    simp only [execOp, ho, hxe, Sem.run_pure]
theorem op_slice_ref {A : Ann} (W : WF P A) (G : RelG B D η O σ a w) (hn : Post B σ a o.dst next K r) (hd : ∀ d, o.dst = some d → d < B.N) (T : Nat) (x : Operand) (lo hi : Option Operand) (ho : o.op = .slice T x lo hi none) {t : Ty} (hT : isSl A T t = true) {xs : List t.den} {u : Heap} (hb : leafD σ.h (.sl t) (σ.eval x) = some (xs, u))
    (h : (lowV (lo.map σ.eval) fun a => highV (hi.map σ.eval) (List.length xs) fun b => ifE (0 ≤ a) (ifE (a ≤ b) (ifE (b ≤ ((List.length xs : Nat) : Int)) (K (.d (.sl t) ((List.take b.toNat xs).drop a.toNat)) u) none) none) none) = some r) : o.wp P a w next Q := by
  obtain ⟨D', O', G', hD, hF, hz⟩ := leafD_ok G (G.eval x) hb
  obtain ⟨ad, cap, h1, hc, _⟩ := (Rz.sl (isSl_of hT).2).1 hz
  have h1 : a.eval x = .slice ad (List.length xs) cap := by simpa using h1
  obtain ⟨D2, O2, G2, hD2, hF2, hz⟩ := leafD_ok G (G.eval x) hb
  rw [h1] at hz
  obtain ⟨za, h, hlo⟩ := low_some h
  obtain ⟨zb, h, hhi⟩ := high_some h
  obtain ⟨h2, h⟩ := ifE_some h
  obtain ⟨h3, h⟩ := ifE_some h
  obtain ⟨h4, h⟩ := ifE_some h
  have hR := G2.val (dst := o.dst) hd (v := .d (.sl t) ((List.take zb.toNat xs).drop za.toNat)) (.d _ _ _ rfl (slice_Rz hz (by omega) (by omega)))
  rw [after_after] at hR
  refine wp_value hn h ⟨_, _, _, hR⟩ ?_
  simp only [execOp, ho, h1, Option.map_none, Sem.run_bind, slice_run W hT ad _ cap _ _ za zb h2 h3 h4 hc (bound_val G hlo) (bound_val G hhi), Result.andThen_ok, Sem.run_pure]

/-- A row of the call's own, cut at its beginning: it stays the call's own. -/
theorem op_slice_mv {A : Ann} (W : WF P A) (G : RelG B D η O σ a w) (hn : Post B σ a o.dst next K r) (hd : ∀ d, o.dst = some d → d < B.N) (T : Nat) {κ : Nat} (x : Operand) (lo : Option Operand) (ho : o.op = .slice T x lo none none) {t : Ty} (hT : isSl A T t = true) {xs : List t.den} {n : Nat} {u : Heap} (hb : baseV σ.h t (σ.eval x) = some (xs, n, u)) (hκ : fresh σ.h κ = true)
    (h : (lowV (lo.map σ.eval) fun a => ifE (0 ≤ a) (ifE (a ≤ ((List.length xs : Nat) : Int)) (K (.ref κ [] κ t) ((κ, some (.row t n κ false (List.drop a.toNat xs))) :: u)) none) none) = some r) : o.wp P a w next Q := by
  have hte := (isSl_of hT).2
  obtain ⟨Ox, G1, F1, hrow, hOx⟩ := baseV_ok G (G.eval x) hb
  obtain ⟨za, h, hlo⟩ := low_some h
  obtain ⟨h2, h⟩ := ifE_some h
  obtain ⟨h3, h⟩ := ifE_some h
  obtain ⟨m, rfl⟩ : ∃ m : Nat, za = m := ⟨za.toNat, by omega⟩
  rw [Int.toNat_natCast] at h
  have hm : m ≤ List.length xs := by omega
  have hdl : List.length (List.drop m xs) = List.length xs - m := List.length_drop
  have hrd : ∀ i, rd (t := t) (List.drop m xs) i = rd (t := t) xs (i + m) := fun i => by simp only [rd, List.getD, List.getElem?_drop, Nat.add_comm m i]
  have key : ∃ ad cap, a.eval x = .slice ad (List.length xs) cap ∧ List.length xs ≤ cap ∧ ∃ Oκ, OwnE w D (.sl t) (n + 1) (List.drop m xs) [.slice (if cap = m then ad else ad.map (·.add (m * t.size))) (List.length xs - m) (cap - m)] Oκ ∧ ∀ b, Oκ b → Ox b := by
    rcases hrow.row hte with ⟨h0, e, _⟩ | ⟨b, off, cap, c, T', OO, e, hbk, hnc, hc, hmx, hall, hOO, hnb, hdis⟩
    · obtain rfl : m = 0 := by omega
      refine ⟨none, 0, by rw [h0]; exact e, by omega, fun _ => False, OwnE.mk hte (.inl ⟨by rw [hdl, h0], ?_, fun _ h => h⟩), fun _ h => h.elim⟩
      rw [h0]; rfl
    · have hsz : m * t.size ≤ cap * t.size := Nat.mul_le_mul_right _ (by omega)
      have hsub : (cap - m) * t.size = cap * t.size - m * t.size := Nat.sub_mul _ _ _
      refine ⟨_, cap, e, hnc, fun y => y = b ∨ ∃ i, i < List.length xs - m ∧ OO (i + m) y, OwnE.mk hte (.inr ⟨b, if cap = m then off else off + m * t.size, cap - m, c, T', fun i => OO (i + m), ?_, hbk, by rw [hdl]; omega, ?_, by omega, fun i hi => ?_, fun y => by rw [hdl], fun i hi => hnb (i + m) (by rw [hdl] at hi; omega), fun i j y hi hj h1 h2 => ?_⟩), fun y hy => ?_⟩
      · rw [hdl]
        split
        · rfl
        · rw [Option.map_some, add_none]
      · split
        · rename_i ec
          rw [ec, Nat.sub_self, Nat.zero_mul]; omega
        · rw [hsub]; omega
      · rw [hdl] at hi
        obtain ⟨us, g1, g2, g3⟩ := hall (i + m) (by omega)
        refine ⟨us, g1, fun j hj => ?_, by show OwnE w D t n (rd (t := t) (List.drop m xs) i) us (OO (i + m)); rw [hrd]; exact g3⟩
        rw [if_neg (by omega), ← g2 j hj]
        congr 1
        rw [Nat.add_mul]; omega
      · rw [hdl] at hi hj
        have := hdis (i + m) (j + m) y (by omega) (by omega) h1 h2
        omega
      · rcases hy with rfl | ⟨i, hi, hy⟩
        · exact (hOO y).2 (.inl rfl)
        · exact (hOO y).2 (.inr ⟨i + m, by omega, hy⟩)
  obtain ⟨ad, cap, hx, hc, Oκ, hown, hOκ⟩ := key
  have hκ2 : fresh (σ.after none .un u).h κ = true := by
    unfold fresh; rw [St.after_h, F1.new κ (fresh_none hκ)]
  have hR := G1.newRow (κ := κ) (dst := o.dst) hκ2 hd (t := t) (n := n) (xs := List.drop m xs) (w' := w) (fun r => look (σ.after none .un u).h r = none) (fun r h => h) Oκ hown (fun b hb => by
    obtain ⟨q, q1, _, q3⟩ := hOx b (hOκ b hb)
    exact .inr ⟨q, by rw [St.after_h]; exact q1, q3⟩) rfl rfl rfl (Nat.le_refl _) (fun _ _ _ => rfl)
  rw [after_after] at hR
  refine wp_value hn h hR ?_
  simp only [execOp, ho, hx, Option.map_none, Sem.run_bind, slice_run W hT ad _ cap _ none (m : Int) ((List.length xs : Nat) : Int) h2 h3 (Int.le_refl _) hc (bound_val G hlo) (.inl ⟨rfl, rfl⟩), Result.andThen_ok, Sem.run_pure, Int.toNat_natCast]

theorem op_slice_mvh {A : Ann} (W : WF P A) (G : RelG B D η O σ a w) (hn : Post B σ a o.dst next K r) (hd : ∀ d, o.dst = some d → d < B.N) (T : Nat) {κ : Nat} (x y : Operand) (lo : Option Operand) (ho : o.op = .slice T x lo (some y) none) {t : Ty} (hT : isSl A T t = true) {xs : List t.den} {n : Nat} {u : Heap} (hb : baseV σ.h t (σ.eval x) = some (xs, n, u)) (hκ : fresh σ.h κ = true)
    (h : (lowV (lo.map σ.eval) fun a => highV (some (σ.eval y)) (List.length xs) fun b => ifE (0 ≤ a) (ifE (a ≤ b) (ifE (b ≤ ((List.length xs : Nat) : Int)) (K (.ref κ [] κ t) ((κ, some (.row t n κ false (List.drop a.toNat (List.take b.toNat xs)))) :: u)) none) none) none) = some r) : o.wp P a w next Q := by
  have hte := (isSl_of hT).2
  obtain ⟨Ox, G1, F1, hrow, hOx⟩ := baseV_ok G (G.eval x) hb
  obtain ⟨za, h, hlo⟩ := low_some h
  obtain ⟨zb, h, hhi⟩ := high_some h
  obtain ⟨h2, h⟩ := ifE_some h
  obtain ⟨h3, h⟩ := ifE_some h
  obtain ⟨h4, h⟩ := ifE_some h
  obtain ⟨m, rfl⟩ : ∃ m : Nat, za = m := ⟨za.toNat, by omega⟩
  obtain ⟨e', rfl⟩ : ∃ m : Nat, zb = m := ⟨zb.toNat, by omega⟩
  rw [Int.toNat_natCast, Int.toNat_natCast] at h
  have hm : m ≤ e' := by omega
  have he' : e' ≤ List.length xs := by omega
  have hdl : List.length (List.drop m (List.take e' xs)) = e' - m := by rw [List.length_drop, List.length_take]; omega
  have hrd : ∀ i, i < e' - m → rd (t := t) (List.drop m (List.take e' xs)) i = rd (t := t) xs (i + m) := fun i hi => by simp only [rd, List.getD, List.getElem?_drop, Nat.add_comm m i]; rw [List.getElem?_take_of_lt (by omega)]
  have key : ∃ ad cap, a.eval x = .slice ad (List.length xs) cap ∧ List.length xs ≤ cap ∧ ∃ Oκ, OwnE w D (.sl t) (n + 1) (List.drop m (List.take e' xs)) [.slice (if cap = m then ad else ad.map (·.add (m * t.size))) (e' - m) (cap - m)] Oκ ∧ ∀ b, Oκ b → Ox b := by
    rcases hrow.row hte with ⟨h0, e, _⟩ | ⟨b, off, cap, c, T', OO, e, hbk, hnc, hc, hmx, hall, hOO, hnb, hdis⟩
    · obtain rfl : m = 0 := by omega
      obtain rfl : e' = 0 := by omega
      refine ⟨none, 0, by rw [h0]; exact e, by omega, fun _ => False, OwnE.mk hte (.inl ⟨by rw [hdl], ?_, fun _ h => h⟩), fun _ h => h.elim⟩
      rfl
    · have hsz : m * t.size ≤ cap * t.size := Nat.mul_le_mul_right _ (by omega)
      have hsub : (cap - m) * t.size = cap * t.size - m * t.size := Nat.sub_mul _ _ _
      refine ⟨_, cap, e, hnc, fun y => y = b ∨ ∃ i, i < e' - m ∧ OO (i + m) y, OwnE.mk hte (.inr ⟨b, if cap = m then off else off + m * t.size, cap - m, c, T', fun i => OO (i + m), ?_, hbk, by rw [hdl]; omega, ?_, by omega, fun i hi => ?_, fun y => by rw [hdl], fun i hi => hnb (i + m) (by rw [hdl] at hi; omega), fun i j y hi hj h1 h2 => ?_⟩), fun y hy => ?_⟩
      · rw [hdl]
        split
        · rfl
        · rw [Option.map_some, add_none]
      · split
        · rename_i ec
          rw [ec, Nat.sub_self, Nat.zero_mul]; omega
        · rw [hsub]; omega
      · rw [hdl] at hi
        obtain ⟨us, g1, g2, g3⟩ := hall (i + m) (by omega)
        refine ⟨us, g1, fun j hj => ?_, by show OwnE w D t n (rd (t := t) (List.drop m (List.take e' xs)) i) us (OO (i + m)); rw [hrd i hi]; exact g3⟩
        rw [if_neg (by omega), ← g2 j hj]
        congr 1
        rw [Nat.add_mul]; omega
      · rw [hdl] at hi hj
        have := hdis (i + m) (j + m) y (by omega) (by omega) h1 h2
        omega
      · rcases hy with rfl | ⟨i, hi, hy⟩
        · exact (hOO y).2 (.inl rfl)
        · exact (hOO y).2 (.inr ⟨i + m, by omega, hy⟩)
  obtain ⟨ad, cap, hx, hc, Oκ, hown, hOκ⟩ := key
  have hκ2 : fresh (σ.after none .un u).h κ = true := by
    unfold fresh; rw [St.after_h, F1.new κ (fresh_none hκ)]
  have hR := G1.newRow (κ := κ) (dst := o.dst) hκ2 hd (t := t) (n := n) (xs := List.drop m (List.take e' xs)) (w' := w) (fun r => look (σ.after none .un u).h r = none) (fun r h => h) Oκ hown (fun b hb => by
    obtain ⟨q, q1, _, q3⟩ := hOx b (hOκ b hb)
    exact .inr ⟨q, by rw [St.after_h]; exact q1, q3⟩) rfl rfl rfl (Nat.le_refl _) (fun _ _ _ => rfl)
  rw [after_after] at hR
  refine wp_value hn h hR ?_
  simp only [execOp, ho, hx, Option.map_none, Sem.run_bind, slice_run W hT ad _ cap _ _ (m : Int) ((e' : Nat) : Int) h2 h3 h4 hc (bound_val G hlo) (bound_val (i := some y) G hhi), Result.andThen_ok, Sem.run_pure, Int.toNat_natCast]

theorem nth_eq {α : Type} : ∀ (l : List α) (n : Nat), nth l n = l[n]?
  | [], n => by simp [nth]
  | a :: l, 0 => by simp [nth]
  | a :: l, n + 1 => by simp [nth, nth_eq l n]
theorem places_eq : ∀ (fs : List Field), fs.mapM (fun f => (P.info? f.type).map fun i => (f.offset, i.size)) = places P fs
  | [] => rfl
  | f :: fs => by
    simp only [List.mapM_cons, places, places_eq fs]
    cases P.info? f.type <;> cases places P fs <;> rfl
theorem fill_ok (T : Nat) {η : Nat → Gh} {hp : Heap} (place : Nat → Option (Nat × Nat)) (hpl : ∀ f p, partAt P T f = some p → place f = some p) (ev : Operand → V) (ex : Operand → Value) (hev : ∀ x, Vr w D η hp (ev x) (ex x)) : ∀ (ps : List (Nat × Operand)) (l l' : List V) (cells : Array Value), cells.size = l.length → (∀ i (hi : i < l.length), Leaf (cells.getD i undef) ∧ Vr w D η hp l[i] (cells.getD i undef)) → fillV P T l (ps.map fun p => (p.1, ev p.2)) = some l' →
    ∃ cells', Instr.fill place cells (ps.map fun p => (p.1, ex p.2)) = some cells' ∧ cells'.size = l'.length ∧ ∀ i (hi : i < l'.length), Leaf (cells'.getD i undef) ∧ Vr w D η hp l'[i] (cells'.getD i undef)
  | [], l, l', cells, hs, H, h => by
    simp only [List.map_nil, fillV] at h
    cases h
    exact ⟨cells, rfl, hs, H⟩
  | (f, x) :: ps, l, l', cells, hs, H, h => by
    simp only [List.map_cons, fillV] at h
    split at h
    case h_2 => cases h
    rename_i o s hp'
    split at h
    case h_2 => cases h
    rename_i hb
    simp only [Bool.and_eq_true] at hb
    have b1 := Nat.eq_of_beq_eq_true hb.1
    have b2 : 0 < s := by simpa using hb.2.1
    have b3 := Nat.le_of_ble_eq_true hb.2.2
    obtain ⟨c1, c2⟩ := (hev x).cells (by omega)
    have hlen : (ex x).cells.toList.length = s := by rw [Array.length_toList, c1, b1]
    obtain ⟨g1, g2⟩ := Great.foldl_set o (ex x).cells.toList 0 cells
    have hsl : setAtL l o (ev x).cells = l.take o ++ (ev x).cells ++ l.drop (o + s) := by rw [setAtL_eq l o _ (by omega), b1]
    have hsll : (setAtL l o (ev x).cells).length = l.length := by rw [hsl]; simp [b1]; omega
    obtain ⟨cells', k1, k2, k3⟩ := fill_ok T place hpl ev ex hev ps (setAtL l o (ev x).cells) l' (((ex x).cells.toList.zipIdx 0).foldl (fun cs (x : Value × Nat) => cs.setIfInBounds (o + x.2) x.1) cells) (by rw [g1, hsll, hs]) (fun i hi => by
      have hi' : i < l.length := by rw [hsll] at hi; exact hi
      have e1 : (((ex x).cells.toList.zipIdx 0).foldl (fun cs (x : Value × Nat) => cs.setIfInBounds (o + x.2) x.1) cells)[i]? = if o ≤ i ∧ i < o + s then (ex x).cells[i - o]? else cells[i]? := by
        rw [g2 i]
        simp only [Nat.add_zero, hlen]
        by_cases e : o ≤ i ∧ i < o + s
        · rw [if_pos e, if_pos ⟨e.1, e.2, by omega⟩]; simp
        · rw [if_neg e, if_neg (fun h => e ⟨h.1, h.2.1⟩)]
      have e2 : some ((setAtL l o (ev x).cells)[i]) = if i < o then l[i]? else if i < o + s then (ev x).cells[i - o]? else l[i]? := by
        have := splice_get l (ev x).cells o (by omega) i
        rw [b1] at this
        rw [← List.getElem?_eq_getElem, hsl, this]
      have gd : ∀ (z : Array Value) (k : Nat), z.getD k undef = (z[k]?).getD undef := fun z k => by simp [Array.getD]; split <;> simp_all
      rw [gd, e1]
      by_cases h1 : i < o
      · rw [if_neg (by omega), ← gd]
        rw [if_pos h1, List.getElem?_eq_getElem hi'] at e2
        rw [Option.some.inj e2]; exact H i hi'
      · by_cases h2 : i < o + s
        · rw [if_pos ⟨by omega, h2⟩, ← gd]
          rw [if_neg h1, if_pos h2, List.getElem?_eq_getElem (by omega)] at e2
          rw [Option.some.inj e2]; exact c2 (i - o) (by omega)
        · rw [if_neg (by omega), ← gd]
          rw [if_neg h1, if_neg h2, List.getElem?_eq_getElem hi'] at e2
          rw [Option.some.inj e2]; exact H i hi') h
    refine ⟨cells', ?_, k2, k3⟩
    simp only [List.map_cons, Instr.fill, hpl f (o, s) hp']
    rw [if_neg (by simp [c1, b1]; omega)]
    rw [← k1]
    congr 1
    rw [← Array.foldl_toList, Array.toList_zipIdx]
theorem op_build {A : Ann} (W : WF P A) (G : RelG B D η O σ a w) (hn : Post B σ a o.dst next K r) (hd : ∀ d, o.dst = some d → d < B.N) (T : Nat) (parts : Array (Nat × Operand)) (ho : o.op = .build T parts) {t : Ty} (ht : fnd A.ty T = some t) {l : List V} (hf : fillV P T (zeros t) (parts.toList.map fun p => (p.1, σ.eval p.2)) = some l)
    (hok : ∃ d, P.underlying T = some d ∧ ((∃ n e i, d = .array n e ∧ P.info? e = some i) ∨ ∃ fs ps, d = .struct fs ∧ places P fs.toList = some ps)) (h : K (.agg l) [] = some r) : o.wp P a w next Q := by
  obtain ⟨i, d, F⟩ := W.facts ht
  obtain ⟨z, hz, hze, _⟩ := F.zero
  have hze := vEqs_eq hze
  obtain ⟨z1, z2⟩ := zeros_ok (w := w) (D := D) (η := η) σ.h t
  have hzs : z.cells.size = (zeros t).length := by rw [z1, ← hze]; simp
  obtain ⟨d', hu, hd'⟩ := hok
  have key : ∃ place, P.built T (parts.map fun (i, x) => (i, a.eval x)).toList = Instr.fill place z.cells (parts.map fun (i, x) => (i, a.eval x)).toList ∧ ∀ f p, partAt P T f = some p → place f = some p := by
    rcases hd' with ⟨n, e, ie, rfl, hie⟩ | ⟨fs, ps, rfl, hps⟩
    · refine ⟨fun i => some (i * ie.size, ie.size), by simp [Program.built, F.info, hu, hz, hie], fun f p hp => ?_⟩
      simpa [partAt, hu, hie] using hp
    · refine ⟨(ps.toArray[·]?), by simp [Program.built, F.info, hu, hz, places_eq, hps], fun f p hp => ?_⟩
      have : nth ps f = some p := by simpa [partAt, hu, hps] using hp
      rw [nth_eq] at this
      simpa using this
  obtain ⟨place, k1, k2⟩ := key
  obtain ⟨cells', f1, f2, f3⟩ := fill_ok (P := P) (w := w) (D := D) (η := η) T place k2 σ.eval a.eval G.eval parts.toList (zeros t) l z.cells hzs (fun i hi => by
    have e : z.cells.getD i undef = (zeroCells t).getD i undef := by
      rw [← hze]; simp [Array.getD, List.getD]; split <;> simp_all
    rw [e]; exact z2 i hi) hf
  have e3 : (parts.map fun (i, x) => (i, a.eval x)).toList = parts.toList.map fun p => (p.1, a.eval p.2) := by rw [Array.toList_map]
  rw [e3, f1] at k1
  have hrun := run_build (P := P) w T (parts.map fun (i, x) => (i, a.eval x)) cells' (by rw [e3]; exact k1)
  refine wp_pure hn G hd h (.agg l cells' f2 (fun i hi => (f3 i hi).1) (fun i hi => (f3 i hi).2)) ?_
  simp only [execOp, ho, Sem.run_bind, hrun, Result.andThen_ok, Sem.run_pure]
end
end Go.Proofs.YtpoppblfnaipbaaDoor.Eng
/-! ## The engine: maps. -/
namespace Go.Proofs.YtpoppblfnaipbaaDoor.Eng
open Go
set_option autoImplicit false
set_option linter.unusedVariables false
set_option linter.unusedSimpArgs false

theorem ikEq_refl (k : IntKind) : ikEq k k = true := by cases k <;> rfl
theorem bytes_mk {s : ByteArray} {x : List UInt8} (h : s.data.toList = x) : s = ⟨x.toArray⟩ := by subst h; cases s; simp
theorem scal_one {t : Ty} (h : t.scal = true) : cellTys t = [t] := by cases t <;> simp [Ty.scal] at h <;> rfl
theorem scal_agg {t : Ty} (h : t.scal = true) : t.agg = false := by cases t <;> simp [Ty.scal] at h <;> rfl
theorem scal_leaves {t : Ty} (h : t.scal = true) (x : t.den) : leaves t x = [.d t x] := by cases t <;> simp [Ty.scal] at h <;> rfl
theorem tysEq_eq : ∀ {l m : List Ty}, tysEq l m = true → l = m
  | [], [], _ => rfl
  | a :: l, b :: m, h => by
    simp only [tysEq, Bool.and_eq_true] at h
    rw [Ty.eq_of_beq h.1, tysEq_eq h.2]
  | [], _ :: _, h => by simp [tysEq] at h
  | _ :: _, [], h => by simp [tysEq] at h
theorem scal_cells : ∀ (t : Ty), (cellTys t).all Ty.scal = true → ∀ (w : World) (D : Bs) (x : t.den) (us : List Value), Rz w D t x us ↔ us = cellsV t x
  | .int k, _, w, D, x, us => Iff.rfl
  | .bool, _, w, D, x, us => Iff.rfl
  | .str, _, w, D, x, us => by
    constructor
    · rintro ⟨s, h, rfl⟩; rw [bytes_mk h]; rfl
    · rintro rfl; exact ⟨⟨x.toArray⟩, by simp, rfl⟩
  | .pair a b, h, w, D, x, us => by
    simp only [cellTys, List.all_cons, Bool.and_eq_true] at h
    have ha : (cellTys a).all Ty.scal = true := by rw [scal_one h.1]; simp [h.1]
    constructor
    · rintro ⟨u, v, rfl, h1, h2⟩
      rw [(scal_cells a ha w D _ _).1 h1, (scal_cells b h.2 w D _ _).1 h2]; rfl
    · rintro rfl
      exact ⟨_, _, rfl, (scal_cells a ha w D _ _).2 rfl, (scal_cells b h.2 w D _ _).2 rfl⟩
  | .unit, h, _, _, _, _ => by simp [cellTys, Ty.scal] at h
  | .sl _, h, _, _, _, _ => by simp [cellTys, Ty.scal] at h
  | .tree, h, _, _, _, _ => by simp [cellTys, Ty.scal] at h
  | .ent _ _, h, _, _, _, _ => by simp [cellTys, Ty.scal] at h
theorem eqD_eq : ∀ (t : Ty), (cellTys t).all Ty.scal = true → ∀ (x y : t.den), eqD t x y = true → x = y
  | .int k, _, x, y, h => of_decide_eq_true h
  | .bool, _, x, y, h => of_decide_eq_true h
  | .str, _, x, y, h => of_decide_eq_true h
  | .pair a b, h, x, y, e => by
    simp only [cellTys, List.all_cons, Bool.and_eq_true] at h
    have ha : (cellTys a).all Ty.scal = true := by rw [scal_one h.1]; simp [h.1]
    simp only [eqD, Bool.and_eq_true] at e
    exact Prod.ext (eqD_eq a ha _ _ e.1) (eqD_eq b h.2 _ _ e.2)
  | .unit, h, _, _, _ => by simp [cellTys, Ty.scal] at h
  | .sl _, h, _, _, _ => by simp [cellTys, Ty.scal] at h
  | .tree, h, _, _, _ => by simp [cellTys, Ty.scal] at h
  | .ent _ _, h, _, _, _ => by simp [cellTys, Ty.scal] at h
theorem eqV_scal {t : Ty} (h : t.scal = true) (x y : t.den) : eqV t (.d t x) (.d t y) = some (eqD t x y) := by
  cases t <;> simp [Ty.scal] at h <;> simp [eqV, eqD, ikEq_refl, V.asB]
theorem eqVs_scal : ∀ (t : Ty), (cellTys t).all Ty.scal = true → ∀ (x y : t.den), eqVs (cellTys t) (leaves t x) (leaves t y) = some (eqD t x y)
  | .int k, _, x, y => by simp [cellTys, leaves, eqVs, eqV, eqD, ikEq_refl]
  | .bool, _, x, y => by simp [cellTys, leaves, eqVs, eqV, eqD, V.asB]
  | .str, _, x, y => by simp [cellTys, leaves, eqVs, eqV, eqD]
  | .pair a b, h, x, y => by
    simp only [cellTys, List.all_cons, Bool.and_eq_true] at h
    have ih := eqVs_scal b h.2 x.2 y.2
    have hne : ∃ u us, cellTys b = u :: us := by cases b <;> exact ⟨_, _, rfl⟩
    obtain ⟨u, us, hu⟩ := hne
    simp only [cellTys, leaves, scal_leaves h.1, List.cons_append, List.nil_append, hu, eqVs]
    rw [hu] at ih
    rw [eqV_scal h.1, ih]; rfl
  | .unit, h, _, _ => by simp [cellTys, Ty.scal] at h
  | .sl _, h, _, _ => by simp [cellTys, Ty.scal] at h
  | .tree, h, _, _ => by simp [cellTys, Ty.scal] at h
  | .ent _ _, h, _, _ => by simp [cellTys, Ty.scal] at h
/-- Values that hold no address are themselves. -/
def plainV : Value → Bool | .int _ _ => true | .bool _ => true | .string _ => true | _ => false
theorem cellsV_plain : ∀ (t : Ty) (x : t.den), ∀ v ∈ cellsV t x, plainV v = true
  | .int k, x => by simp [cellsV, plainV]
  | .bool, x => by simp [cellsV, plainV]
  | .str, x => by simp [cellsV, plainV]
  | .pair a b, x => fun v hv => (List.mem_append.1 hv).elim (cellsV_plain a x.1 v) (cellsV_plain b x.2 v)
  | .unit, x => fun v hv => by simp [cellsV] at hv
  | .sl _, x => fun v hv => by simp [cellsV] at hv
  | .tree, x => fun v hv => by simp [cellsV] at hv
  | .ent _ _, x => fun v hv => by simp [cellsV] at hv
theorem sameBits_plain (n : Nat) {v : Value} (h : plainV v = true) : Instr.sameBits n v v = true := by
  cases v <;> simp [plainV] at h <;> cases n <;> simp [Instr.sameBits]
  all_goals (rw [bytes_eq']; simp)
theorem sameBits_agg (n : Nat) {l : List Value} (h : ∀ v ∈ l, plainV v = true) : Instr.sameBits (n + 1) (.agg l.toArray) (.agg l.toArray) = true := by
  have key : ∀ l : List Value, (∀ v ∈ l, plainV v = true) → ((l.zip l).all fun (x, y) => Instr.sameBits n x y) = true := by
    intro l
    induction l with
    | nil => intro _; rfl
    | cons a l ih => intro h; simp [sameBits_plain n (h a (by simp)), ih fun v hv => h v (by simp [hv])]
  simp only [Instr.sameBits, beq_self_eq_true, Bool.true_and]
  exact key l h

section
variable {P : Program} {B : Base} {D : Bs} {η : Nat → Gh} {O : Nat → Bs} {σ : St} {a : Act} {w : World} {o : Oper} {next : Act → World → Prop} {Q : Exit → Act → World → Prop} {R : Type} {r : R} {K : V → Heap → Option R}

/-- A key's struct. -/
theorem check_scalar {T : Nat} {t : Ty} (h : scalarOk P T t = true) (em : Bool) (n : Nat) (v : Value) : (Instr.checkKey em (n + 1) T v).run P w = .ok () w := by
  have hu : ∃ d, P.underlying T = some d ∧ ((∃ k, d = .int k) ∨ d = .bool ∨ d = .string) := by
    cases t with
    | int k => exact ⟨_, scalar_int h, .inl ⟨k, rfl⟩⟩
    | bool => exact ⟨_, scalar_bool h, .inr (.inl rfl)⟩
    | str => exact ⟨_, scalar_str h, .inr (.inr rfl)⟩
    | _ => simp [scalarOk] at h
  obtain ⟨d, hu, hd⟩ := hu
  unfold Instr.checkKey
  simp only [Sem.run_bind, run_underlying hu, Result.andThen_ok]
  rcases hd with ⟨k, rfl⟩ | rfl | rfl <;> rfl
theorem check_struct {K : Nat} {fs : Array Field} (hu : P.underlying K = some (.struct fs)) {ts : List Ty} (hf : eqFieldsOk P fs.toList 0 ts = true) {cs : Array Value} (hs : ts.length ≤ cs.size) (em : Bool) (n : Nat) :
    (Instr.checkKey em (n + 2) K (.agg cs)).run P w = .ok () w := by
  unfold Instr.checkKey
  simp only [Sem.run_bind, run_underlying hu, Result.andThen_ok]
  rw [← Array.forIn_toList]
  have hs0 := hs
  replace hs : 0 + ts.length ≤ cs.size := by omega
  generalize fs.toList = L at hf
  generalize 0 = off at hf hs
  clear hs0 hu
  induction L generalizing off ts with
  | nil => simp
  | cons f L ih =>
    cases ts with
    | nil => simp [eqFieldsOk] at hf
    | cons t ts =>
      simp only [eqFieldsOk, Bool.and_eq_true, bne_iff_ne, ne_eq] at hf
      obtain ⟨⟨⟨h1, h2⟩, h3⟩, h4⟩ := hf
      have ho : f.offset = off := Nat.eq_of_beq_eq_true h1
      have hp := part_one (w := w) h3 cs (show off < cs.size by simp at hs; omega)
      simp only [List.forIn_cons, Sem.run_bind, h2, ne_eq, not_false_eq_true, if_true, Result.andThen_ok, ho, hp, check_scalar h3, Sem.run_pure]
      exact ih (off + 1) h4 (by simp at hs ⊢; omega)
structure KeyF (P : Program) (A : Ann) (K : Nat) (k : Ty) : Prop where
  scal : (cellTys k).all Ty.scal = true
  agg : k.agg = true
  und : ∃ fs, P.underlying K = some (.struct fs)
  eq : ∀ (x y : k.den) (w : World), (Op.equal K (kval k x) (kval k y)).run P w = .ok (eqD k x y) w
  check : ∀ (em : Bool) (x : k.den) (w : World), (Instr.checkKey em 10000 K (kval k x)).run P w = .ok () w
theorem WF.key {A : Ann} (W : WF P A) {K : Nat} {k : Ty} (hk : keyOk A K k = true) {fs : Array Field} (hu : P.underlying K = some (.struct fs)) : KeyF P A K k := by
  unfold keyOk at hk
  split at hk
  case h_2 => cases hk
  rename_i t0 t1 ts hT
  simp only [Bool.and_eq_true] at hk
  have hct := tysEq_eq hk.1
  have hsc := hk.2
  have hag : k.agg = true := by cases k <;> simp [cellTys] at hct <;> rfl
  have hkv : ∀ x : k.den, kval k x = .agg (cellsV k x).toArray := fun x => by simp only [kval, hag]
  have hlen : ∀ x : k.den, (cellsV k x).length = (leaves k x).length := fun x => by
    have := (leaves_ok (w := default) (D := fun _ => False) (η := fun _ => .box 0) (h := []) k x _ ((scal_cells k hsc default (fun _ => False) x _).2 rfl)).1
    exact this.symm
  have hvr : ∀ (w : World) (x : k.den), Vr w (fun _ => False) (fun _ => .box 0) [] (.agg (leaves k x)) (kval k x) := fun w x => by
    have := val_ok (w := w) (D := fun _ => False) (η := fun _ => .box 0) (h := []) k x _ ((scal_cells k hsc w (fun _ => False) x _).2 rfl)
    simp only [val, hag, if_true] at this
    rw [hkv]; exact this
  refine ⟨hsc, hag, ⟨fs, hu⟩, fun x y w => ?_, fun em x w => ?_⟩
  · have he := eqVs_scal k hsc x y
    rw [hct] at he
    obtain ⟨cs, ds, e1, e2, _, h4⟩ := eq_agg W hT he (hvr w x) (hvr w y)
    exact h4
  · have hq := W.eqs hT
    unfold eqOk at hq
    rw [hu] at hq
    simp only [Bool.and_eq_true] at hq
    rw [hkv]
    have hl : (cellTys k).length = (cellsV k x).length := by
      have : ∀ (t : Ty), (cellTys t).all Ty.scal = true → ∀ x : t.den, (cellTys t).length = (cellsV t x).length := by
        intro t
        induction t with
        | pair a b iha ihb =>
          intro h x
          simp only [cellTys, List.all_cons, Bool.and_eq_true] at h
          have ha : (cellTys a).all Ty.scal = true := by rw [scal_one h.1]; simp [h.1]
          have h1 := iha ha x.1
          rw [scal_one h.1] at h1
          have h2 := ihb h.2 x.2
          simp only [cellTys, cellsV, List.length_cons, List.length_append, ← h2, ← h1, List.length_nil]; omega
        | int _ => intro _ _; rfl
        | bool => intro _ _; rfl
        | str => intro _ _; rfl
        | _ => intro h; simp [cellTys, Ty.scal] at h
      exact this k hsc x
    exact check_struct (n := 9998) hu hq.1.1.2 (by rw [← hct]; simpa using Nat.le_of_eq hl) em

/-- Where a key stands. -/
theorem find_run {A : Ann} {K0 : Nat} {k v : Ty} (F : KeyF P A K0 k) (y : k.den) : ∀ (es : List MapEntry) (xs : List (k.den × v.den)) (i : Nat), (es.map fun e => (e.key, e.val)) = xs.map (fun p => (kval k p.1, kval v p.2)) →
    ∃ q, (Instr.findAsking K0 (kval k y) es i).run P w = .ok q w ∧
      ((q = none ∧ mhas k v xs y = false ∧ mval k v xs y = v.dflt ∧ ∀ z, mput k v xs y z = xs ++ [(y, z)]) ∨
       ∃ j p, q = some (i + j, kval v p.2) ∧ xs[j]? = some p ∧ p.1 = y ∧ mhas k v xs y = true ∧ mval k v xs y = p.2 ∧ ∀ z, mput k v xs y z = xs.set j (y, z))
  | [], [], i, _ => ⟨none, by simp [Instr.findAsking], .inl ⟨rfl, rfl, rfl, fun _ => rfl⟩⟩
  | e :: es, p :: xs, i, h => by
    simp only [List.map_cons, List.cons.injEq, Prod.mk.injEq] at h
    obtain ⟨⟨h1, h2⟩, h3⟩ := h
    have he := F.eq y p.1 w
    rw [← h1] at he
    cases hd : eqD k y p.1 with
    | true =>
      rw [hd] at he
      have hpy : p.1 = y := (eqD_eq k F.scal _ _ hd).symm
      refine ⟨some (i, e.val), by simp [Instr.findAsking, he], .inr ⟨0, p, by rw [h2]; rfl, rfl, hpy, by simp [mhas, hd], by simp [mval, hd], fun z => by simp only [mput, hd]; rw [hpy]; rfl⟩⟩
    | false =>
      rw [hd] at he
      obtain ⟨q, g1, g2⟩ := find_run F y es xs (i + 1) h3
      refine ⟨q, by simp [Instr.findAsking, he, g1], ?_⟩
      rcases g2 with ⟨rfl, k1, k2, k3⟩ | ⟨j, p', rfl, k1, k2, k3, k4, k5⟩
      · exact .inl ⟨rfl, by simp [mhas, hd, k1], by simp [mval, hd, k2], fun z => by simp [mput, hd, k3]⟩
      · exact .inr ⟨j + 1, p', by rw [Nat.add_assoc, Nat.add_comm 1 j], by simpa using k1, k2, by simp [mhas, hd, k3], by simp [mval, hd, k4], fun z => by simp [mput, hd, k5]⟩
  | [], _ :: _, _, h => by simp at h
  | _ :: _, [], _, h => by simp at h
theorem findKey_run {A : Ann} {K0 : Nat} {k : Ty} (F : KeyF P A K0 k) (y : k.den) (es : List MapEntry) : (Instr.findKey K0 (kval k y) es).run P w = (Instr.findAsking K0 (kval k y) es 0).run P w := by
  obtain ⟨fs, hu⟩ := F.und
  unfold Instr.findKey
  simp only [Sem.run_bind, run_underlying hu, Result.andThen_ok]
  cases es with
  | nil => simp [Instr.findNow, Instr.findAsking]
  | cons e es => simp [Instr.findNow, Instr.sameNow]

/-- A scalar, read. -/
theorem scal_val {t : Ty} (h : t.scal = true) (w : World) (D : Bs) (η : Nat → Gh) (hp : Heap) (x : t.den) : Vr w D η hp (.d t x) (kval t x) := by
  have hc : (cellTys t).all Ty.scal = true := by rw [scal_one h]; simp [h]
  have := val_ok (w := w) (D := D) (η := η) (h := hp) t x _ ((scal_cells t hc w D x _).2 rfl)
  simp only [val, scal_agg h] at this
  simpa [kval, scal_agg h] using this
theorem scal_of {t : Ty} (h : t.scal = true) {x : t.den} {z : Value} (hz : [z] = cellsV t x) : z = kval t x := by
  simp only [kval, scal_agg h, ← hz]; rfl
theorem agg_cells {v : Value} {l : List Value} (h : v.cells.toList = l) (h2 : 2 ≤ l.length) : v = .agg l.toArray := by
  cases v <;> first | (simp [Value.cells] at h; subst h; simp at h2; done) | (simp [Value.cells] at h; subst h; simp)
/-- What a map's value is. -/
theorem map_of {k v : Ty} {n : Nat} {xs : List (k.den × v.den)} {x : Value} {O' : Bs} (h : OwnE w D (.sl (.ent k v)) n xs [x] O') : ∃ b, x = .map (some b) ∧ MapAt w b k v xs := by
  cases n with
  | zero =>
    rcases (OwnE.zero.1 h).1 with h | h
    · cases h.1
    · obtain ⟨b, e, _, hm⟩ := h
      exact ⟨b, by simpa using e, hm⟩
  | succ n =>
    obtain ⟨z, e, h⟩ := h
    obtain rfl : x = z := by simpa using e
    rcases h with h | h
    · cases h.1
    · obtain ⟨b, e, hm, _⟩ := h
      exact ⟨b, e, hm⟩
/-- What a map's kind tells. -/
theorem WF.map {A : Ann} (W : WF P A) {T : Nat} {k v : Ty} (ht : fnd A.ty T = some (.sl (.ent k v))) (hst : structKey P T = true) : ∃ K0 E, P.underlying T = some (.map K0 E) ∧ KeyF P A K0 k ∧ v.scal = true ∧ fnd A.ty E = some v := by
  obtain ⟨i, d, F⟩ := W.facts ht
  have h1 := F.desc
  cases d <;> simp [descOk, Ty.isEnt] at h1
  rename_i K0 E
  simp only [mapOk, Bool.and_eq_true] at h1
  obtain ⟨⟨⟨h2, h3⟩, h4⟩, h5⟩ := h1
  unfold structKey at hst
  rw [F.und] at hst
  simp only at hst
  split at hst
  · rename_i fs hu
    exact ⟨K0, E, F.und, W.key h4 hu, h5, isTy_fnd h3⟩
  · cases hst
theorem zero_scal {A : Ann} (W : WF P A) {E : Nat} {v : Ty} (ht : fnd A.ty E = some v) (hs : v.scal = true) : (zeroValue E).run P w = .ok (kval v v.dflt) w := by
  obtain ⟨i, d, F⟩ := W.facts ht
  obtain ⟨z, hz, hze, hag⟩ := F.zero
  have hze := vEqs_eq hze
  have hna : ¬ ∃ c, z = .agg c := fun h => by have := hag.2 h; rw [scal_agg hs] at this; cases this
  have hcz : zeroCells v = cellsV v v.dflt := by cases v <;> simp [Ty.scal] at hs <;> rfl
  have e : z = kval v v.dflt := by
    refine scal_of hs ?_
    rw [← hcz, ← hze]
    cases z <;> first | rfl | exact absurd ⟨_, rfl⟩ hna
  simp only [zeroValue, typeInfo, Sem.run_bind, run_program, Result.andThen_ok, F.info, Sem.run_pure, hz, e]
theorem key_val (G : RelG B D η O σ a w) {k : Ty} (hsc : (cellTys k).all Ty.scal = true) (hag : k.agg = true) (h2 : 2 ≤ (cellTys k).length) {vv : V} {x : Value} (hv : Vr w D η σ.h vv x) {y : k.den} (hd : datum σ.h k vv = some (y, [])) : x = kval k y := by
  have hlen : ∀ (t : Ty), (cellTys t).all Ty.scal = true → t.size = (cellTys t).length ∧ ∀ x : t.den, (cellsV t x).length = (cellTys t).length := by
    intro t
    induction t with
    | pair a b iha ihb =>
      intro h
      simp only [cellTys, List.all_cons, Bool.and_eq_true] at h
      have ha : (cellTys a).all Ty.scal = true := by rw [scal_one h.1]; simp [h.1]
      have h1 := iha ha
      rw [scal_one h.1] at h1
      have h2 := ihb h.2
      refine ⟨by simp only [Ty.size, cellTys, List.length_cons, h1.1, h2.1, List.length_nil]; omega, fun x => ?_⟩
      simp only [cellsV, cellTys, List.length_append, List.length_cons, h1.2 x.1, h2.2 x.2, List.length_nil]; omega
    | int _ => intro _; exact ⟨rfl, fun _ => rfl⟩
    | bool => intro _; exact ⟨rfl, fun _ => rfl⟩
    | str => intro _; exact ⟨rfl, fun _ => rfl⟩
    | _ => intro h; simp [cellTys, Ty.scal] at h
  obtain ⟨D', O', _, _, _, hr⟩ := datum_ok G hv (by rw [(hlen k hsc).1]; omega) hd
  have hr := (scal_cells k hsc _ _ _ _).1 hr
  rw [agg_cells hr (by rw [(hlen k hsc).2]; exact h2)]
  simp only [kval, hag]
theorem one_val (G : RelG B D η O σ a w) {t : Ty} (hs : t.scal = true) {vv : V} {x : Value} (hv : Vr w D η σ.h vv x) (hf : fit false vv = true) {y : t.den} (hd : datum σ.h t vv = some (y, [])) : x = kval t y := by
  have hsz : t.size = 1 := by cases t <;> simp [Ty.scal] at hs <;> rfl
  obtain ⟨D', O', _, _, _, hr⟩ := datum_ok G hv (by omega) hd
  have hc : (cellTys t).all Ty.scal = true := by rw [scal_one hs]; simp [hs]
  have hr := (scal_cells t hc _ _ _ _).1 hr
  refine scal_of hs ?_
  rw [← hr]
  have hag : ∀ cs, x ≠ .agg cs := fun cs e => ?_
  · cases x <;> first | rfl | exact absurd rfl (hag _)
  subst e
  cases hv with
  | agg => simp [fit] at hf
  | k =>
    have hg : datum σ.h t (.k (.agg cs)) = none := by
      unfold datum
      have : (V.k (.agg cs)).cells = [] := rfl
      rw [this]
      cases t <;> simp [Ty.scal] at hs <;> simp [gather]
    rw [hg] at hd; cases hd
  | un =>
    have hg : datum σ.h t .un = none := by
      unfold datum
      have : (V.un).cells = [] := rfl
      rw [this]
      cases t <;> simp [Ty.scal] at hs <;> simp [gather]
    rw [hg] at hd; cases hd
  | d t' y' _ ha hrr =>
    have := (Rz.shape _ _ _ hrr).2 _ List.mem_cons_self
    exact absurd rfl (this.1 cs)
  | ref _ _ _ _ _ hlf => exact absurd rfl (hlf.1 cs)
  | rp _ _ _ _ _ _ hlf => exact absurd rfl (hlf.1 cs)
  | ptr _ _ _ hlf => exact absurd rfl (hlf.1 cs)

theorem op_makeMap {A : Ann} (W : WF P A) (G : RelG B D η O σ a w) (hn : Post B σ a o.dst next K r) (hd : ∀ d, o.dst = some d → d < B.N) (T κ : Nat) (ho : o.op = .makeMap T none) {k v : Ty} (hκ : fresh σ.h κ = true)
    (h : K (.ref κ [] κ (.ent k v)) [(κ, some (.row (.ent k v) 99 κ false []))] = some r) : o.wp P a w next Q := by
  have old : ∀ b, b < w.heap.size → (w.alloc (.map #[] 0)).heap[b]? = w.heap[b]? := fun b hb => heap_alloc_lt w _ hb
  have hasz : (w.alloc (.map #[] 0)).heap.size = w.heap.size + 1 := by simp
  have hR := G.newRow hκ hd (t := .ent k v) (n := 99) (xs := []) (w' := w.alloc (.map #[] 0)) (x := .map (some w.heap.size)) (fun _ => False) (fun r h => h.elim) (Oκ := fun y => y = w.heap.size)
    ⟨_, rfl, .inr ⟨w.heap.size, rfl, ⟨#[], 0, heap_alloc_new w _, rfl⟩, fun _ => Iff.rfl⟩⟩ (fun b hb => .inl ⟨by omega, by rw [hasz]; omega⟩) rfl rfl rfl (by rw [hasz]; omega) (fun b hb _ => old b hb)
  refine wp_value hn h hR ?_
  simp only [execOp, ho, Option.map_none, Sem.run_bind, RowKit.run_makeMap, Result.andThen_ok, Sem.run_pure]
theorem op_lookup {A : Ann} (W : WF P A) (G : RelG B D η O σ a w) (hn : Post B σ a o.dst next K r) (hd : ∀ d, o.dst = some d → d < B.N) (T : Nat) (m x : Operand) (ok : Bool) (ho : o.op = .lookup T m x ok) {k v : Ty} (ht : fnd A.ty T = some (.sl (.ent k v))) (hst : structKey P T = true)
    {xs : List (k.den × v.den)} (hm : rowOf σ.h (σ.eval m) = some ⟨.sl (.ent k v), xs⟩) {y : k.den} (hy : datum σ.h k (σ.eval x) = some (y, []))
    (h : (match (generalizing := false) ok with | true => K (.tup [.d v (mval k v xs y), .d .bool (mhas k v xs y)]) [] | false => K (.d v (mval k v xs y)) []) = some r) : o.wp P a w next Q := by
  obtain ⟨K0, E, hu, F, hvs, hE⟩ := W.map ht hst
  obtain ⟨s', ys, n, O', e1, h1⟩ := rowOf_ok G (G.eval m) hm
  cases e1
  obtain ⟨b, hb, es, clock, hh, hes⟩ := map_of h1
  have hk2 : 2 ≤ (cellTys k).length := by
    have := F.agg
    have hsc := F.scal
    cases k with
    | pair s t =>
      simp only [cellTys, List.length_cons]
      have : 0 < (cellTys t).length := by cases t <;> simp [cellTys]
      omega
    | _ => simp [cellTys, Ty.scal] at hsc <;> simp [Ty.agg] at this
  have hx := key_val G F.scal F.agg hk2 (G.eval x) hy
  obtain ⟨q, hq, hcase⟩ := find_run (w := w) F y es.toList xs 0 hes
  have hz := zero_scal (w := w) W hE hvs
  have hrun : (Instr.lookup T (a.eval m) (a.eval x) ok).run P w = .ok (match (generalizing := false) ok with | true => .tuple #[kval v (mval k v xs y), .bool (mhas k v xs y)] | false => kval v (mval k v xs y)) w := by
    rw [hb, hx]
    unfold Instr.lookup
    simp only [Sem.run_bind, run_underlying hu, Result.andThen_ok, MapKept.run_getObj_map hh, Sem.run_pure, F.check, findKey_run F, hq]
    rcases hcase with ⟨rfl, k1, k2, _⟩ | ⟨j, p, rfl, _, _, k3, k4, _⟩
    · cases ok <;> simp [hz, k1, k2]
    · cases ok <;> simp [k3, k4]
  cases ok with
  | true =>
    refine wp_pure hn G hd h (x := .tuple #[kval v (mval k v xs y), .bool (mhas k v xs y)]) (.tup _ _ rfl fun i hi => ?_) ?_
    · have : i = 0 ∨ i = 1 := by simp at hi; omega
      rcases this with rfl | rfl
      · exact scal_val hvs _ _ _ _ _
      · exact mk_bool _
    · simp only [execOp, ho, hrun, Sem.run_bind, Result.andThen_ok, Sem.run_pure]
  | false =>
    refine wp_pure hn G hd h (scal_val hvs _ _ _ _ _) ?_
    simp only [execOp, ho, hrun, Sem.run_bind, Result.andThen_ok, Sem.run_pure]
theorem op_mapUpdate {A : Ann} (W : WF P A) (G : RelG B D η O σ a w) (hn : Post B σ a o.dst next K r) (hd : ∀ d, o.dst = some d → d < B.N) (T : Nat) (m x z : Operand) (ho : o.op = .mapUpdate T m x z) {k v : Ty} (ht : fnd A.ty T = some (.sl (.ent k v))) (hst : structKey P T = true)
    {q ver : Nat} {e : Ty} (hm : σ.eval m = .ref q [] ver e) {n v0 : Nat} {xs : List (k.den × v.den)} (hq : look σ.h q = some (.row (.ent k v) n v0 false xs)) {y : k.den} (hy : datum σ.h k (σ.eval x) = some (y, [])) {y2 : v.den} (hy2 : datum σ.h v (σ.eval z) = some (y2, [])) (hf : fit false (σ.eval z) = true)
    (h : K .un [(q, some (.row (.ent k v) n v0 false (mput k v xs y y2)))] = some r) : o.wp P a w next Q := by
  obtain ⟨K0, E, hu, F, hvs, hE⟩ := W.map ht hst
  obtain ⟨hd', g1, g2, g3⟩ := G.objs q _ hq
  have g2' : OwnE w D (.sl (.ent k v)) (n + 1) xs [hd'] (O q) := g2
  obtain ⟨zz, e0, g4⟩ := g2
  obtain rfl : hd' = zz := by simpa using e0
  rcases g4 with g4 | ⟨b, rfl, ⟨es, clock, hh, hes⟩, hO⟩
  · cases g4.1
  have hmx : a.eval m = .map (some b) := by
    have hv := G.eval m
    rw [hm] at hv
    cases hv with
    | ref _ _ _ _ _ _ _ _ hx =>
      obtain ⟨_, h2⟩ := hx _ _ _ _ _ _ hq (.inl rfl) g1
      simpa [hdrAt] using h2.symm
  have hk2 : 2 ≤ (cellTys k).length := by
    have := F.agg
    have hsc := F.scal
    cases k with
    | pair s t =>
      simp only [cellTys, List.length_cons]
      have : 0 < (cellTys t).length := by cases t <;> simp [cellTys]
      omega
    | _ => simp [cellTys, Ty.scal] at hsc <;> simp [Ty.agg] at this
  have hx := key_val G F.scal F.agg hk2 (G.eval x) hy
  have hz := one_val G hvs (G.eval z) hf hy2
  obtain ⟨qq, hqq, hcase⟩ := find_run (w := w) F y es.toList xs 0 hes
  have hrun : ∃ es' clock', (Instr.mapUpdate T (a.eval m) (a.eval x) (a.eval z)).run P w = .ok () (ChangeMaps.setBlock w b (.map es' clock')) ∧ (es'.toList.map fun e => (e.key, e.val)) = (mput k v xs y y2).map fun p => (kval k p.1, kval v p.2) := by
    rw [hmx, hx, hz]
    unfold Instr.mapUpdate
    simp only [Sem.run_bind, run_underlying hu, Result.andThen_ok, MapKept.run_getObj_map hh, Sem.run_pure, F.check, findKey_run F, hqq]
    rcases hcase with ⟨rfl, _, _, k3⟩ | ⟨j, p, rfl, k1, k2, _, _, k5⟩
    · refine ⟨es.push { key := kval k y, val := kval v y2, born := clock }, clock + 1, ?_, ?_⟩
      · simp only [MapKept.run_setObj_map _ hh, ChangeMaps.setBlock]
      · rw [k3, List.map_append, ← hes]; simp
    · have hej : ∃ e, es[j]? = some e ∧ e.key = kval k y := by
        have h1 : (es.toList.map fun e => (e.key, e.val))[j]? = some (kval k p.1, kval v p.2) := by rw [hes, List.getElem?_map, k1]; rfl
        rw [List.getElem?_map] at h1
        cases h2 : es.toList[j]? with
        | none => rw [h2] at h1; cases h1
        | some e =>
          rw [h2] at h1
          simp only [Option.map_some, Option.some.injEq, Prod.mk.injEq] at h1
          exact ⟨e, by simpa using h2, by rw [h1.1, k2]⟩
      obtain ⟨e, he, hek⟩ := hej
      have hst : (Instr.keyThatStays (kval k y) (kval k y)).run P w = .ok (kval k y) w := by
        unfold Instr.keyThatStays
        have : Instr.sameBits 10000 (kval k y) (kval k y) = true := by
          simp only [kval, F.agg]
          exact sameBits_agg 9999 (cellsV_plain k y)
        rw [this]; rfl
      refine ⟨es.modify j fun e => { e with key := kval k y, val := kval v y2 }, clock, ?_, ?_⟩
      · simp only [Nat.zero_add, he, Option.map_some, Option.getD_some, hek, Sem.run_bind, hst, Result.andThen_ok, MapKept.run_setObj_map _ hh, ChangeMaps.setBlock]
      · have hjl : j < es.size := (Array.getElem?_eq_some_iff.1 he).1
        rw [k5]
        apply List.ext_getElem?
        intro i
        have h0 : ∀ i : Nat, (es[i]? : Option MapEntry).map (fun e => (e.key, e.val)) = xs[i]?.map fun p => (kval k p.1, kval v p.2) := fun i => by
          have := congrArg (·[i]?) hes
          simpa using this
        simp only [List.getElem?_map, Array.getElem?_toList, Array.getElem?_modify, List.getElem?_set]
        have hxl : j < xs.length := (List.getElem?_eq_some_iff.1 k1).1
        by_cases hij : j = i
        · subst hij
          simp [he, hxl]
        · simp only [hij, if_false]
          exact h0 i
  obtain ⟨es', clock', hrun, hes'⟩ := hrun
  have hOb : O q b := (hO b).2 rfl
  have hself : (ChangeMaps.setBlock w b (.map es' clock')).heap[b]? = some (.map es' clock') := ChangeMaps.heap_setBlock_same hh _
  have hR := G.setRow (dst := o.dst) hd (q := q) (t := .ent k v) (n := n) (v := v0) (v' := v0) (xs := xs) (zs := mput k v xs y y2) (hd' := .map (some b)) hq g1 (w' := ChangeMaps.setBlock w b (.map es' clock'))
    ⟨_, rfl, .inr ⟨b, rfl, ⟨es', clock', hself, hes'⟩, hO⟩⟩ hOb (fun i hi => ChangeMaps.heap_setBlock_other hh _ hi) rfl rfl rfl (by simp [ChangeMaps.setBlock]) [(q, some (.row (.ent k v) n v0 false (mput k v xs y y2)))] (by simp [look, fnd_cons])
    (fun r hr => by apply look_append_none; rw [fnd_cons, if_neg (Ne.symm hr)]; rfl) (fnd_isSome_append g3) (.inl rfl)
    (fun _ => ⟨fun is hv => by cases is with | nil => exact ⟨trivial, by simp [hdrAt]⟩ | cons i is => exact hv.elim, fun is p hv => by
      cases is with
      | nil => exact hv.elim
      | cons i is => cases is with | nil => cases hv.1 | cons j is => exact hv.elim⟩) (val := .un) (x := undef) (.un _)
  refine wp_skip' hn h ⟨_, _, _, hR⟩ ?_
  simp only [execOp, ho, hrun, Sem.run_bind, Result.andThen_ok, Sem.run_pure]
end
end Go.Proofs.YtpoppblfnaipbaaDoor.Eng
/-! ## The engine: one operation is sound. -/
namespace Go.Proofs.YtpoppblfnaipbaaDoor.Eng
open Go
set_option autoImplicit false
set_option linter.unusedVariables false
set_option linter.unusedSimpArgs false

section
variable {P : Program} {B : Base} {D : Bs} {η : Nat → Gh} {O : Nat → Bs} {σ : St} {a : Act} {w : World} {o : Oper} {next : Act → World → Prop} {Q : Exit → Act → World → Prop} {R : Type} {r : R} {K : V → Heap → Option R}

theorem blt_of {a b : Nat} (h : Nat.blt a b = true) : a < b := by simpa using h
theorem step_load {A : Ann} (W : WF P A) {S : Sm A} {κ : Nat} (G : RelG B D η O σ a w) (hn : Post B σ a o.dst next K r) (hd : ∀ d, o.dst = some d → d < B.N) {T : Nat} {x : Operand} (ho : o.op = .load T x) (h : stepO P S κ σ.eval σ.h o K = some r) : o.wp P a w next Q := by
  unfold stepO at h; rw [ho] at h; dsimp only at h
  split at h
  · rename_i t q c ht hx
    split at h
    · rename_i l hq; exact op_load_ptr W G hn hd T x ho ht hx hq h
    · cases h
  · rename_i t s y ht hx
    split at h
    · rename_i hs; exact op_load_el W G hn hd T x ho ht hx hs h
    · cases h
  · rename_i t l c ht hx; exact op_load_eb W G hn hd T x ho ht hx h
  · rename_i q c ht hx
    split at h
    · rename_i v hT hq; exact op_load_fn W G hn hd T x ho hT hx hq h
    · cases h
  · rename_i l c ht hx
    split at h
    · rename_i v hT; exact op_load_fneb W G hn hd T x ho hT hx h
    · cases h
  · rename_i t q is v p s ht hx
    split at h
    · rename_i t0 n v0 fz xs hq hs
      obtain rfl := Ty.eq_of_beq hs
      split at h
      · rename_i c hv hc
        obtain rfl := Nat.eq_of_beq_eq_true hv
        exact op_load_rp W G hn hd T x ho ht hx hq hc h
      · cases h
    · cases h
  · cases h
theorem step_store {A : Ann} (W : WF P A) {S : Sm A} {κ : Nat} (G : RelG B D η O σ a w) (hn : Post B σ a o.dst next K r) (hd : ∀ d, o.dst = some d → d < B.N) {T : Nat} {ad x : Operand} (ho : o.op = .store T ad x) (h : stepO P S κ σ.eval σ.h o K = some r) : o.wp P a w next Q := by
  unfold stepO at h; rw [ho] at h; dsimp only at h
  split at h
  · rename_i t q c ht hx
    split at h
    · rename_i l hq hb
      simp only [Bool.and_eq_true] at hb
      split at h
      · rename_i hle
        exact op_store_ptr W G hn hd T ad x ho ht hx hq (Nat.eq_of_beq_eq_true hb.1) (blt_of hb.2) (Nat.le_of_ble_eq_true hle) h
      · cases h
    · cases h
  · rename_i q c ht hx
    split at h
    · rename_i v0 f caps hT hq hf; exact op_store_fn W G hn hd T ad x ho hT hx hq hf h
    · cases h
  · rename_i t q is v p s ht hx
    split at h
    · split at h
      case h_2 => cases h
      rename_i i hb
      simp only [Bool.and_eq_true] at hb
      obtain rfl := Ty.eq_of_beq hb.2
      obtain rfl := Ty.eq_of_beq hb.1
      split at h
      · rename_i u hs; exact op_store_own W G hn hd T κ ad x ho ht hx hs h
      · cases h
    split at h
    · rename_i y u hb hy
      simp only [Bool.and_eq_true] at hb
      obtain rfl := Ty.eq_of_beq hb.1
      split at h
      · rename_i t0 n v0 xs hq
        split at h
        · rename_i zs hb2 hset
          simp only [Bool.and_eq_true] at hb2
          obtain rfl := Nat.eq_of_beq_eq_true hb2.1
          exact op_store_rp W G hn hd T κ ad x ho ht (blt_of hb.2) hx hy hq (Nat.le_of_ble_eq_true hb2.2) hset h
        · cases h
      · cases h
    · cases h
  · cases h
theorem step_conv {A : Ann} (W : WF P A) {S : Sm A} {κ : Nat} (G : RelG B D η O σ a w) (hn : Post B σ a o.dst next K r) (hd : ∀ d, o.dst = some d → d < B.N) {T U : Nat} {x : Operand} (ho : o.op = .convert T U x) (h : stepO P S κ σ.eval σ.h o K = some r) : o.wp P a w next Q := by
  unfold stepO at h; rw [ho] at h; dsimp only at h
  split at h
  · rename_i d k l n hT hU hx; exact op_conv_int G hn hd T U x ho hT hU _ hx h
  · rename_i s hT hU hx; exact op_conv_str G hn hd T U x ho hT hU _ hx h
  · rename_i e hT hU
    split at h
    · rename_i xs he hr; exact op_conv_bstr W G hn hd T U e x ho hT hU he hr h
    · cases h
  · rename_i e s hT hU hx
    split at h
    · rename_i he; exact op_conv_bytes W G hn hd T U e x ho hT hU he hx h
    · cases h
  · cases h
theorem step_slice {A : Ann} (W : WF P A) {S : Sm A} {κ : Nat} (G : RelG B D η O σ a w) (hn : Post B σ a o.dst next K r) (hd : ∀ d, o.dst = some d → d < B.N) {T : Nat} {x : Operand} {lo hi mx : Option Operand} (ho : o.op = .slice T x lo hi mx) (h : stepO P S κ σ.eval σ.h o K = some r) : o.wp P a w next Q := by
  unfold stepO at h; rw [ho] at h; dsimp only at h
  split at h
  · rename_i s hx
    split at h
    · cases h
    · rename_i hT; exact op_slice_str W G hn hd T x lo hi ho hT hx h
  · rename_i t xs hx
    split at h
    · cases h
    · rename_i hT; exact op_slice_sl W G hn hd T x lo hi ho hT hx h
  · rename_i q is v t hx
    split at h
    · rename_i hmv hT
      split at h
      · rename_i xs n u hb hf
        rw [← hx] at hb
        exact op_slice_mv W G hn hd T x lo ho hT hb hf h
      · cases h
    · rename_i y hmv hT
      split at h
      · rename_i xs n u hb hf
        rw [← hx] at hb
        exact op_slice_mvh W G hn hd T x y lo ho hT hb hf h
      · cases h
    · rename_i xs u hm hT hl
      rw [← hx] at hl
      exact op_slice_ref W G hn hd T x lo _ ho hT hl h
    · cases h
  · cases h
theorem step_fieldAddr {A : Ann} (W : WF P A) {S : Sm A} {κ : Nat} (G : RelG B D η O σ a w) (hn : Post B σ a o.dst next K r) (hd : ∀ d, o.dst = some d → d < B.N) {T f : Nat} {x : Operand} (ho : o.op = .fieldAddr T x f) (h : stepO P S κ σ.eval σ.h o K = some r) : o.wp P a w next Q := by
  unfold stepO at h; rw [ho] at h; dsimp only at h
  split at h
  · rename_i c p q e hf hx
    split at h
    · rename_i hl; exact op_fieldAddr_ptr G hn hd T f x ho hf hx (liveB_box hl) h
    · cases h
  · rename_i c p l e hf hx; exact op_fieldAddr_eb G hn hd T f x ho hf hx h
  · rename_i c p t y hf hx
    split at h
    · rename_i z ht hz; exact op_fieldAddr_el W G hn hd T f x ho hf hx ht hz h
    · cases h
  · rename_i c p q is v pp t hf hx
    split at h
    · rename_i z hb hz
      simp only [Bool.and_eq_true] at hb
      exact op_fieldAddr_rp W G hn hd T f x ho hf hx hb.1 hb.2 hz h
    · cases h
  · cases h
theorem step_indexAddr {A : Ann} (W : WF P A) {S : Sm A} {κ : Nat} (G : RelG B D η O σ a w) (hn : Post B σ a o.dst next K r) (hd : ∀ d, o.dst = some d → d < B.N) {T : Nat} {x i : Operand} (ho : o.op = .indexAddr T x i) (h : stepO P S κ σ.eval σ.h o K = some r) : o.wp P a w next Q := by
  unfold stepO at h; rw [ho] at h; dsimp only at h
  split at h
  · rename_i t xs hx
    split at h
    · rename_i hT; exact op_indexAddr_sl W G hn hd T x i ho hT hx h
    · cases h
  · rename_i q is v t hx
    split at h
    · rename_i s xs hr
      split at h
      · rename_i t0 n v0 fz xs0 hT hq; exact op_indexAddr_ref W G hn hd T x i ho hx hr hT hq h
      · cases h
    · cases h
  · rename_i q c hx
    split at h
    · rename_i n e hT
      split at h
      · rename_i t k j ht hi
        split at h
        · rename_i hb
          simp only [Bool.and_eq_true] at hb
          exact op_indexAddr_arr W G hn hd T x i ho hT ht hx (liveB_box hb.2) hi (blt_of hb.1) h
        · cases h
      · cases h
    · cases h
  · cases h
theorem step_unOp {A : Ann} (W : WF P A) {S : Sm A} {κ : Nat} (G : RelG B D η O σ a w) (hn : Post B σ a o.dst next K r) (hd : ∀ d, o.dst = some d → d < B.N) {op : UnOp} {T : Nat} {x : Operand} (ho : o.op = .unOp op T x) (h : stepO P S κ σ.eval σ.h o K = some r) : o.wp P a w next Q := by
  unfold stepO at h; rw [ho] at h; dsimp only at h
  split at h
  · rename_i b hx; exact op_unOp_not G hn hd x T ho b (by rw [hx]; rfl) _ (.inr rfl) h
  · rename_i b hx; exact op_unOp_not G hn hd x T ho b (by rw [hx]; rfl) _ (.inl rfl) h
  · rename_i k n hx; exact op_unOp_neg G hn hd x T ho k n hx h
  · cases h
theorem step_nilCheck {A : Ann} (W : WF P A) {S : Sm A} {κ : Nat} (G : RelG B D η O σ a w) (hn : Post B σ a o.dst next K r) (hd : ∀ d, o.dst = some d → d < B.N) {x : Operand} (ho : o.op = .nilCheck x) (h : stepO P S κ σ.eval σ.h o K = some r) : o.wp P a w next Q := by
  unfold stepO at h; rw [ho] at h; dsimp only at h
  split at h
  · rename_i q c hx
    split at h
    · rename_i hl
      obtain ⟨l, hq⟩ := liveB_box hl
      exact op_nilCheck G hn hd x ho (.inl ⟨q, c, l, hx, hq⟩) (by rw [hx]; exact h)
    · cases h
  · rename_i t y hx; exact op_nilCheck G hn hd x ho (.inr (.inl ⟨t, y, hx⟩)) (by rw [hx]; exact h)
  · rename_i l c hx; exact op_nilCheck G hn hd x ho (.inr (.inr ⟨l, c, hx⟩)) (by rw [hx]; exact h)
  · rename_i q is v p t hx
    split at h
    · rename_i hl; exact op_nilCheck_rp G hn hd x ho hx hl h
    · cases h
  · cases h
theorem ifE_some' {p : Prop} [Decidable p] {x : Option R} (h : ifE p x none = some r) : p ∧ x = some r := ifE_some h
theorem step_call {A : Ann} (W : WF P A) {S : Sm A} {κ : Nat} (G : RelG B D η O σ a w) (hn : Post B σ a o.dst next K r) (hd : ∀ d, o.dst = some d → d < B.N)
    (hcall : ∀ (c : Call) (f : Operand) (g : Nat) (caps : List V), o.op = .call c → c.callee = .value f → σ.eval f = .fn g caps → callV S κ g σ.h (c.args.toList.map σ.eval ++ caps) K = some r → o.wp P a w next Q)
    {c : Call} (ho : o.op = .call c) (h : stepO P S κ σ.eval σ.h o K = some r) : o.wp P a w next Q := by
  unfold stepO at h; rw [ho] at h; dsimp only at h
  split at h
  · rename_i hc
    split at h
    · rename_i v T hv hT
      split at h
      · rename_i n hl; exact op_len W G hn hd c ho hc hT hv hl h
      · cases h
    · cases h
  · rename_i hc
    split at h
    · rename_i va vb T U hv hT
      split at h
      · rename_i t ht hb
        simp only [Bool.and_eq_true] at hb
        obtain rfl := Nat.eq_of_beq_eq_true hb.2.1
        obtain ⟨ht', hte⟩ := elemTy_of ht
        split at h
        · rename_i xs n u hba
          split at h
          · rename_i ys m u' had
            obtain ⟨h1, h2⟩ := ifE_some h
            refine op_append W G hn hd c ho hc hT ht' hte ?_ hb.1 hv hba had h1 h2
            have := hb.2.2
            unfold nosz at this
            rw [ht'] at this
            exact blt_of this
          · cases h
        · cases h
      · cases h
    · cases h
  · rename_i hc
    split at h
    · rename_i k x l hx
      split at h
      · rename_i z hz; exact op_mm G hn hd c ho false hc hx hz h
      · cases h
    · cases h
  · rename_i hc
    split at h
    · rename_i k x l hx
      split at h
      · rename_i z hz; exact op_mm G hn hd c ho true hc hx hz h
      · cases h
    · cases h
  · rename_i f hc
    split at h
    · rename_i g caps hf; exact hcall c f g caps ho hc hf h
    · cases h
  · cases h
/-- One operation. -/
theorem step_ok {A : Ann} (W : WF P A) {S : Sm A} {κ : Nat} (G : RelG B D η O σ a w) (hn : Post B σ a o.dst next K r) (hd : ∀ d, o.dst = some d → d < B.N)
    (hcall : ∀ (c : Call) (f : Operand) (g : Nat) (caps : List V), o.op = .call c → c.callee = .value f → σ.eval f = .fn g caps → callV S κ g σ.h (c.args.toList.map σ.eval ++ caps) K = some r → o.wp P a w next Q)
    (h : stepO P S κ σ.eval σ.h o K = some r) : o.wp P a w next Q := by
  cases ho : o.op with
  | load T x => exact step_load W G hn hd ho h
  | store T x y => exact step_store W G hn hd ho h
  | convert T U x => exact step_conv W G hn hd ho h
  | slice T x lo hi mx => exact step_slice W G hn hd ho h
  | fieldAddr T x f => exact step_fieldAddr W G hn hd ho h
  | indexAddr T x i => exact step_indexAddr W G hn hd ho h
  | unOp op T x => exact step_unOp W G hn hd ho h
  | nilCheck x => exact step_nilCheck W G hn hd ho h
  | call c => exact step_call W G hn hd hcall ho h
  | move x => unfold stepO at h; rw [ho] at h; exact op_move G hn hd x (.inl ho) h
  | assign x => unfold stepO at h; rw [ho] at h; exact op_move G hn hd x (.inr ho) h
  | pick c x y =>
    unfold stepO at h; rw [ho] at h; dsimp only at h
    split at h
    · rename_i b hb; exact op_pick G hn hd c x y ho b hb h
    · cases h
  | alloc T =>
    unfold stepO at h; rw [ho] at h; dsimp only at h
    split at h
    · rename_i t ht hκ; exact op_alloc W G hn hd T κ ho ht hκ h
    · rename_i ht hκ
      split at h
      · rename_i hT; exact op_alloc_fn W G hn hd T κ ho hT hκ h
      · cases h
    · cases h
  | box T x =>
    unfold stepO at h; rw [ho] at h; dsimp only at h
    split at h
    · rename_i t ht hκ
      split at h
      · rename_i hb
        simp only [Bool.and_eq_true] at hb
        exact op_box G hn hd T κ x ho hκ (by have h1 := Nat.eq_of_beq_eq_true hb.1; have h2 := blt_of hb.2; omega) h
      · cases h
    · cases h
  | build T parts =>
    unfold stepO at h; rw [ho] at h; dsimp only at h
    split at h
    case h_2 => cases h
    rename_i t ht hbo
    split at h
    case h_2 => cases h
    rename_i l hf
    refine op_build W G hn hd T parts ho ht hf ?_ h
    unfold buildOk at hbo
    split at hbo
    · rename_i n e hu
      split at hbo
      · rename_i i hi; exact ⟨_, hu, .inl ⟨n, e, i, rfl, hi⟩⟩
      · cases hbo
    · rename_i fs hu
      split at hbo
      · rename_i ps hp; exact ⟨_, hu, .inr ⟨fs, ps, rfl, hp⟩⟩
      · cases hbo
    · cases hbo
  | buildSlice T n parts =>
    unfold stepO at h; rw [ho] at h; dsimp only at h
    split at h
    · rename_i t vs ht hp hκ
      obtain ⟨ht', hte⟩ := elemTy_of ht
      split at h
      · rename_i xs m u hb he
        simp only [Bool.and_eq_true] at hb
        exact op_buildSlice W G hn hd T n κ parts ho ht' hte (blt_of hb.2.1) hp hκ (Nat.eq_of_beq_eq_true hb.1) (Nat.le_of_ble_eq_true hb.2.2) he h
      · cases h
    · cases h
  | binOp op T x y U =>
    unfold stepO at h; rw [ho] at h
    exact op_bin W G (K := fun v => K v []) (fun v x hK hR => hn v [] x w hK hR) hd op T U x y ho h
  | makeFunc f first caps =>
    unfold stepO at h; rw [ho] at h
    cases f with
    | func f =>
      dsimp only at h
      split at h
      · rename_i hf; exact op_makeFunc G hn hd f first caps ho hf h
      · cases h
    | _ => cases h
  | makeSlice T l c =>
    unfold stepO at h; rw [ho] at h; dsimp only at h
    split at h
    · rename_i t k n k' m ht hl hc hκ
      obtain ⟨ht', hte⟩ := elemTy_of ht
      split at h
      case h_1 => cases h
      rename_i hne
      obtain ⟨h1, e1⟩ := ifE_some h
      obtain ⟨h2, e2⟩ := ifE_some e1
      obtain ⟨h3, e3⟩ := ifE_some e2
      subst h1
      exact op_makeSlice W G hn hd T κ l c ho ht' hte hne hκ hl hc h2 h3 e3
    · cases h
  | field T x f =>
    unfold stepO at h; rw [ho] at h; dsimp only at h
    split at h
    · rename_i c p l t hf hx hty
      refine op_field W G hn hd T f x ho hf ?_ hx h
      unfold fieldTy at hty
      split at hty
      · rename_i fs hu
        split at hty
        · rename_i g hg; exact ⟨fs, g, hu, hg, hty⟩
        · cases hty
      · cases hty
    · cases h
  | index T x i =>
    unfold stepO at h; rw [ho] at h; dsimp only at h
    split at h
    · rename_i s hx
      split at h
      · rename_i hT; exact op_index W G hn hd T x i ho hT hx h
      · cases h
    · cases h
  | extract x i =>
    unfold stepO at h; rw [ho] at h; dsimp only at h
    split at h
    · rename_i l hx
      split at h
      · rename_i v hl; exact op_extract G hn hd x i ho hx hl h
      · cases h
    · cases h
  | makeMap T rs =>
    unfold stepO at h; rw [ho] at h
    cases rs with
    | some _ => cases h
    | none =>
      dsimp only at h
      split at h
      · rename_i k v ht hκ; exact op_makeMap W G hn hd T κ ho hκ h
      · cases h
  | lookup T m x ok =>
    unfold stepO at h; rw [ho] at h; dsimp only at h
    split at h
    · rename_i k v t xs ht hm hst
      split at h
      · rename_i xs' y hc hy
        obtain ⟨e, hx⟩ := cast_eq hc
        subst e
        obtain rfl : xs' = xs := hx
        exact op_lookup W G hn hd T m x ok ho ht hst hm hy h
      · cases h
    · cases h
  | mapUpdate T m x z =>
    unfold stepO at h; rw [ho] at h; dsimp only at h
    split at h
    · rename_i k v q ver e ht hm hst
      split at h
      · rename_i t0 n v0 xs hq
        split at h
        · rename_i xs' y y2 hc hy hy2 hf
          obtain ⟨e, hx⟩ := cast_eq hc
          cases e
          obtain rfl : xs' = xs := hx
          exact op_mapUpdate W G hn hd T m x z ho ht hst hm hq hy hy2 hf h
        · cases h
      · cases h
    · cases h
  | _ => unfold stepO at h; rw [ho] at h; cases h
end
end Go.Proofs.YtpoppblfnaipbaaDoor.Eng

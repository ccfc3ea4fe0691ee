import PyProof.Rows.All
import Wide.All
import OpenK.AllK
import Wide.FinOn
import PySem.Challenge.RW_nt0480_01
open PySem PySem.W PyProof.Rows
set_option Elab.async false
set_option maxRecDepth 100000
namespace Mine
set_option maxHeartbeats 8000000
open_top hd for PySem.Challenge.rw_nt0480_01
end Mine

namespace Mine
def divV (n b : Int) : Int :=
  if (decide (n < 0) == decide (b < 0)) = true then Int.fdiv (2 * (if n < 0 then -n else n) + (if b < 0 then -b else b)) (2 * (if b < 0 then -b else b))
  else -(Int.fdiv (2 * (if n < 0 then -n else n) + (if b < 0 then -b else b)) (2 * (if b < 0 then -b else b)))

theorem fdiv_of {x y q : Int} (hy : 0 < y) (h1 : q * y ≤ x) (h2 : x < q * y + y) : Int.fdiv x y = q := by
  rw [Int.fdiv_eq_ediv_of_nonneg x (by omega)]
  have a : q ≤ x / y := (Int.le_ediv_iff_mul_le hy).mpr h1
  have b : x / y < q + 1 := (Int.ediv_lt_iff_lt_mul hy).mpr (by rw [Int.add_mul, Int.one_mul]; exact h2)
  omega
theorem divV_is {n b q X : Int} (hX : q * b = X) (hb : b ≠ 0)
    (h1 : 0 < b → 0 ≤ n → 2 * X ≤ 2 * n + b ∧ 2 * n + b < 2 * X + 2 * b)
    (h2 : b < 0 → n < 0 → -(2 * X) ≤ -(2 * n) - b ∧ -(2 * n) - b < -(2 * X) - 2 * b)
    (h3 : 0 < b → n < 0 → -(2 * X) ≤ -(2 * n) + b ∧ -(2 * n) + b < -(2 * X) + 2 * b)
    (h4 : b < 0 → 0 ≤ n → 2 * X ≤ 2 * n - b ∧ 2 * n - b < 2 * X - 2 * b) : divV n b = q := by
  have e : ∀ y : Int, q * (2 * y) = 2 * (q * y) := fun y => by rw [Int.mul_left_comm]
  have e1 : q * (2 * b) = 2 * X := by rw [e, hX]
  have e2 : q * (2 * -b) = -(2 * X) := by rw [e, Int.mul_neg, hX, Int.mul_neg]
  have e3 : -q * (2 * b) = -(2 * X) := by rw [Int.neg_mul, e1]
  have e4 : -q * (2 * -b) = 2 * X := by rw [Int.neg_mul, e2, Int.neg_neg]
  unfold divV
  rcases Int.lt_or_gt_of_ne hb with hb' | hb'
  · by_cases hn : n < 0
    · have hc : (decide (n < 0) == decide (b < 0)) = true := by simp [hn, hb']
      obtain ⟨a, c⟩ := h2 hb' hn
      rw [if_pos hc, if_pos hn, if_pos hb']
      refine fdiv_of (by omega) ?_ ?_ <;> rw [e2] <;> omega
    · have hc : ¬ (decide (n < 0) == decide (b < 0)) = true := by simp [hn, hb']
      obtain ⟨a, c⟩ := h4 hb' (by omega)
      rw [if_neg hc, if_neg hn, if_pos hb']
      have : Int.fdiv (2 * n + -b) (2 * -b) = -q := by
        refine fdiv_of (by omega) ?_ ?_ <;> rw [e4] <;> omega
      omega
  · by_cases hn : n < 0
    · have hc : ¬ (decide (n < 0) == decide (b < 0)) = true := by simp [hn]; omega
      obtain ⟨a, c⟩ := h3 hb' hn
      rw [if_neg hc, if_pos hn, if_neg (by omega)]
      have : Int.fdiv (2 * -n + b) (2 * b) = -q := by
        refine fdiv_of (by omega) ?_ ?_ <;> rw [e3] <;> omega
      omega
    · have hc : (decide (n < 0) == decide (b < 0)) = true := by simp [hn]; omega
      obtain ⟨a, c⟩ := h1 hb' (by omega)
      rw [if_pos hc, if_neg hn, if_neg (by omega)]
      refine fdiv_of (by omega) ?_ ?_ <;> rw [e1] <;> omega
theorem fdiv_facts (n b : Int) (hb : b ≠ 0) : (0 < b → n.fdiv b * b ≤ n ∧ n < n.fdiv b * b + b) ∧ (b < 0 → n ≤ n.fdiv b * b ∧ n.fdiv b * b + b < n) := by
  have e : n.fdiv b * b + n.fmod b = n := by rw [Int.mul_comm]; exact Int.mul_fdiv_add_fmod n b
  constructor
  · intro h
    have h1 : 0 ≤ n.fmod b := by rw [Int.fmod_eq_emod_of_nonneg n (by omega)]; exact Int.emod_nonneg n hb
    have h2 : n.fmod b < b := by rw [Int.fmod_eq_emod_of_nonneg n (by omega)]; exact Int.emod_lt_of_pos n h
    omega
  · intro h
    have h1 : n.fmod b ≤ 0 := by
      have := Int.neg_fmod_neg n b
      have h3 : 0 ≤ (-n).fmod (-b) := by rw [Int.fmod_eq_emod_of_nonneg _ (by omega)]; exact Int.emod_nonneg _ (by omega)
      omega
    have h2 : b < n.fmod b := by
      have := Int.neg_fmod_neg n b
      have h3 : (-n).fmod (-b) < -b := by rw [Int.fmod_eq_emod_of_nonneg _ (by omega)]; exact Int.emod_lt_of_pos _ (by omega)
      omega
    omega
theorem near_low {n b : Int} (hb : b ≠ 0)
    (h : (if n - n.fdiv b * b < 0 then -(n - n.fdiv b * b) else n - n.fdiv b * b) < (if n - (n.fdiv b + 1) * b < 0 then -(n - (n.fdiv b + 1) * b) else n - (n.fdiv b + 1) * b) ∨
      ((if n - n.fdiv b * b < 0 then -(n - n.fdiv b * b) else n - n.fdiv b * b) = (if n - (n.fdiv b + 1) * b < 0 then -(n - (n.fdiv b + 1) * b) else n - (n.fdiv b + 1) * b) ∧ (n < 0 ∧ 0 < b ∨ 0 < n ∧ b < 0))) :
    divV n b = n.fdiv b := by
  have F := fdiv_facts n b hb
  rw [Int.add_mul, Int.one_mul] at h
  refine divV_is rfl hb ?_ ?_ ?_ ?_ <;> (generalize n.fdiv b * b = P at *; intro g1 g2; split at h <;> split at h <;> omega)
theorem near_high {n b : Int} (hb : b ≠ 0)
    (h : (if n - (n.fdiv b + 1) * b < 0 then -(n - (n.fdiv b + 1) * b) else n - (n.fdiv b + 1) * b) < (if n - n.fdiv b * b < 0 then -(n - n.fdiv b * b) else n - n.fdiv b * b) ∨
      ((if n - n.fdiv b * b < 0 then -(n - n.fdiv b * b) else n - n.fdiv b * b) = (if n - (n.fdiv b + 1) * b < 0 then -(n - (n.fdiv b + 1) * b) else n - (n.fdiv b + 1) * b) ∧ ¬ (n < 0 ∧ 0 < b ∨ 0 < n ∧ b < 0))) :
    divV n b = n.fdiv b + 1 := by
  have F := fdiv_facts n b hb
  have Z : n = 0 → n.fdiv b * b = 0 := by intro h0; rw [h0, Int.zero_fdiv, Int.zero_mul]
  rw [Int.add_mul, Int.one_mul] at h
  refine divV_is (X := n.fdiv b * b + b) (by rw [Int.add_mul, Int.one_mul]) hb ?_ ?_ ?_ ?_ <;> (generalize n.fdiv b * b = P at *; intro g1 g2; split at h <;> split at h <;> omega)
def truncQ (n : Int) : Int := if n < 0 then -((-n).fdiv 1000000) else n.fdiv 1000000
theorem fd6 (x : Int) : x.fdiv 1000000 = x / 1000000 := Int.fdiv_eq_ediv_of_nonneg x (by decide)
theorem fd7 (x : Int) : x.fdiv 2000000 = x / 2000000 := Int.fdiv_eq_ediv_of_nonneg x (by decide)
def NumOk (n : Int) : Prop := n.natAbs < 10 ^ 18 ∧ (n.natAbs % 1000000 = 0 ∨ n.natAbs % 1000000 = 1 ∨ n.natAbs % 1000000 = 499999 ∨ n.natAbs % 1000000 = 500000 ∨ n.natAbs % 1000000 = 500001 ∨ n.natAbs % 1000000 = 999999)
end Mine

namespace Mine

def Claim (w : World) (mean : ExcName → Option Value) (mg mb : Str → Option Value) (f : Addr) (news : List (Addr × Obj)) (vs : List Value)
    (R : Heap → Addr → (Str → Option Value) → Shared → (Value → Shared → Prop) → Prop) : Prop :=
  ∀ (dp un : Nat) (gd : Option (List Code)) (cn : Str) (cs : Scope) (a : Addr) (ccd : Value) (cl : List (Str × Addr)) (outer : List Env) (A₀ : Around) (base h₀ : Heap) (L : Addr) (m : Str → Option Value) (s : Shared) (Q E : Value → Shared → Prop),
    Below A₀ base outer h₀ → Fr h₀ L s.heap m → (hd.heap_39 w.params).In h₀ → News h₀ L s.heap news →
    Top hd.view_39 (looseW hd.view_39 [Str.ofString "LEAST_INT", Str.ofString "MOST_INT", Str.ofString "PostError", Str.ofString "MOST_REAL"]) mean mg mb h₀ →
    cs.kind = .function → dp + 20 < recursionLimit → un + 1000 < cLine → R h₀ L m s Q →
    wpAny (model PySem.Challenge.rw_nt0480_01.row.prog w) (ktrTop dp un gd cn cs L a ccd cl outer) (call (.ref f) vs) Q E s

theorem claim_use {w : World} {mean : ExcName → Option Value} {mg mb : Str → Option Value} {f : Addr} {news : List (Addr × Obj)} {vs : List Value} {R : Heap → Addr → (Str → Option Value) → Shared → (Value → Shared → Prop) → Prop}
    {dp un : Nat} {gd : Option (List Code)} {cn : Str} {cs : Scope} {a : Addr} {ccd : Value} {cl : List (Str × Addr)} {outer : List Env} {A₀ : Around} {base h₀ : Heap} {L : Addr} {m : Str → Option Value} {s : Shared} {Q E : Value → Shared → Prop}
    (C : Claim w mean mg mb f news vs R) (B : Below A₀ base outer h₀) (F : Fr h₀ L s.heap m) (X : (hd.heap_39 w.params).In h₀) (N : News h₀ L s.heap news)
    (T : Top hd.view_39 (looseW hd.view_39 [Str.ofString "LEAST_INT", Str.ofString "MOST_INT", Str.ofString "PostError", Str.ofString "MOST_REAL"]) mean mg mb h₀)
    (hk : cs.kind = .function) (hdp : dp + 20 < recursionLimit) (hun : un + 1000 < cLine) (hR : R h₀ L m s Q) :
    wpAny (model PySem.Challenge.rw_nt0480_01.row.prog w) (ktrTop dp un gd cn cs L a ccd cl outer) (call (.ref f) vs) Q E s := C _ _ _ _ _ _ _ _ _ _ _ _ _ _ _ _ _ B F X N T hk hdp hun hR

def Claim40 (w : World) (mean : ExcName → Option Value) (mg mb : Str → Option Value) (f : Addr) (news : List (Addr × Obj)) (vs : List Value)
    (R : Heap → Addr → (Str → Option Value) → Shared → (Value → Shared → Prop) → Prop) : Prop :=
  ∀ (dp un : Nat) (gd : Option (List Code)) (cn : Str) (cs : Scope) (a : Addr) (ccd : Value) (cl : List (Str × Addr)) (outer : List Env) (A₀ : Around) (base h₀ : Heap) (L : Addr) (m : Str → Option Value) (s : Shared) (Q E : Value → Shared → Prop),
    Below A₀ base outer h₀ → Fr h₀ L s.heap m → (hd.heap_39 w.params).In h₀ → News h₀ L s.heap news →
    Top hd.view_39 (looseW hd.view_39 [Str.ofString "LEAST_INT", Str.ofString "MOST_INT", Str.ofString "PostError", Str.ofString "MOST_REAL"]) mean mg mb h₀ →
    cs.kind = .function → dp + 40 < recursionLimit → un + 2000 < cLine → R h₀ L m s Q →
    wpAny (model PySem.Challenge.rw_nt0480_01.row.prog w) (ktrTop dp un gd cn cs L a ccd cl outer) (call (.ref f) vs) Q E s

theorem claim40_use {w : World} {mean : ExcName → Option Value} {mg mb : Str → Option Value} {f : Addr} {news : List (Addr × Obj)} {vs : List Value} {R : Heap → Addr → (Str → Option Value) → Shared → (Value → Shared → Prop) → Prop}
    {dp un : Nat} {gd : Option (List Code)} {cn : Str} {cs : Scope} {a : Addr} {ccd : Value} {cl : List (Str × Addr)} {outer : List Env} {A₀ : Around} {base h₀ : Heap} {L : Addr} {m : Str → Option Value} {s : Shared} {Q E : Value → Shared → Prop}
    (C : Claim40 w mean mg mb f news vs R) (B : Below A₀ base outer h₀) (F : Fr h₀ L s.heap m) (X : (hd.heap_39 w.params).In h₀) (N : News h₀ L s.heap news)
    (T : Top hd.view_39 (looseW hd.view_39 [Str.ofString "LEAST_INT", Str.ofString "MOST_INT", Str.ofString "PostError", Str.ofString "MOST_REAL"]) mean mg mb h₀)
    (hk : cs.kind = .function) (hdp : dp + 40 < recursionLimit) (hun : un + 2000 < cLine) (hR : R h₀ L m s Q) :
    wpAny (model PySem.Challenge.rw_nt0480_01.row.prog w) (ktrTop dp un gd cn cs L a ccd cl outer) (call (.ref f) vs) Q E s := C _ _ _ _ _ _ _ _ _ _ _ _ _ _ _ _ _ B F X N T hk hdp hun hR

def RetInt (news : List (Addr × Obj)) (v : Int) (h₀ : Heap) (L : Addr) (m : Str → Option Value) (s : Shared) (Q : Value → Shared → Prop) : Prop :=
  ∀ (t : Tok) (h' : Heap) (tk' : Nat), Fr h₀ L h' m → News h₀ L h' news → Q (.int v t) { s with heap := h', toks := tk' }
def RetReal (news : List (Addr × Obj)) (v : Int) (h₀ : Heap) (L : Addr) (m : Str → Option Value) (s : Shared) (Q : Value → Shared → Prop) : Prop :=
  ∀ (x : Addr) (t t' : Tok) (h' : Heap) (tk' : Nat), Fr h₀ L h' m → News h₀ L h' ((x, { cls := .type "tuple", data := .seq #[.str (Str.ofString "real") t, .int v t'] }) :: news) → (∀ p ∈ news, p.1 < x) → Q (.ref x) { s with heap := h', toks := tk' }
def RetRef (news : List (Addr × Obj)) (x : Addr) (h₀ : Heap) (L : Addr) (m : Str → Option Value) (s : Shared) (Q : Value → Shared → Prop) : Prop :=
  ∀ (h' : Heap) (tk' : Nat), Fr h₀ L h' m → News h₀ L h' news → Q (.ref x) { s with heap := h', toks := tk' }
theorem news_cut {h₀ h : Heap} {L : Addr} {l l' : List (Addr × Obj)} (N : News h₀ L h l) (hs : ∀ p ∈ l', p ∈ l) : News h₀ L h l' := fun p hp => N p (hs p hp)

theorem updF_mem {d : Addr} {o : Obj} {l : List (Addr × Obj)} {g : Obj → List (Addr × Obj)} (U : UpdF d o l g) (o' : Obj) : (d, o') ∈ g o' := by
  obtain ⟨pre, post, _, e, _, _⟩ := U.split
  rw [e]; simp
theorem updF_here {d : Addr} {o : Obj} {l : List (Addr × Obj)} {g : Obj → List (Addr × Obj)} (U : UpdF d o l g) : (d, o) ∈ l := by
  obtain ⟨pre, post, e, _, _, _⟩ := U.split
  rw [e]; simp
theorem updF_other {d b : Addr} {o x : Obj} {l : List (Addr × Obj)} {g : Obj → List (Addr × Obj)} (U : UpdF d o l g) (o' : Obj) (hb : (b, x) ∈ l) (hne : b ≠ d) : (b, x) ∈ g o' := by
  obtain ⟨pre, post, e, e', _, _⟩ := U.split
  rw [e] at hb
  rw [e']
  simp only [List.mem_append, List.mem_cons, Prod.mk.injEq] at hb ⊢
  rcases hb with h | h | h
  · exact .inl h
  · exact absurd h.1 hne
  · exact .inr (.inr h)
theorem updF_upd {d : Addr} {o : Obj} {l : List (Addr × Obj)} {g : Obj → List (Addr × Obj)} (U : UpdF d o l g) (o' : Obj) : Upd d o o' l (g o') := by
  induction U with
  | head h => exact .head h
  | tail h _ ih => exact .tail h ih
end Mine

namespace Mine
example (w : World) : (PySem.Challenge.rw_nt0480_01 = PySem.Challenge.rw_nt0480_01 ∧ Mine.hd.heap_39 w.params = Mine.hd.heap_39 w.params) := by k_fill; exact ⟨rfl, rfl⟩
local macro_rules | `(tactic| k_mem) => `(tactic| first | assumption | exact updF_here (by assumption) | exact updF_mem (by assumption) _ | exact updF_other (by assumption) _ (by assumption) (by assumption))
local macro_rules | `(tactic| news_mem) => `(tactic| k_mem)
local macro_rules | `(tactic| k_upd) => `(tactic| exact updF_upd (by assumption) _)
local macro_rules | `(tactic| k_updF) => `(tactic| assumption)
local macro_rules | `(tactic| units_room) => `(tactic| ktr_units)
set_option maxHeartbeats 4000000 in
theorem draw_c {w : World} {mean : ExcName → Option Value} {mg mb : Str → Option Value} {D C : Addr} {n c : Nat} {vs : List Value} {ns : List Int} {k below : Int} {tk tb : Tok} {news : List (Addr × Obj)} {g : Obj → List (Addr × Obj)}
   (U : UpdF D (listOf #[.ref C, .int k tk] n) news g) (hC : (C, listOf vs.toArray c) ∈ news) (hCD : C ≠ D) (hi : IntsAre vs ns) (hlen : ns.length ≤ 24) (hk0 : 0 ≤ k) (hk1 : k ≤ 100) (hb : 1 ≤ below) (hb' : below ≤ 1000) :
   Claim w mean mg mb 110 news [.ref D, .int below tb] (fun h₀ L m s Q => ∀ (v : Int) (t t' : Tok) (h' : Heap) (tk' : Nat), 0 ≤ v → v < below → Fr h₀ L h' m → News h₀ L h' (g (listOf #[.ref C, .int (k+1) t'] n)) → Q (.int v t) {s with heap := h', toks := tk'}) := by
  unfold Claim
  intro dp un gd cn cs a ccd cl outer A₀ base h₀ L m s Q E B F X N T hk hdp hun hret
  refine wpAny_call ?_
  k_dflt cell_enter
  k_steps
  all_goals try (exfalso; exact (of_decide_eq_false (by assumption : decide (ns = []) = false)) (List.length_eq_zero_iff.mp (by omega)))
  all_goals exact hret _ _ _ _ _ (fmod_lo _ (by omega)) (fmod_hi _ (by omega)) (by k_asm) (news_cut (by k_asm) (fun p hp => by repeat (first | exact hp | refine List.Mem.tail _ ?_)))
end Mine

namespace Mine
example (w : World) : (PySem.Challenge.rw_nt0480_01 = PySem.Challenge.rw_nt0480_01 ∧ Mine.hd.heap_39 w.params = Mine.hd.heap_39 w.params) := by k_fill; exact ⟨rfl, rfl⟩
local macro_rules | `(tactic| k_mem) => `(tactic| assumption)
local macro_rules | `(tactic| news_mem) => `(tactic| k_mem)
local macro_rules | `(tactic| units_room) => `(tactic| ktr_units)
local macro_rules | `(tactic| walk_at "call ref") => `(tactic| k_extra "Floor10")
set_option maxHeartbeats 4000000

theorem floor_real {w : World} {mean : ExcName → Option Value} {mg mb : Str → Option Value} {P : Addr} {t1 t2 : Tok} {v : Int} {news : List (Addr × Obj)}
   (hP : (P, ({ cls := .type "tuple", data := .seq #[.str (Str.ofString "real") t1, .int v t2] } : Obj)) ∈ news) (h0 : -100000000000000000000 ≤ v) (h1 : v ≤ 100000000000000000000) :
   Claim w mean mg mb 75 news [.ref P] (RetReal news (Int.fdiv v 1000000 * 1000000)) := by
  k_with_none
  k_with "Floor10" => (k_here; k_dflt (refine wpAny_call ?_; refine' code_def ?k1 ?k2 ?k3 ?k4 ?k5 ?kA ?kF ?kK ?k6 ?k7 ?k8 ?k9 ?kB ?_ ?c2 ?c3 ?c4 ?c5; (case kA => exact rfl); (case kF => exact rfl); (case kK => first | exact rfl | assumption); (case k1 => k_asm); (case k2 => k_asm); (case k3 => k_asm); (case k4 => k_asm); (case k5 => k_asm); (case k6 => k_is); (case k7 => k_is); (case k8 => ktr_room); (case k9 => exact BindsTo.of_eq rfl); (case c5 => decide); (case kB => exact locs rfl); (case c2 => exact rfl); (case c3 => exact rfl); (case c4 => exact rfl); k_whole; intro g' L' h' FG' F' N' B' X' T'; (try dsimp only); (try k_lift B'); (try k_fold)))
  unfold Claim
  intro dp un gd cn cs a ccd cl outer A₀ base h₀ L m s Q E B F X N T hk hdp hun hret
  unfold RetReal at hret
  walk_at "call ref"
  k_steps
  all_goals first
    | exact hret _ _ _ _ _ (by k_asm) (by k_asm) (by k_asm)
    | (rw [if_pos (by assumption)] at hret; exact hret _ _ _ _ _ (by k_asm) (by k_asm) (by k_asm))
    | (rw [if_neg (by omega)] at hret; exact hret _ _ _ _ _ (by k_asm) (by k_asm) (by k_asm))

theorem ceil_real {w : World} {mean : ExcName → Option Value} {mg mb : Str → Option Value} {P : Addr} {t1 t2 : Tok} {v : Int} {news : List (Addr × Obj)}
   (hP : (P, ({ cls := .type "tuple", data := .seq #[.str (Str.ofString "real") t1, .int v t2] } : Obj)) ∈ news) (h0 : -100000000000000000000 ≤ v) (h1 : v ≤ 100000000000000000000) :
   Claim w mean mg mb 82 news [.ref P] (RetReal news (-(Int.fdiv (-v) 1000000) * 1000000)) := by
  k_with_none
  k_with "Floor10" => (k_here; k_dflt (refine wpAny_call ?_; refine' code_def ?k1 ?k2 ?k3 ?k4 ?k5 ?kA ?kF ?kK ?k6 ?k7 ?k8 ?k9 ?kB ?_ ?c2 ?c3 ?c4 ?c5; (case kA => exact rfl); (case kF => exact rfl); (case kK => first | exact rfl | assumption); (case k1 => k_asm); (case k2 => k_asm); (case k3 => k_asm); (case k4 => k_asm); (case k5 => k_asm); (case k6 => k_is); (case k7 => k_is); (case k8 => ktr_room); (case k9 => exact BindsTo.of_eq rfl); (case c5 => decide); (case kB => exact locs rfl); (case c2 => exact rfl); (case c3 => exact rfl); (case c4 => exact rfl); k_whole; intro g' L' h' FG' F' N' B' X' T'; (try dsimp only); (try k_lift B'); (try k_fold)))
  unfold Claim
  intro dp un gd cn cs a ccd cl outer A₀ base h₀ L m s Q E B F X N T hk hdp hun hret
  unfold RetReal at hret
  walk_at "call ref"
  k_steps
  all_goals first
    | exact hret _ _ _ _ _ (by k_asm) (by k_asm) (by k_asm)
    | (rw [if_pos (by assumption)] at hret; exact hret _ _ _ _ _ (by k_asm) (by k_asm) (by k_asm))
    | (rw [if_neg (by omega)] at hret; exact hret _ _ _ _ _ (by k_asm) (by k_asm) (by k_asm))

theorem round_real {w : World} {mean : ExcName → Option Value} {mg mb : Str → Option Value} {P : Addr} {t1 t2 : Tok} {v : Int} {news : List (Addr × Obj)}
   (hP : (P, ({ cls := .type "tuple", data := .seq #[.str (Str.ofString "real") t1, .int v t2] } : Obj)) ∈ news) (h0 : -100000000000000000000 ≤ v) (h1 : v ≤ 100000000000000000000) :
   Claim w mean mg mb 89 news [.ref P] (RetReal news (Int.fdiv (2 * v + 1000000) (2 * 1000000) * 1000000)) := by
  k_with_none
  k_with "Floor10" => (k_here; k_dflt (refine wpAny_call ?_; refine' code_def ?k1 ?k2 ?k3 ?k4 ?k5 ?kA ?kF ?kK ?k6 ?k7 ?k8 ?k9 ?kB ?_ ?c2 ?c3 ?c4 ?c5; (case kA => exact rfl); (case kF => exact rfl); (case kK => first | exact rfl | assumption); (case k1 => k_asm); (case k2 => k_asm); (case k3 => k_asm); (case k4 => k_asm); (case k5 => k_asm); (case k6 => k_is); (case k7 => k_is); (case k8 => ktr_room); (case k9 => exact BindsTo.of_eq rfl); (case c5 => decide); (case kB => exact locs rfl); (case c2 => exact rfl); (case c3 => exact rfl); (case c4 => exact rfl); k_whole; intro g' L' h' FG' F' N' B' X' T'; (try dsimp only); (try k_lift B'); (try k_fold)))
  unfold Claim
  intro dp un gd cn cs a ccd cl outer A₀ base h₀ L m s Q E B F X N T hk hdp hun hret
  unfold RetReal at hret
  walk_at "call ref"
  k_steps
  all_goals first
    | exact hret _ _ _ _ _ (by k_asm) (by k_asm) (by k_asm)
    | (rw [if_pos (by assumption)] at hret; exact hret _ _ _ _ _ (by k_asm) (by k_asm) (by k_asm))
    | (rw [if_neg (by omega)] at hret; exact hret _ _ _ _ _ (by k_asm) (by k_asm) (by k_asm))

theorem trunc_real {w : World} {mean : ExcName → Option Value} {mg mb : Str → Option Value} {P : Addr} {t1 t2 : Tok} {v : Int} {news : List (Addr × Obj)}
   (hP : (P, ({ cls := .type "tuple", data := .seq #[.str (Str.ofString "real") t1, .int v t2] } : Obj)) ∈ news) (h0 : -100000000000000000000 ≤ v) (h1 : v ≤ 100000000000000000000) :
   Claim w mean mg mb 96 news [.ref P] (RetReal news ((if v < 0 then -(Int.fdiv (if v < 0 then -v else v) 1000000 * 1000000) else Int.fdiv (if v < 0 then -v else v) 1000000 * 1000000))) := by
  k_with_none
  k_with "Floor10" => (k_here; k_dflt (refine wpAny_call ?_; refine' code_def ?k1 ?k2 ?k3 ?k4 ?k5 ?kA ?kF ?kK ?k6 ?k7 ?k8 ?k9 ?kB ?_ ?c2 ?c3 ?c4 ?c5; (case kA => exact rfl); (case kF => exact rfl); (case kK => first | exact rfl | assumption); (case k1 => k_asm); (case k2 => k_asm); (case k3 => k_asm); (case k4 => k_asm); (case k5 => k_asm); (case k6 => k_is); (case k7 => k_is); (case k8 => ktr_room); (case k9 => exact BindsTo.of_eq rfl); (case c5 => decide); (case kB => exact locs rfl); (case c2 => exact rfl); (case c3 => exact rfl); (case c4 => exact rfl); k_whole; intro g' L' h' FG' F' N' B' X' T'; (try dsimp only); (try k_lift B'); (try k_fold)))
  unfold Claim
  intro dp un gd cn cs a ccd cl outer A₀ base h₀ L m s Q E B F X N T hk hdp hun hret
  unfold RetReal at hret
  walk_at "call ref"
  k_steps
  all_goals first
    | exact hret _ _ _ _ _ (by k_asm) (by k_asm) (by k_asm)
    | (rw [if_pos (by assumption)] at hret; exact hret _ _ _ _ _ (by k_asm) (by k_asm) (by k_asm))
    | (rw [if_neg (by omega)] at hret; exact hret _ _ _ _ _ (by k_asm) (by k_asm) (by k_asm))

theorem floor_int {w : World} {mean : ExcName → Option Value} {mg mb : Str → Option Value} {P : Addr} {t1 t2 : Tok} {v : Int} {news : List (Addr × Obj)}
   (hP : (P, ({ cls := .type "tuple", data := .seq #[.str (Str.ofString "integer") t1, .int v t2] } : Obj)) ∈ news) :
   Claim w mean mg mb 75 news [.ref P] (RetRef news P) := by
  k_with_none
  k_with "Floor10" => (k_here; k_dflt (refine wpAny_call ?_; refine' code_def ?k1 ?k2 ?k3 ?k4 ?k5 ?kA ?kF ?kK ?k6 ?k7 ?k8 ?k9 ?kB ?_ ?c2 ?c3 ?c4 ?c5; (case kA => exact rfl); (case kF => exact rfl); (case kK => first | exact rfl | assumption); (case k1 => k_asm); (case k2 => k_asm); (case k3 => k_asm); (case k4 => k_asm); (case k5 => k_asm); (case k6 => k_is); (case k7 => k_is); (case k8 => ktr_room); (case k9 => exact BindsTo.of_eq rfl); (case c5 => decide); (case kB => exact locs rfl); (case c2 => exact rfl); (case c3 => exact rfl); (case c4 => exact rfl); k_whole; intro g' L' h' FG' F' N' B' X' T'; (try dsimp only); (try k_lift B'); (try k_fold)))
  unfold Claim
  intro dp un gd cn cs a ccd cl outer A₀ base h₀ L m s Q E B F X N T hk hdp hun hret
  unfold RetRef at hret
  walk_at "call ref"
  k_steps
  all_goals exact hret _ _ (by k_asm) (by k_asm)

theorem ceil_int {w : World} {mean : ExcName → Option Value} {mg mb : Str → Option Value} {P : Addr} {t1 t2 : Tok} {v : Int} {news : List (Addr × Obj)}
   (hP : (P, ({ cls := .type "tuple", data := .seq #[.str (Str.ofString "integer") t1, .int v t2] } : Obj)) ∈ news) :
   Claim w mean mg mb 82 news [.ref P] (RetRef news P) := by
  k_with_none
  k_with "Floor10" => (k_here; k_dflt (refine wpAny_call ?_; refine' code_def ?k1 ?k2 ?k3 ?k4 ?k5 ?kA ?kF ?kK ?k6 ?k7 ?k8 ?k9 ?kB ?_ ?c2 ?c3 ?c4 ?c5; (case kA => exact rfl); (case kF => exact rfl); (case kK => first | exact rfl | assumption); (case k1 => k_asm); (case k2 => k_asm); (case k3 => k_asm); (case k4 => k_asm); (case k5 => k_asm); (case k6 => k_is); (case k7 => k_is); (case k8 => ktr_room); (case k9 => exact BindsTo.of_eq rfl); (case c5 => decide); (case kB => exact locs rfl); (case c2 => exact rfl); (case c3 => exact rfl); (case c4 => exact rfl); k_whole; intro g' L' h' FG' F' N' B' X' T'; (try dsimp only); (try k_lift B'); (try k_fold)))
  unfold Claim
  intro dp un gd cn cs a ccd cl outer A₀ base h₀ L m s Q E B F X N T hk hdp hun hret
  unfold RetRef at hret
  walk_at "call ref"
  k_steps
  all_goals exact hret _ _ (by k_asm) (by k_asm)

theorem round_int {w : World} {mean : ExcName → Option Value} {mg mb : Str → Option Value} {P : Addr} {t1 t2 : Tok} {v : Int} {news : List (Addr × Obj)}
   (hP : (P, ({ cls := .type "tuple", data := .seq #[.str (Str.ofString "integer") t1, .int v t2] } : Obj)) ∈ news) :
   Claim w mean mg mb 89 news [.ref P] (RetRef news P) := by
  k_with_none
  k_with "Floor10" => (k_here; k_dflt (refine wpAny_call ?_; refine' code_def ?k1 ?k2 ?k3 ?k4 ?k5 ?kA ?kF ?kK ?k6 ?k7 ?k8 ?k9 ?kB ?_ ?c2 ?c3 ?c4 ?c5; (case kA => exact rfl); (case kF => exact rfl); (case kK => first | exact rfl | assumption); (case k1 => k_asm); (case k2 => k_asm); (case k3 => k_asm); (case k4 => k_asm); (case k5 => k_asm); (case k6 => k_is); (case k7 => k_is); (case k8 => ktr_room); (case k9 => exact BindsTo.of_eq rfl); (case c5 => decide); (case kB => exact locs rfl); (case c2 => exact rfl); (case c3 => exact rfl); (case c4 => exact rfl); k_whole; intro g' L' h' FG' F' N' B' X' T'; (try dsimp only); (try k_lift B'); (try k_fold)))
  unfold Claim
  intro dp un gd cn cs a ccd cl outer A₀ base h₀ L m s Q E B F X N T hk hdp hun hret
  unfold RetRef at hret
  walk_at "call ref"
  k_steps
  all_goals exact hret _ _ (by k_asm) (by k_asm)

theorem trunc_int {w : World} {mean : ExcName → Option Value} {mg mb : Str → Option Value} {P : Addr} {t1 t2 : Tok} {v : Int} {news : List (Addr × Obj)}
   (hP : (P, ({ cls := .type "tuple", data := .seq #[.str (Str.ofString "integer") t1, .int v t2] } : Obj)) ∈ news) :
   Claim w mean mg mb 96 news [.ref P] (RetRef news P) := by
  k_with_none
  k_with "Floor10" => (k_here; k_dflt (refine wpAny_call ?_; refine' code_def ?k1 ?k2 ?k3 ?k4 ?k5 ?kA ?kF ?kK ?k6 ?k7 ?k8 ?k9 ?kB ?_ ?c2 ?c3 ?c4 ?c5; (case kA => exact rfl); (case kF => exact rfl); (case kK => first | exact rfl | assumption); (case k1 => k_asm); (case k2 => k_asm); (case k3 => k_asm); (case k4 => k_asm); (case k5 => k_asm); (case k6 => k_is); (case k7 => k_is); (case k8 => ktr_room); (case k9 => exact BindsTo.of_eq rfl); (case c5 => decide); (case kB => exact locs rfl); (case c2 => exact rfl); (case c3 => exact rfl); (case c4 => exact rfl); k_whole; intro g' L' h' FG' F' N' B' X' T'; (try dsimp only); (try k_lift B'); (try k_fold)))
  unfold Claim
  intro dp un gd cn cs a ccd cl outer A₀ base h₀ L m s Q E B F X N T hk hdp hun hret
  unfold RetRef at hret
  walk_at "call ref"
  k_steps
  all_goals exact hret _ _ (by k_asm) (by k_asm)
end Mine

namespace Mine
example (w : World) : (PySem.Challenge.rw_nt0480_01 = PySem.Challenge.rw_nt0480_01 ∧ Mine.hd.heap_39 w.params = Mine.hd.heap_39 w.params) := by k_fill; exact ⟨rfl, rfl⟩
local macro_rules | `(tactic| k_mem) => `(tactic| assumption)
local macro_rules | `(tactic| news_mem) => `(tactic| k_mem)
local macro_rules | `(tactic| units_room) => `(tactic| ktr_units)
local macro_rules | `(tactic| walk_at "call ref") => `(tactic| k_extra "Div10")
local macro_rules | `(tactic| walk_at "binaryOp FloorDiv int int") => `(tactic| (k_here; (with_reducible refine floordiv_int ?hb ?_ (Or.inl (PyProof.noPylong_small ?hp))); (case hb => first | assumption | omega | (split <;> omega)); (case hp => first | omega | (split <;> omega))))
set_option maxHeartbeats 4000000

theorem divided_c {w : World} {mean : ExcName → Option Value} {mg mb : Str → Option Value} {n b : Int} {t1 t2 : Tok} {news : List (Addr × Obj)}
   (h0 : -100000000000000000000 ≤ n) (h1 : n ≤ 100000000000000000000) (h2 : -12000000 ≤ b) (h3 : b ≤ 12000000) (hb : b ≠ 0) :
   Claim w mean mg mb 54 news [.int n t1, .int b t2] (RetInt news (divV n b)) := by
  k_with_none
  k_with "Div10" => (k_here; k_dflt (refine wpAny_call ?_; refine' code_def ?k1 ?k2 ?k3 ?k4 ?k5 ?kA ?kF ?kK ?k6 ?k7 ?k8 ?k9 ?kB ?_ ?c2 ?c3 ?c4 ?c5; (case kA => exact rfl); (case kF => exact rfl); (case kK => first | exact rfl | assumption); (case k1 => k_asm); (case k2 => k_asm); (case k3 => k_asm); (case k4 => k_asm); (case k5 => k_asm); (case k6 => k_is); (case k7 => k_is); (case k8 => ktr_room); (case k9 => exact BindsTo.of_eq rfl); (case c5 => decide); (case kB => exact locs rfl); (case c2 => exact rfl); (case c3 => exact rfl); (case c4 => exact rfl); k_whole; intro g' L' h' FG' F' N' B' X' T'; (try dsimp only); (try k_lift B'); (try k_fold)))
  unfold Claim
  intro dp un gd cn cs a ccd cl outer A₀ base h₀ L m s Q E B F X N T hk hdp hun hret
  unfold RetInt at hret
  walk_at "call ref"
  k_steps
  all_goals (unfold divV at hret)
  · rw [if_pos (by assumption)] at hret
    exact hret _ _ _ (by k_asm) (news_cut (by k_asm) (fun p hp => .tail _ hp))
  · rw [if_neg (by simp only [Bool.not_eq_true]; assumption)] at hret
    exact hret _ _ _ (by k_asm) (news_cut (by k_asm) (fun p hp => .tail _ hp))
theorem nearest_c {w : World} {mean : ExcName → Option Value} {mg mb : Str → Option Value} {n b : Int} {t1 t2 : Tok} {news : List (Addr × Obj)}
   (h0 : -100000000000000000000 ≤ n) (h1 : n ≤ 100000000000000000000) (h2 : -12000000 ≤ b) (h3 : b ≤ 12000000) (hb : b ≠ 0) :
   Claim w mean mg mb 145 news [.int n t1, .int b t2] (RetInt news (divV n b)) := by
  k_with_none
  k_with "Div10" => (k_here; k_dflt (refine wpAny_call ?_; refine' code_def ?k1 ?k2 ?k3 ?k4 ?k5 ?kA ?kF ?kK ?k6 ?k7 ?k8 ?k9 ?kB ?_ ?c2 ?c3 ?c4 ?c5; (case kA => exact rfl); (case kF => exact rfl); (case kK => first | exact rfl | assumption); (case k1 => k_asm); (case k2 => k_asm); (case k3 => k_asm); (case k4 => k_asm); (case k5 => k_asm); (case k6 => k_is); (case k7 => k_is); (case k8 => ktr_room); (case k9 => exact BindsTo.of_eq rfl); (case c5 => decide); (case kB => exact locs rfl); (case c2 => exact rfl); (case c3 => exact rfl); (case c4 => exact rfl); k_whole; intro g' L' h' FG' F' N' B' X' T'; (try dsimp only); (try k_lift B'); (try k_fold)))
  unfold Claim
  intro dp un gd cn cs a ccd cl outer A₀ base h₀ L m s Q E B F X N T hk hdp hun hret
  unfold RetInt at hret
  walk_at "call ref"
  k_steps
  all_goals first
    | (rw [near_low hb (Or.inl (by assumption))] at hret; exact hret _ _ _ (by k_asm) (news_cut (by k_asm) (fun p hp => .tail _ hp)))
    | (rw [near_high hb (Or.inl (by omega))] at hret; exact hret _ _ _ (by k_asm) (news_cut (by k_asm) (fun p hp => .tail _ hp)))
    | (rw [near_low hb (Or.inr ⟨by assumption, by omega⟩)] at hret; exact hret _ _ _ (by k_asm) (news_cut (by k_asm) (fun p hp => .tail _ hp)))
    | (rw [near_high hb (Or.inr ⟨by assumption, by omega⟩)] at hret; exact hret _ _ _ (by k_asm) (news_cut (by k_asm) (fun p hp => .tail _ hp)))
end Mine

namespace Mine
example (w : World) : (PySem.Challenge.rw_nt0480_01 = PySem.Challenge.rw_nt0480_01 ∧ Mine.hd.heap_39 w.params = Mine.hd.heap_39 w.params) := by k_fill; exact ⟨rfl, rfl⟩
set_option maxHeartbeats 4000000

abbrev psTup (v : Value) : Obj := { cls := .type "tuple", data := .seq [v].toArray }
abbrev psExc (C t : Addr) : Obj := { cls := .ref C, data := .fields #[.ref t, .none, .none, .none, .bool false, .none] }

section
variable {prog : Program} {w : World} {A : Around} {E : Value → Shared → Prop} {h : Heap} {g : Array GenState} {d : Drawn} {t : Nat} {os : OsState}
variable {nm q : Str} {C N : Addr} {bs bm : List Value} {hdct : Bool} {sn : List Str} {sub : List Value} {ab : Bool} {col : Option Bool} {dd : Option Addr} {k0 k1 k2 k3 k5 : Option Value}

theorem ps_check {M : Model} {rest : List Value} {Q : Unit → Shared → Prop} (hb : bm.contains (.type "Exception") = true)
    (hC : h.get? C = some (excClassObj nm q C N bs bm hdct sn sub ab col dd k0 k1 k2 k3 k5 "Exception.__new__")) (hq : Q () ⟨h, g, d, t, os⟩) :
    wpAny M A (checkBuiltinCall "Exception.__new__" ⟨.ref C :: rest, []⟩) Q E ⟨h, g, d, t, os⟩ := by
  have F := PySem.F.excBase_Exception
  have hc : (Value.ref C :: bm).contains (.type "Exception") = true := by rw [List.contains_cons, hb, Bool.or_true]
  have hs := F.noStar
  simp only [checkBuiltinCall, F.newKind, F.newSplit, F.newRow]
  repeat (first | refine wpAny_loadPart_at hC ?_ | (refine wpAny_isSubtype_exc hC ?_; rw [hc]) | refine wpAny_staticBase_exc hC ?_ | refine wpAny_madeBy_exc hC ?_ | simp only [bne_self_eq_false, Bool.false_eq_true, if_false] | wp_step)
  exact hq

theorem ps_new {R : Result → Shared → Prop} {v : Value} (hb : bm.contains (.type "Exception") = true) (hba : bm.contains (.type "AttributeError") = false) (hbn : bm.contains (.type "NameError") = false)
    (hC : h.get? C = some (excClassObj nm q C N bs bm hdct sn sub ab col dd k0 k1 k2 k3 k5 "Exception.__new__"))
    (hq : R (.ok (.ret (.ref (h.objs.size + 1)))) ⟨(h.push (psTup v)).push (psExc C h.objs.size), g, d, t, os⟩) :
    codeAny (model prog w) A (.builtin "Exception.__new__" ⟨[.ref C, v], []⟩) R ⟨h, g, d, t, os⟩ := by
  have F := PySem.F.excBase_Exception
  have hends := F.ends
  have hcB : (Value.ref C :: bm).contains (.type "Exception") = true := by rw [List.contains_cons, hb, Bool.or_true]
  have hcA : (Value.ref C :: bm).contains (.type "AttributeError") = false := by rw [List.contains_cons, hba]; rfl
  have hcN : (Value.ref C :: bm).contains (.type "NameError") = false := by rw [List.contains_cons, hbn]; rfl
  refine codeAny_builtinAt F.entry ?_
  unfold Builtin.«BaseException.__new__»
  refine PySem.wpAt_bind ?_
  show PySem.wpAt _ _ _ (stack >>= _) _ _ _
  refine PySem.wpAt_bind (PySem.wpAt_stack fun p below => PySem.wpAt_of_wpAny ?_)
  wp_walk
  refine PySem.wpAt_of_wpAny ?_
  rw [F.owner]
  repeat (first | with_reducible refine wpAny_madeHere_exc F.canon hC ?_ | with_reducible refine wpAny_loadPart_at hC ?_ | (with_reducible refine wpAny_isSubtype_exc hC ?_; first | rw [hcB] | rw [hcA] | rw [hcN]) | wp_step)
  show R _ _
  rw [Heap.size_push]
  exact hq

/-- an own exception class whose `__init__` is a def that some class of its own line bears -/
theorem ps_type_call {v : Value} {fI : Addr} {oI : Obj} {Q : Fin → Shared → Prop} (hb : bm.contains (.type "Exception") = true) (hba : bm.contains (.type "AttributeError") = false) (hbn : bm.contains (.type "NameError") = false)
    (hC : h.get? C = some (excClassObj nm q C N bs bm hdct sn sub ab col dd k0 k1 k2 k3 k5 "Exception.__new__"))
    (hi : Looks (model prog w) h (typeLookup (.ref C) "__init__") (some (.ref fI))) (hfI : h.get? fI = some oI) (hfc : oI.cls = .type "function")
    (hq : wpAny (model prog w) A (call (.ref fI) [.ref (h.objs.size + 1), v]) (fun r s' => r = .none ∧ Q (.done (.ret (.ref (h.objs.size + 1)))) s') E ⟨(h.push (psTup v)).push (psExc C h.objs.size), g, d, t, os⟩) :
    wpAny (model prog w) A (Builtin.«type.__call__» ⟨[.ref C, v], []⟩) Q E ⟨h, g, d, t, os⟩ := by
  have F := PySem.F.excBase_Exception
  repeat (first | with_reducible refine wpAny_loadPart_at hC ?_ | with_reducible refine wpAny_madeBy_exc hC ?_ | wp_step)
  refine codeAny_call_builtin_code (Code.quiet_builtin _ F.quiet) (ps_check hb hC ?_)
  refine ps_new hb hba hbn hC ?_
  show wpAny _ _ _ _ _ _
  have k : ∀ b o, h.get? b = some o → ((h.push (psTup v)).push (psExc C h.objs.size)).get? b = some o := fun b o e => Heap.get?_push_of_some _ (Heap.get?_push_of_some _ e)
  have hC₁ := k _ _ hC
  have hget : ((h.push (psTup v)).push (psExc C h.objs.size)).get? (h.objs.size + 1) = some (psExc C h.objs.size) := by heap_get
  have hcC : (Value.ref C :: bm).contains (.ref C) = true := by simp
  have hi₁ := hi.keeps k
  unfold isInstance
  repeat (first | with_reducible refine wpAny_loadPart_at hget ?_ | (with_reducible refine wpAny_isSubtype_exc hC₁ ?_; rw [hcC]) | wp_step)
  show wpAny _ _ (typeLookup (.ref C) _) _ _ _
  refine hi₁.at ?_
  refine wpAny_holding (wpAny_bind ?_)
  unfold bindSpecial
  refine wpAny_bind (wpAny_typeOf (T := "function") ⟨_, k _ _ hfI, hfc⟩ ?_)
  rw [if_pos (by decide)]
  refine wpAny_pure (wpAny_bind (wpAny_mono hq (fun r s' hr => ?_) fun _ _ x => x))
  obtain ⟨rfl, hQ⟩ := hr
  wp_walk
  exact hQ

theorem ps_call {v : Value} {fI : Addr} {oI : Obj} {Q : Value → Shared → Prop} (hb : bm.contains (.type "Exception") = true) (hba : bm.contains (.type "AttributeError") = false) (hbn : bm.contains (.type "NameError") = false)
    (hC : h.get? C = some (excClassObj nm q C N bs bm hdct sn sub ab col dd k0 k1 k2 k3 k5 "Exception.__new__"))
    (hi : Looks (model prog w) h (typeLookup (.ref C) "__init__") (some (.ref fI))) (hfI : h.get? fI = some oI) (hfc : oI.cls = .type "function")
    (hq : wpAny (model prog w) (A.under (.builtin "type.__call__" ⟨[.ref C, v], []⟩)) (call (.ref fI) [.ref (h.objs.size + 1), v]) (fun r s' => r = .none ∧ Q (.ref (h.objs.size + 1)) s') E ⟨(h.push (psTup v)).push (psExc C h.objs.size), g, d, t, os⟩) :
    wpAny (model prog w) A (call (.ref C) [v]) Q E ⟨h, g, d, t, os⟩ := by
  have f1 := tc_lookup
  have f2 := tc_bind (.ref C)
  have hT : (⟨h, g, d, t, os⟩ : Shared).TypeIs (.ref C) "type" := ⟨_, hC, rfl⟩
  refine wpAny_call (codeAny_of_tree ?_)
  show wpAny _ _ (callAny (.ref C) _) _ _ _
  repeat (any_goals (first | assumption | with_reducible refine wpAny_loadPart_at hC ?_ | wp_step))
  refine ⟨rfl, ?_⟩
  exact codeAny_call_builtin_at (Code.quiet_builtin _ (by decide +kernel)) entry_typeCall (wpAny_check_type_call_sub hC (ps_type_call hb hba hbn hC hi hfI hfc hq))
end
end Mine

namespace Mine
open PySem.Calls Builtin Builtin.ObjectAttr
set_option maxHeartbeats 4000000

theorem ps_refuse (self : Value) (C C2 : Addr) : refuseLoop self "__setattr__" [.ref C, .ref C2, .type "Exception", .type "BaseException", .type "object"] = pure () := by
  rw [refuseLoop_ref, refuseLoop_ref]
  kernel_rfl

section
variable {prog : Program} {w : World} {A : Around} {K : Frag} {C C2 x t : Addr} {s : Shared} {h₀ : Heap} {L : Addr} {m : Str → Option Value} {rest : List (Addr × Obj)} {cd : ClassData} {name : Str} {v : Value}
theorem ps_set {E : Value → Shared → Prop} {Q : Unit → Shared → Prop} (F : Fr h₀ L s.heap m) (X₀ : K.In h₀) (N : News h₀ L s.heap ((x, psExc C t) :: rest)) (hne : ∀ p ∈ rest, p.1 ≠ x)
    (hs : findIn K (.ref C) "__setattr__" = some (some (.builtin "object.__setattr__"))) (hc : clsIn K C = some cd) (hcm : cd.mro = [.ref C, .ref C2, .type "Exception", .type "BaseException", .type "object"]) (hcd : cd.hasDict = true)
    (hn : findIn K (.ref C) name = some none)
    (h : ∀ d h' tk, Fr h₀ L h' m → News h₀ L h' ((d, dictOf [⟨PyData.keyHash w.params name, .str name (s.toks + 1), v⟩] 1) :: (x, { psExc C t with dict := some d }) :: rest) → (∀ p ∈ (x, psExc C t) :: rest, p.1 < d) → Q () { s with heap := h', toks := tk }) :
    wpAny (model prog w) A (setAttr (.ref x) name v) Q E s := by
  obtain ⟨hp, g, dr, tk0, os⟩ := s
  dsimp only at F N h
  have X := X₀.keeps F.keep
  have hx := (N _ (.head _)).1
  have I : InstAt hp x (psExc C t) C none := ⟨hx, rfl, rfl, True.intro⟩
  refine set_plain X I hs ?_
  have SF := PySem.F.store_object
  have hm : Looks (model prog w) hp (mroOf (.ref C)) cd.mro := (looks_clsIn X hc).andThen .now
  have sub : Looks (model prog w) hp (isInstance (.ref x) (.type "object")) true := I.type.andThen (looks_mroIn X (by unfold mroIn; rw [hc, Option.bind_some, hcm]; rfl))
  refine codeAny_call_builtin SF.slot.plain SF.entry (@check_slot (model prog w) _ _ _ "object.__setattr__" "object" "__setattr__" (.ref x) [.str name tk0, v] [] _ SF.kind SF.split sub (SF.args (.ref x) (.str name tk0) v) ?_)
  rw [osa_eq, refuse_eq]
  refine wpAny_bind (wpAny_bind (I.type.at (wpAny_bind (hm.at ?_))))
  rw [hcm, ps_refuse]
  refine wpAny_pure (wpAny_bind (I.type.at (wpAny_bind ((looks_findIn X hn).at (wpAny_bind (wpAny_pure ?_))))))
  refine wpAny_bind (wpAny_pure ?_)
  show wpAny _ _ (ownDictForStores (.ref x) >>= _) _ _ _
  refine wpAny_bind (wpAny_bind (wpAny_loadPart hx (wpAny_bind ((looks_clsIn X hc).at ?_))))
  rw [hcd]
  refine wpAny_bind (wpAny_alloc ?_)
  have hx1 : (hp.push emptyDict).get? x = some (psExc C t) := Heap.get?_push_of_some _ hx
  refine wpAny_bind (wpAny_update hx1 ?_)
  refine wpAny_pure (a := some hp.objs.size) ?_
  show wpAny _ _ (storeInDict hp.objs.size (.str name tk0) name v) _ _ _
  have Np := N.push F emptyDict
  have lt : ∀ p ∈ (x, psExc C t) :: rest, p.1 < hp.objs.size := fun p hp => Heap.lt_size (N p hp).1
  have hxd : x ≠ hp.objs.size := Nat.ne_of_lt (lt _ (.head _))
  have U1 := news_upd (pre := [(hp.objs.size, emptyDict)]) (post := rest) (d := x) (o := psExc C t) (o' := { psExc C t with dict := some hp.objs.size }) (f := fun o => { o with dict := some hp.objs.size }) (F.push emptyDict) Np
    (fun p hp => by rw [List.mem_singleton.mp hp]; exact fun e => hxd e.symm) hne rfl rfl
  obtain ⟨F1, N1⟩ := U1
  have U2 := news_upd (pre := []) (post := (x, { psExc C t with dict := some hp.objs.size }) :: rest) (d := hp.objs.size) (o := emptyDict) (o' := dictOf [⟨PyData.keyHash w.params name, .str name (tk0 + 1), v⟩] 1)
    (f := Obj.putName name (PyData.keyHash w.params name) (.str name (tk0 + 1)) v) F1 N1 (fun p hp => nomatch hp)
    (fun p hp => by
      rcases List.mem_cons.mp hp with rfl | hp
      · exact hxd
      · exact Nat.ne_of_lt (lt _ (.tail _ hp))) (putName_dict name _ _ v [] 0) rfl
  obtain ⟨F2, N2⟩ := U2
  have D := (N1 _ (.head _)).1
  have D' := (N2 _ (.head _)).1
  refine wpAny_bind (wpAny_pure (wpAny_bind ?_))
  unfold nsSet
  refine wpAny_bind (wpAny_bind (wpAny_askSetting (wpAny_pure (wpAny_bind (wpAny_mkText (wpAny_bind (wpAny_loadPart D ?_)))))))
  dsimp only
  rw [aRefKeyMayBeTheName_at, show ((!(#[] : Array DictEntry).any fun x => x.key.isStr name) && (#[] : Array DictEntry).any fun x => x.refKey) = false from by simp, if_neg (by decide)]
  refine wpAny_updatePart D ?_
  refine wpAny_bind (wpAny_lookBehind D' (pastItsLine_dict (by rw [List.size_toArray, sizeLine_eq, List.length_singleton]; decide)) ?_)
  exact wpAny_pure (h _ _ _ F2 N2 lt)

theorem ps_get {E : Value → Shared → Prop} {Q : Value → Shared → Prop} {ox od : Obj} {expr : Bool} (X : K.In s.heap) (I : InstAt s.heap x ox C (some od))
    (hg : findIn K (.ref C) "__getattribute__" = some (some (.builtin "BaseException.__getattribute__"))) (hg2 : findIn K (.ref C) "__getattr__" = some none) (hb : mroIn K C (.type "BaseException") = some true)
    (hf : findObj K C (some od) name = some (.value v)) (hh : handedIn v = true) (h : Q v { s with toks := s.toks + 1 }) : wpAny (model prog w) A (getAttr (.ref x) name expr) Q E s := by
  obtain ⟨hp, g, d, tk, os⟩ := s
  have L0 := I.type (M := model prog w)
  have L1 := looks_findIn (M := model prog w) X hg
  have L2 := looks_findIn (M := model prog w) X hg2
  have L3 := looks_find (M := model prog w) X I hf
  have G := PySem.F.attrBase_Exception.ga
  have f3 := G.bind (.ref x)
  have sub : Looks (model prog w) hp (isInstance (.ref x) (.type "BaseException")) true := L0.andThen (looks_mroIn X hb)
  have hx0 : (expr && onTheHeap (Value.builtin "BaseException.__getattribute__")) = false := by cases expr <;> rfl
  have hx2 : (Value.builtin "BaseException.__getattribute__" == Value.builtin "object.__getattribute__") = false := by decide +kernel
  unfold getAttr getAttrBy
  refine wpAny_bind (wpAny_mkText (wpAny_holding (wpAny_bind (L0.at (wpAny_bind (L1.at ?_))))))
  dsimp only
  rw [hx2, Bool.and_false, if_neg (by decide)]
  show wpAny _ _ (hookBefore (.ref C) >>= _) _ _ _
  refine wpAny_bind (L2.at ?_)
  dsimp only
  refine wpAny_bind ?_
  unfold callGetattribute
  rw [hx0, if_neg (by decide)]
  unfold boundAndCalled
  refine wpAny_attempt ?_
  refine wpAny_holding ?_
  rw [f3]
  refine wpAny_bind (wpAny_pure ?_)
  refine wpAny_call (codeAny_call_builtin G.plain PySem.F.entry_bexc_ga (@check_slot (model prog w) _ _ _ "BaseException.__getattribute__" "BaseException" "__getattribute__" (.ref x) [.str name tk] [] _ (by decide +kernel) (by decide +kernel) sub (PySem.F.args_bexc_ga (.ref x) (.str name tk)) ?_))
  unfold Builtin.«object.__getattribute__»
  dsimp only at L0 L3 h
  repeat lk
  show wpAny _ _ (handedOut v) _ _ _
  rw [handedOut_of hh]
  exact wpAny_pure h
end
end Mine

namespace Mine
open PySem.Calls
set_option maxHeartbeats 4000000

theorem dict_mapFields (o : Obj) (f) : (o.mapFields f).dict = o.dict := by
  obtain ⟨c, d, dt, sl⟩ := o; cases dt <;> rfl

/-- an exception on its way, its own attributes known to lie at dx -/
def TrD (h B : Heap) (l : List Env) (e dx : Addr) (cls fl : Value) : Prop :=
  B.StaysIn h ∧ B.get? e = none ∧ h.FunFrames B l ∧
  ∃ oe vs T oT ts, h.get? e = some oe ∧ oe.cls = cls ∧ oe.dict = some dx ∧ oe.data = .fields vs ∧ vs[1]? = some (.ref T) ∧ B.get? T = none ∧ T ≠ e ∧ h.get? T = some oT ∧ oT.data = .fields ts ∧ ts[3]? = some fl

section
variable {M : Model} {A : Around} {E : Value → Shared → Prop} {s : Shared} {B : Heap} {env : Env} {outer : List Env} {L e dx : Addr} {cls : Value} {Q : Unit → Shared → Prop}

theorem entD {oe : Obj} {vs : Array Value} {head : Value} {hadNext : Bool}
    (hfr : A.frames = some (env :: outer)) (hl : s.heap.FunFrames B (env :: outer)) (hf : env.frame = some L)
    (he : s.heap.get? e = some oe) (hcl : oe.cls = cls) (hdx : oe.dict = some dx) (hd : oe.data = .fields vs) (hsz : 1 < vs.size) (hkb : B.StaysIn s.heap) (heB : B.get? e = none)
    (h : ∀ h', TrD h' B (env :: outer) e dx cls (rawInt L) → s.heap.UpToSlots h' → Q () { s with heap := h' }) :
    wpAny M A (do let a ← frameOf env; let pl ← entryPlaceOf L hadNext; let b ← EntryCells.newEntry head a .none (rawInt L) .none pl; setField (.ref e) 1 b) Q E s := by
  have notRec : ∀ b o, s.heap.get? b = some o → (∀ ws, o.data ≠ .fields ws) → b ≠ e := by
    rintro b o hb hnf rfl
    rw [he] at hb
    exact hnf vs (Option.some.inj hb ▸ hd)
  have heF : e ∉ (env :: outer).filterMap (·.frame) := fun hm => by
    obtain ⟨_, o, ho, hnf⟩ := hl.mem hm
    exact notRec _ o ho hnf rfl
  refine wpAny_bind (wpAny_frameOf_fun hfr hl hf fun h₁ hs => ?_)
  refine wpAny_bind (wpAny_entryPlaceOf fun pl hpl => ?_)
  unfold EntryCells.newEntry newFields
  refine wpAny_bind (wpAny_newObj_type ?_ (hpl.sizeOk5 _ _ _ _ _))
  have e₁ : h₁.get? e = some oe := (hs.2.1 e heF).trans he
  have kB : ∀ b o, B.get? b = some o → h₁.get? b = some o := fun b o q => (hs.2.1 b fun hm => by rw [(hl.mem hm).1] at q; cases q).trans (hkb b o q)
  have ne : h₁.objs.size ≠ e := Nat.ne_of_gt (Heap.lt_size e₁)
  generalize htb : ({ cls := .type "traceback", dict := none, data := .fields ([head, .ref L, .none, rawInt L, .none] ++ (if pl.isEmpty then List.replicate 6 Value.none else pl)).toArray } : Obj) = tb
  have e₂ : (h₁.push tb).get? e = some oe := Heap.get?_push_of_some _ e₁
  refine wpAny_setField e₂ hd hsz (h _ ?_ ?_)
  · have hd₃ := Obj.data_mapFields hd (·.setIfInBounds 1 (Value.ref h₁.objs.size))
    have tT : (h₁.push tb).get? h₁.objs.size = some tb := Heap.get?_push_size h₁ (by rw [← htb]; rfl)
    have same : ∀ b o, b ≠ e → h₁.get? b = some o → ((h₁.push tb).update e (Obj.mapFields (·.setIfInBounds 1 (Value.ref h₁.objs.size)))).get? b = some o := fun b o hb q => by
      rw [Heap.get?_update_other _ _ (Ne.symm hb)]
      exact Heap.get?_push_of_some _ q
    refine ⟨fun b o q => same b o (fun z => by rw [z, heB] at q; cases q) (kB b o q), heB, hl.of_keeps fun b o q hnf => ?_, ?_⟩
    · obtain ⟨sl, hsl⟩ := hs.2.2 b o q
      exact ⟨_, same b _ (notRec b o q hnf) hsl, rfl⟩
    · refine ⟨_, _, h₁.objs.size, tb, _, Heap.get?_update_self _ e₂ (Obj.isFreed_of_fields hd₃), (Obj.cls_mapFields _ _).trans hcl, (dict_mapFields _ _).trans hdx, hd₃, by simp [hsz], ?_, ne, ?_, by rw [← htb], ?_⟩
      · cases q : B.get? h₁.objs.size with
        | none => rfl
        | some o => exact absurd (Heap.lt_size (kB _ _ q)) (Nat.lt_irrefl _)
      · rw [Heap.get?_update_other _ _ (Ne.symm ne)]; exact tT
      · rfl
  · intro b o q hnf
    obtain ⟨sl, hsl⟩ := hs.2.2 b o q
    refine ⟨sl, ?_⟩
    rw [Heap.get?_update_other _ _ (Ne.symm (notRec b o q hnf))]
    exact Heap.get?_push_of_some _ hsl

theorem flightD {l : List Env} {fl : Value} (hh : TrD s.heap B l e dx cls fl) (h : ∀ h', TrD h' B l e dx cls .none → s.heap.UpToSlots h' → Q () { s with heap := h' }) : wpAny M A (setFlight (.ref e) none) Q E s := by
  obtain ⟨hkb, heB, hl, oe, vs, T, oT, ts, he, hcl, hdx, hd, h1, hTB, hTe, hT, hdT, h3⟩ := hh
  have hsz3 : 3 < ts.size := (Array.getElem?_eq_some_iff.mp h3).1
  have notRec : ∀ b o, s.heap.get? b = some o → (∀ ws, o.data ≠ .fields ws) → b ≠ T := by
    rintro b o hb hnf rfl
    rw [hT] at hb
    exact hnf ts (Option.some.inj hb ▸ hdT)
  unfold setFlight
  refine wpAny_bind (wpAny_field he hd h1 ?_)
  rw [if_pos (show (Value.ref T != Value.none) = true from by simp)]
  have other : ∀ b, b ≠ T → (s.heap.update T (Obj.mapFields (·.setIfInBounds 3 ((none : Option Addr).elim Value.none fun f => rawInt f)))).get? b = s.heap.get? b := fun b hb => Heap.get?_update_other _ _ (Ne.symm hb)
  have hd₃ := Obj.data_mapFields hdT (·.setIfInBounds 3 ((none : Option Addr).elim Value.none fun f => rawInt f))
  refine wpAny_setField hT hdT hsz3 (h _ ⟨fun b o q => (other b fun z => by rw [z, hTB] at q; cases q).trans (hkb b o q), heB, hl.of_keeps fun b o q hnf => ⟨o, (other b (notRec b o q hnf)).trans q, rfl⟩,
    oe, vs, T, _, _, (other e (Ne.symm hTe)).trans he, hcl, hdx, hd, h1, hTB, hTe, Heap.get?_update_self _ hT (Obj.isFreed_of_fields hd₃), hd₃, by simp [hsz3]⟩ fun b o q hnf => ⟨o.slots, (other b (notRec b o q hnf)).trans q⟩)

theorem noteD (hfr : A.frames = some (env :: outer)) (hf : env.frame = some L) (hh : TrD s.heap B (env :: outer) e dx cls .none) (h : ∀ h', TrD h' B (env :: outer) e dx cls (rawInt L) → s.heap.UpToSlots h' → Q () { s with heap := h' }) :
    wpAny M A (noteFrame (.ref e) env) Q E s := by
  obtain ⟨hkb, heB, hl, oe, vs, T, oT, ts, he, hcl, hdx, hd, h1, hTB, hTe, hT, hdT, h3⟩ := hh
  have notRec : ∀ b o, s.heap.get? b = some o → (∀ ws, o.data ≠ .fields ws) → b ≠ T := by
    rintro b o hb hnf rfl
    rw [hT] at hb
    exact hnf ts (Option.some.inj hb ▸ hdT)
  have other : ∀ b, b ≠ T → (s.heap.update T (Obj.mapFields (·.setIfInBounds 3 Value.none))).get? b = s.heap.get? b := fun b hb => Heap.get?_update_other _ _ (Ne.symm hb)
  unfold noteFrame
  simp only [hf]
  refine wpAny_bind (wpAny_field he hd h1 ?_)
  rw [if_pos (show (Value.ref T != Value.none) = true from by simp)]
  refine wpAny_bind (wpAny_field hT hdT h3 ?_)
  rw [if_neg (show ¬ ((Value.none == rawInt L) = true) from by simp [rawInt])]
  refine wpAny_bind (wpAny_setField hT hdT (Array.getElem?_eq_some_iff.mp h3).1 ?_)
  exact entD hfr (hl.of_keeps fun b o q hnf => ⟨o, (other b (notRec b o q hnf)).trans q, rfl⟩) hf ((other e (Ne.symm hTe)).trans he) hcl hdx hd (Array.getElem?_eq_some_iff.mp h1).1
    (fun b o q => (other b fun z => by rw [z, hTB] at q; cases q).trans (hkb b o q)) heB fun h' x1 x2 => h h' x1 fun b o q hnf => x2 b o ((other b (notRec b o q hnf)).trans q) hnf

theorem leaveD {oe : Obj} {vs : Array Value} (hfr : A.frames = some (env :: outer)) (hl : s.heap.FunFrames B (env :: outer)) (hf : env.frame = some L)
    (he : s.heap.get? e = some oe) (hcl : oe.cls = cls) (hdx : oe.dict = some dx) (hd : oe.data = .fields vs) (h1 : vs[1]? = some .none) (hkb : B.StaysIn s.heap) (heB : B.get? e = none)
    (h : ∀ h', TrD h' B outer e dx cls .none → s.heap.UpToSlots h' → Q () { s with heap := h' }) : wpAny M A (leaving env (.ref e)) Q E s := by
  unfold leaving noteFrame
  simp only [hf]
  refine wpAny_bind (wpAny_bind (wpAny_field he hd h1 ?_))
  rw [if_neg (by decide)]
  refine entD hfr hl hf he hcl hdx hd (Array.getElem?_eq_some_iff.mp h1).1 hkb heB fun h₁ x1 x2 => ?_
  refine flightD x1 fun h₂ y1 y2 => h h₂ ?_ (x2.trans y2)
  obtain ⟨a, b, ⟨_, _, c⟩, d⟩ := y1
  exact ⟨a, b, c, d⟩
end
end Mine

namespace Mine
open PySem.Calls
set_option maxHeartbeats 4000000

def RaisedD (base G : Heap) (l : List Env) (e dx : Addr) (cls : Value) (news : List (Addr × Obj)) (h : Heap) : Prop :=
  ∃ B, base.StaysIn B ∧ (∀ b o, G.get? b = some o → b ∉ l.filterMap (·.frame) → B.get? b = some o) ∧ (∀ q ∈ news, B.get? q.1 = some q.2 ∧ G.get? q.1 = none ∧ base.get? q.1 = none) ∧ TrD h B l e dx cls .none

section
variable {M : Model} {A : Around} {E : Value → Shared → Prop} {s' : Shared} {base g : Heap} {outer : List Env} {L a e dx : Addr} {m : Str → Option Value} {name : Str} {scope : Scope} {cd : Value} {Q : Unit → Shared → Prop} {news : List (Addr × Obj)} {oe : Obj} {vs : Array Value} {cls : Value}

theorem leaveDK (K : Below A base outer g) (F : Fr g L s'.heap m) (N : News g L s'.heap ((e, oe) :: news)) (hne : ∀ q ∈ news, q.1 ≠ e) (hcl : oe.cls = cls) (hdx : oe.dict = some dx) (hd : oe.data = .fields vs) (h1 : vs[1]? = some .none)
    (hQ : ∀ h', RaisedD base g outer e dx cls news h' → g.UpToSlots h' → Q () { s' with heap := h' }) (hk : scope.kind = .function := by rfl) :
    wpAny M (A.deeper (envOf name scope L a cd)) (leaving (envOf name scope L a cd) (.ref e)) Q E s' := by
  have K' := K.push (name := name) (a := a) (cd := cd) F hk
  obtain ⟨he, heL, heg⟩ := N _ (.head _)
  have heb : base.get? e = none := fresh_of_stays K.stays heg
  have inF : ∀ env ∈ (envOf name scope L a cd :: outer), ∀ b, env.frame = some b → b ∈ e :: (envOf name scope L a cd :: outer).filterMap (·.frame) := fun env he b hb => .tail _ (List.mem_filterMap.mpr ⟨env, he, hb⟩)
  have out : ∀ b o, s'.heap.get? b = some o → b ≠ e → b ∉ (envOf name scope L a cd :: outer).filterMap (·.frame) → (hideAll s'.heap (e :: (envOf name scope L a cd :: outer).filterMap (·.frame))).get? b = some o := fun b o q n1 n2 => hideAll_get _ q fun hm => by
    rcases List.mem_cons.mp hm with z | z
    · exact n1 z
    · exact n2 z
  have st : base.StaysIn (hideAll s'.heap (e :: (envOf name scope L a cd :: outer).filterMap (·.frame))) := fun b o q => out b o (K'.stays b o q) (fun z => by rw [z, heb] at q; cases q) fun hm => by
    rw [(K'.frames.mem hm).1] at q; cases q
  have sg : ∀ b o, g.get? b = some o → b ∉ outer.filterMap (·.frame) → (hideAll s'.heap (e :: (envOf name scope L a cd :: outer).filterMap (·.frame))).get? b = some o := fun b o q nm => out b o (F.keep b o q) (fun z => by rw [z, heg] at q; cases q) fun hm => by
    rcases kts_mem hm with z | z
    · rw [z, kts_self F] at q; cases q
    · exact nm z
  have hl : ∀ q ∈ news, (hideAll s'.heap (e :: (envOf name scope L a cd :: outer).filterMap (·.frame))).get? q.1 = some q.2 ∧ g.get? q.1 = none ∧ base.get? q.1 = none := fun q hq => by
    have z := N q (.tail _ hq)
    refine ⟨out _ _ z.1 (hne q hq) fun hm => ?_, z.2.2, fresh_of_stays K.stays z.2.2⟩
    rcases kts_mem hm with y | y
    · exact z.2.1 y
    · obtain ⟨_, o, ho, _⟩ := K.frames.mem y
      rw [z.2.2] at ho; cases ho
  refine leaveD (B := hideAll s'.heap (e :: (envOf name scope L a cd :: outer).filterMap (·.frame))) (L := L) K'.stack (funFrames_hide K'.frames inF) rfl he hcl hdx hd h1 (fun b o q => of_hideAll _ q) (hideAll_none _ (.head _)) fun h' x1 x2 => ?_
  exact hQ h' ⟨_, st, sg, hl, x1⟩ ((Heap.UpToSlots.of_keeps F.keep).trans x2)
end

section
variable {prog : Program} {w : World} {A₀ : Around} {E : Value → Shared → Prop} {s' : Shared} {base g g₀ G : Heap} {outer : List Env} {L a e dx C : Addr} {m : Str → Option Value} {name : Str} {scope : Scope} {cd : Value}
  {n : Str} {b₀ : Stmt} {suite : List Stmt} {pos np : Pos} {rest : List ExceptHandler} {Q : Flow → Shared → Prop} {news : List (Addr × Obj)} {KF : Frag}
  {p : Program} {loose : List Str} {mean : ExcName → Option Value} {mg mb : Str → Option Value} {x : Str}

theorem caughtDK (R : RaisedD base G (envOf name scope L a cd :: outer) e dx (.ref C) news s'.heap) (F : Fr g L G m) (K : Below A₀ base outer g) (hsm : G.UpToSlots s'.heap) (XB : KF.In base) (TB : Top p loose mean mg mb base)
    (D : KtsDicts (outer.filterMap (·.frame)) g) (T0 : KtsTurn (outer.filterMap (·.frame)) g₀ g)
    (ex : nsIn KF mainGlobals x = some (some (.ref C))) (q : ktsIn KF C "BaseException" = true)
    (k : ∀ h' g' oe vs tk, KtsTurn (outer.filterMap (·.frame)) g₀ g' → Fr g' L h' (fun y => if y = n then some (.ref e) else m y) → News g' L h' ((e, oe) :: news) → oe.cls = .ref C → oe.dict = some dx → oe.data = .fields vs → Below A₀ base outer g' → KF.In g' → Top p loose mean mg mb g' → KtsDicts (outer.filterMap (·.frame)) g' →
      wpAny (model prog w) ((A₀.deeper (envOf name scope L a cd)).mark (some (.ref e))) (execs (b₀ :: suite) (envOf name scope L a cd))
        (fun f s₄ => wpAny (model prog w) (A₀.deeper (envOf name scope L a cd)) (do bindName (envOf name scope L a cd) n .none; unbindBehindTheSuite (envOf name scope L a cd) n pos) (fun _ s₅ => Q f s₅) E s₄)
        (AsSuiteRaised (model prog w) ((A₀.deeper (envOf name scope L a cd)).mark (some (.ref e))) (envOf name scope L a cd) n pos (notedBy (model prog w) ((A₀.deeper (envOf name scope L a cd)).mark (some (.ref e))) (envOf name scope L a cd) (cameBackBy (model prog w) (A₀.deeper (envOf name scope L a cd)) (envOf name scope L a cd) E)))
        { s' with heap := h', toks := tk })
    (hk : scope.kind = .function := by rfl) (hlo : (envOf name scope L a cd).kindOf n = some .local := by rfl) (hx : (envOf name scope L a cd).kindOf x = some .globalImplicit := by rfl) (hd : (x == ("__debug__" : Str)) = false := by decide) :
    wpAny (model prog w) (A₀.deeper (envOf name scope L a cd)) (noteFrame (.ref e) (envOf name scope L a cd))
      (fun _ s₂ => wpAny (model prog w) (A₀.deeper (envOf name scope L a cd)) (setFlight (.ref e) none) (fun _ s₃ =>
        wpAny (model prog w) (A₀.deeper (envOf name scope L a cd)) (handleBy (.ref e) (envOf name scope L a cd) (.ExceptHandler (some (.Name x np)) (some n) (b₀ :: suite) pos :: rest)) Q E s₃) E s₂) E s' := by
  obtain ⟨B, hB, hBG, hl, tr⟩ := R
  have hL : B.get? L = none := by
    obtain ⟨_, ⟨L', _, hf, hn', _⟩, _⟩ := tr.2.2.1
    obtain rfl : L = L' := Option.some.inj hf
    exact hn'
  refine noteD (Around.frames_deeper K.stack) rfl tr fun h₄ tr₄ sm₄ => ?_
  refine flightD tr₄ fun h₅ tr₅ sm₅' => ?_
  have sm₅ := hsm.trans (sm₄.trans sm₅')
  obtain ⟨g₅, T₅, F₅, K₅⟩ := kts_ground K F hBG tr₅.1 sm₅
  have X₅ : KF.In g₅ := XB.keeps K₅.stays
  have P₅ : TopRead p loose mg mb g₅ := topRead_of (TB.keeps K₅.stays)
  obtain ⟨nm, q', N', bs, bm, hdct, sn, sub, ab, col, dd, k0, k1, k2, k3, k5, newId, hC, hbase, -⟩ := kts_cls X₅ q
  have hC₅ := F₅.keep _ _ hC
  obtain ⟨o5, -, -, -, -, ho5, hc5, -⟩ := tr₅.2.2.2
  refine wpAny_handleBy_cons (codeAny_handlers_test (name_K F₅ X₅ P₅ ex ?_ hk hx hd)) (by intro q; cases q)
  refine wpAny_excMatches_sub_self hC₅ ho5 hc5 hbase (codeAny_handlers_suite_as ?_)
  refine flightD tr₅ fun h₆ tr₆ sm₆' => ?_
  have sm₆ := sm₅.trans sm₆'
  obtain ⟨g₆, T₆, F₆, K₆⟩ := kts_ground K F hBG tr₆.1 sm₆
  obtain ⟨oe, vs, -, -, -, hoe, hoec, hoex, hoed, -⟩ := tr₆.2.2.2
  have ne₆ : g₆.get? e = none := T₆.none_ _ (kts_fresh F hBG tr₆.2.1 fun o ho hm => by
    obtain ⟨_, o', ho', hd'⟩ := K.frames.mem hm
    rw [ho] at ho'
    cases ho'
    obtain ⟨sl, hs⟩ := sm₆ _ _ (F.keep _ _ ho) hd'
    rw [hoe] at hs
    cases hs
    exact hd' _ hoed)
  have Nl : News g₆ L h₆ news := fun q hq => ⟨tr₆.1 _ _ (hl q hq).1, (fun z => by have := (hl q hq).1; rw [z, hL] at this; cases this), T₆.none_ _ (kts_none F.keep (hl q hq).2.1)⟩
  have N₆ := News.more F₆ Nl hoe (fun es n q => by rw [hoed] at q; cases q) ne₆
  have X₆ : KF.In g₆ := XB.keeps K₆.stays
  have P₆ : Top p loose mean mg mb g₆ := TB.keeps K₆.stays
  have D₆ : KtsDicts (outer.filterMap (·.frame)) g₆ := D.turn T₆
  refine stN F₆ N₆ (fun h₇ F₇ N₇ => ?_) hk hlo
  exact k h₇ g₆ oe vs _ (T0.trans T₆) F₇ N₇ hoec hoex hoed K₆ X₆ P₆ D₆
end
end Mine

namespace Mine
open PySem.Calls
set_option maxHeartbeats 4000000

def PsR (M : Model) (C : Addr) (E : Value → Shared → Prop) (v : Value) (s : Shared) : Prop :=
  ∃ x ob vs, v = .ref x ∧ s.heap.get? x = some ob ∧ ob.cls = .ref C ∧ ob.data = .fields vs ∧ vs[1]? = some .none ∧ Looks M s.heap (isSubtype (.ref C) (.type "BaseException")) true ∧ Looks M s.heap (typeOf (.ref C)) (.type "type") ∧ E (.ref x) s

theorem ps_raise {M : Model} {A : Around} {E : Value → Shared → Prop} {s : Shared} {env : Env} (C : Addr) {e : Expr} {pos : Pos} {Q : Flow → Shared → Prop} (hh : A.handled = none)
    (h : wpAny M A (eval e env) (PsR M C E) E s) : wpAny M A (exec (.Raise (some e) none pos) env) Q E s := by
  show wpAny M A (do standAt pos; raiseStmt env (some (do let v ← eval e env; standAt pos; pure v)) none) Q E s
  refine wpAny_bind (wpAny_standAt ?_)
  unfold raiseStmt
  dsimp only
  refine wpAny_bind (wpAny_bind (wpAny_mono h (fun v s₁ h₁ => wpAny_bind (wpAny_standAt (wpAny_pure ?_))) fun _ _ x => x))
  obtain ⟨x, ob, vs, rfl, hx, hcls, hd, h1, L1, L2, hE⟩ := h₁
  have LT : Looks M s₁.heap (typeOf (.ref x)) (.ref C) := hcls ▸ (Looks.ld hx).andThen .now
  have hnt : ∀ {Q' : Bool → Shared → Prop}, Q' false s₁ → wpAny M A (isType (.ref x)) Q' E s₁ := by
    intro Q' hq
    simp only [isType, loadHead]
    refine wpAny_bind (wpAny_loadPart hx ?_)
    rw [hd]; exact wpAny_pure hq
  refine wpAny_bind (wpAny_pure ?_)
  dsimp only
  refine wpAny_bind (wpAny_holding ?_)
  unfold excFromValue isExcClass
  refine wpAny_bind (wpAny_bind (hnt ?_))
  simp only [Bool.false_eq_true, if_false]
  refine wpAny_pure ?_
  simp only [Bool.false_eq_true, if_false]
  refine wpAny_bind ((LT.andThen L1 : Looks M s₁.heap (isInstance (.ref x) (.type "BaseException")) true).here ?_)
  simp only [if_true]
  refine wpAny_pure ?_
  refine wpAny_bind (hnt ?_)
  simp only [Bool.false_eq_true, if_false]
  unfold raisedInstance
  refine wpAny_bind (wpAny_bind (LT.here (wpAny_bind (L2.here ?_))))
  rw [if_pos (by decide)]
  refine wpAny_pure ?_
  unfold setFlight
  refine wpAny_bind (wpAny_bind (wpAny_field hx hd h1 ?_))
  rw [if_neg (by decide)]
  exact wpAny_pure (wpAny_raiseNew_none hh hE)

section
variable {prog : Program} {w : World} {A : Around} {E : Value → Shared → Prop} {s : Shared} {K : Frag} {h₀ : Heap} {L : Addr} {m : Str → Option Value} {news : List (Addr × Obj)}
variable {nm q : Str} {C N' fI : Addr} {bs bm : List Value} {hdct : Bool} {sn : List Str} {sub : List Value} {ab : Bool} {col : Option Bool} {dd : Option Addr} {k0 k1 k2 k3 k5 : Option Value} {v : Value}
theorem ps_callK {Q : Value → Shared → Prop} (F : Fr h₀ L s.heap m) (X₀ : K.In h₀) (N : News h₀ L s.heap news)
    (hC : K.lookup C = some (excClassObj nm q C N' bs bm hdct sn sub ab col dd k0 k1 k2 k3 k5 "Exception.__new__"))
    (hb : bm.contains (.type "Exception") = true) (hba : bm.contains (.type "AttributeError") = false) (hbn : bm.contains (.type "NameError") = false)
    (hi : findIn K (.ref C) "__init__" = some (some (.ref fI))) (hf : isFn K (.ref fI) = true)
    (h : ∀ e t h', Fr h₀ L h' m → News h₀ L h' ((e, psExc C t) :: (t, psTup v) :: news) → (∀ p ∈ news, p.1 < t) → t < e →
      codeAny (model prog w) (A.under (.builtin "type.__call__" ⟨[.ref C, v], []⟩)) (.call (.ref fI) ⟨[.ref e, v], []⟩) (InitBack e fun r s' => match r with | .ok (.ret v) => Q v s' | .ok _ => False | .error e => E e s') { s with heap := h' }) :
    wpAny (model prog w) A (call (.ref C) [v]) Q E s := by
  obtain ⟨hp, g, d, tk, os⟩ := s
  dsimp only at F N h
  have X := X₀.keeps F.keep
  obtain ⟨o, ho, hoc⟩ := Option.map_eq_some_iff.mp (show (K.lookup fI).map (·.cls) = some (.type "function") from beq_iff_eq.mp hf)
  have N1 := (N.push F (psTup v)).push (F.push _) (psExc C hp.objs.size)
  rw [Heap.size_push] at N1
  refine ps_call hb hba hbn (X _ _ hC) (looks_findIn X hi) (X _ _ ho) hoc ?_
  refine wpAny_call (codeAny_mono (h _ hp.objs.size _ ((F.push _).push _) N1 (fun p hp' => Heap.lt_size (N p hp').1) (Nat.lt_succ_self _)) fun r s' z => ?_)
  rcases r with e | (v | _ | _ | _) <;> first | exact z | exact z.elim
end
end Mine

namespace Mine
example (w : World) : (PySem.Challenge.rw_nt0480_01 = PySem.Challenge.rw_nt0480_01 ∧ Mine.hd.heap_39 w.params = Mine.hd.heap_39 w.params) := by k_fill; exact ⟨rfl, rfl⟩

def Claim0 (w : World) (mean : ExcName → Option Value) (mg mb : Str → Option Value) (f : Addr) (news : List (Addr × Obj)) (vs : List Value)
    (R : Heap → Addr → (Str → Option Value) → Shared → (Value → Shared → Prop) → Prop) : Prop :=
  ∀ (dp un : Nat) (gd : Option (List Code)) (cn : Str) (cs : Scope) (a : Addr) (ccd : Value) (A₀ : Around) (base h₀ : Heap) (L : Addr) (m : Str → Option Value) (s : Shared) (Q E : Value → Shared → Prop),
    Below A₀ base [] h₀ → Fr h₀ L s.heap m → (hd.heap_39 w.params).In base → (hd.heap_39 w.params).In h₀ → News h₀ L s.heap news →
    Top hd.view_39 (looseW hd.view_39 [Str.ofString "LEAST_INT", Str.ofString "MOST_INT", Str.ofString "PostError", Str.ofString "MOST_REAL"]) mean mg mb base →
    Top hd.view_39 (looseW hd.view_39 [Str.ofString "LEAST_INT", Str.ofString "MOST_INT", Str.ofString "PostError", Str.ofString "MOST_REAL"]) mean mg mb h₀ →
    cs.kind = .function → dp + 20 < recursionLimit → un + 1000 < cLine → R h₀ L m s Q →
    wpAny (model PySem.Challenge.rw_nt0480_01.row.prog w) (ktrTop dp un gd cn cs L a ccd [] []) (call (.ref f) vs) Q E s

theorem leaveDK2 {M : Model} {A : Around} {E : Value → Shared → Prop} {s' : Shared} {base g : Heap} {outer : List Env} {L a e dx : Addr} {m : Str → Option Value} {name : Str} {scope : Scope} {cd : Value} {Q : Unit → Shared → Prop} {news : List (Addr × Obj)} {oe od : Obj} {vs : Array Value} {cls : Value}
    (K : Below A base outer g) (F : Fr g L s'.heap m) (N : News g L s'.heap ((dx, od) :: (e, oe) :: news)) (hne : ∀ q ∈ ((dx, od) :: news), q.1 ≠ e) (hcl : oe.cls = cls) (hdx : oe.dict = some dx) (hd : oe.data = .fields vs) (h1 : vs[1]? = some .none)
    (hQ : ∀ h', RaisedD base g outer e dx cls ((dx, od) :: news) h' → g.UpToSlots h' → Q () { s' with heap := h' }) (hk : scope.kind = .function := by rfl) :
    wpAny M (A.deeper (envOf name scope L a cd)) (leaving (envOf name scope L a cd) (.ref e)) Q E s' :=
  leaveDK K F (news_cut N (by
    intro p hp
    rcases List.mem_cons.mp hp with h | h
    · subst h; exact .tail _ (.head _)
    rcases List.mem_cons.mp h with h | h
    · subst h; exact .head _
    · exact .tail _ (.tail _ h))) hne hcl hdx hd h1 hQ hk

theorem inst_of {h : Heap} {e dx C : Addr} {oe od : Obj} {vs : Array Value} (he : h.get? e = some oe) (c1 : oe.cls = .ref C) (c2 : oe.dict = some dx) (c3 : oe.data = .fields vs) (hd : h.get? dx = some od) : W.InstAt h e oe C (some od) :=
  ⟨he, c1, by unfold notCls; rw [c3], by rw [c2]; exact hd⟩

theorem ne_of_below {news : List (Addr × Obj)} {d e : Addr} (h : ∀ p ∈ news, p.1 < d) (hl : @LE.le Nat _ d e) : ∀ p ∈ news, p.1 ≠ e := fun p hp z => absurd (Nat.lt_of_lt_of_le (h p hp) hl) (by rw [z]; exact Nat.lt_irrefl _)
local macro_rules | `(tactic| k_all) => `(tactic| exact ne_of_below (by assumption) (by omega))
local macro_rules | `(tactic| k_mem) => `(tactic| assumption)
local macro_rules | `(tactic| news_mem) => `(tactic| k_mem)
local macro_rules | `(tactic| units_room) => `(tactic| ktr_units)
local macro_rules | `(tactic| walk_at "call ref") => `(tactic| k_extra "LInt10")
local macro_rules | `(tactic| walk_at "call ref") => `(tactic| k_extra "LInt11")
local macro_rules | `(tactic| walk_at "exec Raise some none") => `(tactic| (k_here; refine ps_raise 45 rfl ?_))
local macro_rules | `(tactic| walk_at "setAttr ref") => `(tactic| (k_here; k_dflt (refine' ps_set (C := 45) (C2 := 32) ?k1 ?k2 ?k3 ?k4 ?k5 ?k6 ?k7 ?k8 ?k9 ?_; (case k1 => k_asm); (case k2 => k_asm); (case k3 => k_asm); (case k4 => k_all); (case k5 => k_is); (case k6 => k_is); (case k7 => rfl); (case k8 => rfl); (case k9 => k_is); k_whole); intro d' h' tk' F' N' l1; (try k_lt l1); (try k_sweep)))
local macro_rules | `(tactic| walk_at "PsR") => `(tactic| (refine ⟨_, _, _, rfl, News.get (by k_asm) (by k_mem), rfl, rfl, rfl, looks_subIn (by k_in) (by k_is), looks_typeIn (by k_in) (by k_is), ?_⟩))
local macro_rules | `(tactic| walk_at "leaving ref") => `(tactic| (k_here; (refine' leaveDK2 ?k1 ?k2 ?k3 ?k4 ?r1 ?r2 ?r3 ?r4 ?_; (case k1 => assumption); (case k2 => assumption); (case k3 => k_asm); (case k4 => k_all); (case r1 => rfl); (case r2 => rfl); (case r3 => rfl); (case r4 => rfl); k_whole; intro h' R' U'; (try dsimp only at R' U' ⊢))))
local macro_rules | `(tactic| walk_at "noteFrame ref") => `(tactic| (k_here; k_dflt (refine' caughtDK ?R ?F ?K ?U ?XB ?TB ?D ?T0 ?ex ?q ?_; (case R => assumption); (case F => assumption); (case K => assumption); (case U => assumption); (case XB => assumption); (case TB => assumption); (case D => assumption); (case T0 => exact KtsTurn.refl); (case ex => k_is); (case q => kts_isx); k_whole); intro h' g' oe' vs' tk' T' F' N' c1' c2' c3' K' X' P' D'; (try k_lift K'); (try k_sweep)))
local macro_rules | `(tactic| walk_at "getAttr ref") => `(tactic| (k_here; k_dflt (refine' ps_get (C := 45) ?X (inst_of ?i1 ?i2 ?i3 ?i4 ?i5) ?g1 ?g2 ?g3 ?g4 ?g5 ?_; (case i2 => assumption); (case i3 => assumption); (case i4 => assumption); (case i1 => exact News.get (by k_asm) (by k_mem)); (case i5 => exact News.get (by k_asm) (by k_mem)); (case X => k_in); (case g1 => k_is); (case g2 => k_is); (case g3 => k_is); (case g4 => exact findObj_own (by k_is) (by k_is) (by k_is) ((lookIn_dict _ _ _).trans (by k_get))); (case g5 => k_handed))))
theorem tq_neg {n : Int} (h : n < 0) : (-((if n < 0 then -n else n).fdiv 1000000 * 1000000)).fdiv 1000000 = truncQ n := by
  unfold truncQ
  rw [if_pos h, if_pos h, fd6, fd6]
  omega
theorem tq_pos {n : Int} (h : ¬ n < 0) : ((if n < 0 then -n else n).fdiv 1000000 * 1000000).fdiv 1000000 = truncQ n := by
  unfold truncQ
  rw [if_neg h, if_neg h, fd6, fd6]
  omega
theorem tq_le {n : Int} (h : n < 0) : truncQ n ≤ 2147483647 := by
  unfold truncQ; rw [if_pos h, fd6]; omega
theorem tq_ge {n : Int} (h : ¬ n < 0) : -2147483648 ≤ truncQ n := by
  unfold truncQ; rw [if_neg h, fd6]; omega
def RetBytes (news : List (Addr × Obj)) (v : Array UInt8) (h₀ : Heap) (L : Addr) (m : Str → Option Value) (s : Shared) (Q : Value → Shared → Prop) : Prop :=
  ∀ (t : Tok) (h' : Heap) (tk' : Nat), Fr h₀ L h' m → News h₀ L h' news → Q (.bytes v t) { s with heap := h', toks := tk' }
theorem news_tail {h₀ h : Heap} {L : Addr} {x : Addr × Obj} {l : List (Addr × Obj)} (N : News h₀ L h (x :: l)) : News h₀ L h l := fun p hp => N p (.tail _ hp)
set_option maxHeartbeats 8000000
theorem lawint_c {w : World} {mean : ExcName → Option Value} {mg mb : Str → Option Value} {n : Int} {t1 : Tok} {news : List (Addr × Obj)}
   (h0 : -100000000000000000000 ≤ n) (h1 : n ≤ 100000000000000000000) :
   Claim0 w mean mg mb 138 news [.int n t1] (fun h₀ L m s Q => (-2147483648 ≤ truncQ n → truncQ n ≤ 2147483647 → RetInt news (truncQ n) h₀ L m s Q) ∧ (truncQ n < -2147483648 ∨ 2147483647 < truncQ n → RetBytes news #[114, 97, 110, 103, 101, 99, 104, 101, 99, 107] h₀ L m s Q)) := by
  k_with_none
  k_with "LInt10" => (k_here; k_dflt (refine wpAny_call ?_; refine' code_def ?k1 ?k2 ?k3 ?k4 ?k5 ?kA ?kF ?kK ?k6 ?k7 ?k8 ?k9 ?kB ?_ ?c2 ?c3 ?c4 ?c5; (case kA => exact rfl); (case kF => exact rfl); (case kK => first | exact rfl | assumption); (case k1 => k_asm); (case k2 => k_asm); (case k3 => k_asm); (case k4 => k_asm); (case k5 => k_asm); (case k6 => k_is); (case k7 => k_is); (case k8 => ktr_room); (case k9 => first | exact BindsTo.of_eq rfl | exact binds_K (by k_in) rfl (by k_is) rfl rfl rfl); (case c5 => decide); (case kB => exact locs rfl); (case c2 => exact rfl); (case c3 => exact rfl); (case c4 => exact rfl); k_whole; intro g' L' h' FG' F' N' B' X' T'; (try dsimp only); (try k_lift B'); (try k_fold)))
  k_with "LInt11" => (k_here; k_dflt (refine' ps_callK (C := 45) (fI := 29) ?k1 ?k2 ?k3 ?k4 ?b1 ?b2 ?b3 ?k5 ?k6 ?_; (case k1 => k_asm); (case k2 => k_asm); (case k3 => k_asm); (case k4 => k_is); (case b1 => decide +kernel); (case b2 => decide +kernel); (case b3 => decide +kernel); (case k5 => k_is); (case k6 => k_is); k_whole; intro x' d' h' F' N' l1 l2; (try k_lt l1); (try k_lt2 l2); (try k_sweep); refine' code_def ?k1 ?k2 ?k3 ?k4 ?k5 ?kA ?kF ?kK ?k6 ?k7 ?k8 ?k9 ?kB ?_ ?c2 ?c3 ?c4 ?c5; (case kA => exact rfl); (case kF => exact rfl); (case kK => first | exact rfl | assumption); (case k1 => k_asm); (case k2 => k_asm); (case k3 => k_asm); (case k4 => k_asm); (case k5 => k_asm); (case k6 => k_is); (case k7 => k_is); (case k8 => ktr_room); (case k9 => first | exact BindsTo.of_eq rfl | exact binds_K (by k_in) rfl (by k_is) rfl rfl rfl); (case c5 => decide); (case kB => exact locs rfl); (case c2 => exact rfl); (case c3 => exact rfl); (case c4 => exact rfl); k_whole; intro g' L' h' FG' F' N' B' X' T'; (try dsimp only); (try k_lift B'); (try k_fold)))
  unfold Claim0
  intro dp un gd cn cs a ccd A₀ base h₀ L m s Q E B F XB X N TB T hk hdp hun hret
  obtain ⟨hret, hret2⟩ := hret
  unfold RetInt at hret
  unfold RetBytes at hret2
  k_dflt (refine wpAny_call ?_; refine' code_defS0 ?k1 ?k2 ?k3 ?k4 ?k5 ?kA ?k6 ?k7 ?k8 ?k9 ?kB ?_ ?cK ?c2 ?c3 ?c4 ?c5; (case kA => exact rfl); (case k2 => k_asm); (case k1 => k_asm); (case k3 => k_asm); (case k4 => k_asm); (case k5 => k_asm); (case k6 => k_is); (case k7 => k_is); (case k8 => ktr_room); (case k9 => first | exact BindsTo.of_eq rfl | exact binds_K (by k_in) rfl (by k_is) rfl rfl rfl); (case kB => exact locs rfl); (case cK => assumption); (case c2 => exact rfl); (case c3 => exact rfl); (case c4 => exact rfl); (case c5 => decide); k_whole; intro g' L' h' FG' F' N' B' X' T' D'; (try dsimp only); (try k_lift B'); (try k_fold))
  k_steps
  all_goals first
    | exact cb_retI (hret (by rw [← tq_neg (by assumption)]; assumption) (tq_le (by assumption))) (tq_neg (by assumption)) (by k_asm) (news_cut (by k_asm) (fun p hp => by repeat (first | exact hp | refine List.Mem.tail _ ?_)))
    | exact cb_retI (hret (tq_ge (by assumption)) (by rw [← tq_pos (by assumption)]; assumption)) (tq_pos (by assumption)) (by k_asm) (news_cut (by k_asm) (fun p hp => by repeat (first | exact hp | refine List.Mem.tail _ ?_)))
    | exact hret2 (Or.inl (by rw [← tq_neg (by assumption)]; exact Int.not_le.mp (by assumption))) _ _ _ (by k_asm) (news_cut (by k_asm) (fun p hp => by repeat (first | exact hp | refine List.Mem.tail _ ?_)))
    | exact hret2 (Or.inr (by rw [← tq_pos (by assumption)]; exact Int.not_le.mp (by assumption))) _ _ _ (by k_asm) (news_cut (by k_asm) (fun p hp => by repeat (first | exact hp | refine List.Mem.tail _ ?_)))
    | trace_state
end Mine

namespace Mine
open PySem.NumText PySem.W.KIN

def digs (m : Nat) : List Nat := (Nat.toDigits 10 m).map Char.toNat
theorem digs_val (m : Nat) : digitsVal (digs m) = m := val_back m
theorem digs_str (m : Nat) : (Str.ofString (toString ((m : Nat) : Int))).cps.toList = digs m := signs_num m
theorem digs_all (m : Nat) : AllDigits (digs m) := by
  intro c hc
  obtain ⟨ch, hch, e⟩ := List.mem_map.mp hc
  have r := digit_range (Nat.isDigit_of_mem_toDigits (by decide) (by decide) hch)
  rw [← e]
  exact r
theorem digs_ne (m : Nat) : digs m ≠ [] := by
  intro h
  have := List.map_eq_nil_iff.mp h
  exact Nat.toDigits_ne_nil this
theorem digs_len {m : Nat} (h : m < 10 ^ 18) : (digs m).length ≤ 19 := by
  have e := int_text_length_le10 (a := (m : Int)) (k := 18) (by decide) (by simpa using h)
  rw [← digs_str, Array.length_toList]
  have e2 := PySem.ofString_length (toString ((m : Nat) : Int))
  unfold Str.length at e2
  omega
theorem minus_free (m : Nat) : 45 ∉ digs m := fun h => by
  have := digs_all m 45 h
  omega
theorem strike (n : Int) : (Txt.replace (Str.ofString (toString n)) (Str.ofString "-") (Str.ofString "")).cps.toList = digs n.natAbs := by
  have e1 : Str.ofString "-" = ⟨#[45]⟩ := by decide +kernel
  have e2 : Str.ofString "" = ⟨#[]⟩ := by decide +kernel
  rw [e1, e2, replace_strikes]
  cases n with
  | ofNat m =>
    have : (Str.ofString (toString (Int.ofNat m))).cps.toList = digs m := digs_str m
    rw [this, filter_free _ _ (minus_free m)]
    rfl
  | negSucc m =>
    have : (Str.ofString (toString (Int.negSucc m))).cps.toList = 45 :: digs (m + 1) := by
      rw [signs_ofString, show toString (Int.negSucc m) = "-" ++ Nat.repr (m + 1) from rfl, String.toList_append, List.map_append, ← digs_str, signs_ofString]
      rfl
    rw [this, List.filter_cons_of_neg (by simp), filter_free _ _ (minus_free (m + 1))]
    rfl

theorem fold_start : ∀ (b : List Nat) (x : Nat), b.foldl (fun acc c => acc * 10 + (c - 48)) x = x * 10 ^ b.length + digitsVal b
  | [], x => by simp [digitsVal]
  | c :: r, x => by
    have h1 := fold_start r (x * 10 + (c - 48))
    have h2 := fold_start r (0 * 10 + (c - 48))
    unfold digitsVal
    rw [List.foldl_cons, List.foldl_cons, h1, h2, List.length_cons, Nat.pow_succ, Nat.add_mul, Nat.mul_assoc, Nat.mul_comm 10, Nat.zero_mul, Nat.zero_add]
    omega
theorem append_val (a b : List Nat) : digitsVal (a ++ b) = digitsVal a * 10 ^ b.length + digitsVal b := by
  rw [← fold_start]
  unfold digitsVal
  rw [List.foldl_append]
theorem cons_val (c : Nat) (r : List Nat) : digitsVal (c :: r) = (c - 48) * 10 ^ r.length + digitsVal r := by
  have := append_val [c] r
  simpa [digitsVal] using this
theorem val_lt : ∀ {b : List Nat}, AllDigits b → digitsVal b < 10 ^ b.length
  | [], _ => by simp [digitsVal]
  | c :: r, h => by
    have ih := val_lt h.tail
    have hc := h.head
    rw [cons_val, List.length_cons, Nat.pow_succ]
    have : (c - 48) * 10 ^ r.length ≤ 9 * 10 ^ r.length := Nat.mul_le_mul_right _ (by omega)
    omega
theorem zeros_val (k : Nat) (b : List Nat) : digitsVal (List.replicate k 48 ++ b) = digitsVal b := by
  have z : digitsVal (List.replicate k 48) = 0 := by
    induction k with
    | zero => rfl
    | succ k ih => rw [List.replicate_succ, cons_val, ih]; simp
  rw [append_val, z, Nat.zero_mul, Nat.zero_add]
theorem zeros_all {k : Nat} {b : List Nat} (h : AllDigits b) : AllDigits (List.replicate k 48 ++ b) := by
  intro c hc
  rcases List.mem_append.mp hc with hc | hc
  · rw [List.eq_of_mem_replicate hc]; decide
  · exact h c hc
theorem digits_unique : ∀ {a b : List Nat}, AllDigits a → AllDigits b → a.length = b.length → digitsVal a = digitsVal b → a = b
  | [], [], _, _, _, _ => rfl
  | [], _ :: _, _, _, h, _ => by cases h
  | _ :: _, [], _, _, h, _ => by cases h
  | c :: r, d :: q, ha, hb, hl, hv => by
    have hl' : r.length = q.length := by simpa using hl
    rw [cons_val, cons_val, hl'] at hv
    have h1 := val_lt ha.tail
    have h2 := val_lt hb.tail
    rw [hl'] at h1
    have hc := ha.head
    have hd := hb.head
    have e : c - 48 = d - 48 := by
      have p : 0 < 10 ^ q.length := Nat.pow_pos (by decide)
      have d1 : ((c - 48) * 10 ^ q.length + digitsVal r) / 10 ^ q.length = c - 48 := by
        rw [Nat.mul_comm, Nat.mul_add_div p, Nat.div_eq_of_lt h1, Nat.add_zero]
      have d2 : ((d - 48) * 10 ^ q.length + digitsVal q) / 10 ^ q.length = d - 48 := by
        rw [Nat.mul_comm, Nat.mul_add_div p, Nat.div_eq_of_lt h2, Nat.add_zero]
      rw [hv] at d1
      omega
    have hv' : digitsVal r = digitsVal q := by rw [e] at hv; omega
    rw [digits_unique ha.tail hb.tail hl' hv', show c = d by omega]
theorem split_val {p : List Nat} (h : AllDigits p) (hl : 7 ≤ p.length) :
    digitsVal (p.take (p.length - 6)) = digitsVal p / 1000000 ∧ digitsVal (p.drop (p.length - 6)) = digitsVal p % 1000000 ∧ (p.drop (p.length - 6)).length = 6 ∧ AllDigits (p.take (p.length - 6)) ∧ AllDigits (p.drop (p.length - 6)) ∧ p.take (p.length - 6) ≠ [] := by
  have e := List.take_append_drop (p.length - 6) p
  have ln : (p.drop (p.length - 6)).length = 6 := by rw [List.length_drop]; omega
  have a1 : AllDigits (p.take (p.length - 6)) := fun c hc => h c (List.mem_of_mem_take hc)
  have a2 : AllDigits (p.drop (p.length - 6)) := fun c hc => h c (List.mem_of_mem_drop hc)
  have v : digitsVal p = digitsVal (p.take (p.length - 6)) * 1000000 + digitsVal (p.drop (p.length - 6)) := by
    have := append_val (p.take (p.length - 6)) (p.drop (p.length - 6))
    rw [e, ln] at this
    exact this
  have lt := val_lt a2
  rw [ln] at lt
  refine ⟨by omega, by omega, ln, a1, a2, fun z => ?_⟩
  have := congrArg List.length z
  rw [List.length_take, List.length_nil] at this
  omega
end Mine

namespace Mine
open PySem.NumText PySem.W.KIN
example (w : World) : (PySem.Challenge.rw_nt0480_01 = PySem.Challenge.rw_nt0480_01 ∧ Mine.hd.heap_39 w.params = Mine.hd.heap_39 w.params) := by k_fill; exact ⟨rfl, rfl⟩

theorem str_length (x : Str) : x.length = x.cps.toList.length := by unfold Str.length; rw [Array.length_toList]
section
variable {prog : Program} {w : World} {A : Around} {E : Value → Shared → Prop} {s : Shared} {Q : Value → Shared → Prop} {t u v : Tok} {n : Int}
theorem t_replace (hn : n.natAbs < 10 ^ 18) (hu : u ≠ 0) (hv : v ≠ 0) (huv : u ≠ v) (h : ∀ (T : Str) t' k, T.cps.toList = digs n.natAbs → T.length ≤ 19 → Q (.str T t') { s with toks := k }) :
    wpAny (model prog w) A (call (.builtin "str.replace") [.str (Str.ofString (toString n)) t, .str (Str.ofString "-") u, .str (Str.ofString "") v]) Q E s := by
  have hl : (Str.ofString (toString n)).length ≤ 19 := by
    rw [PySem.ofString_length]
    exact int_text_length_le10 (k := 18) (by decide) hn
  refine SC.replaceW hu hv huv (by decide +kernel) (by omega) (by decide +kernel) fun t' k => h _ t' k (strike n) ?_
  rw [str_length, strike]
  exact digs_len hn
theorem t_mul0 {i : Int} (h0 : 0 ≤ i) (h1 : i ≤ 7) (h : ∀ (Z : Str) t' k, Z.cps.toList = List.replicate i.toNat 48 → Z.length = i.toNat → Q (.str Z t') { s with toks := k }) :
    wpAny (model prog w) A (binaryOp .Mult (.str (Str.ofString "0") t) (.int i u)) Q E s := by
  have e : Str.ofString "0" = ⟨#[48]⟩ := by decide +kernel
  refine SB.mul (mulOk_of 16 1048576 (by decide +kernel) (by omega) (by omega) (by decide) (by decide)) fun t' k => ?_
  rw [e]
  refine h _ t' k (mul_one_list 48 i) ?_
  rw [str_length, mul_one_list, List.length_replicate]
theorem t_add {Z T : Str} (hZ : Z.length ≤ 100) (hT : T.length ≤ 100) (h : ∀ (P : Str) t' k, P.cps.toList = Z.cps.toList ++ T.cps.toList → P.length = Z.length + T.length → Q (.str P t') { s with toks := k }) :
    wpAny (model prog w) A (binaryOp .Add (.str Z t) (.str T u)) Q E s := by
  refine SB.add (fun t' k => h _ t' k ?_ (Str.length_append Z T)) (by rw [sizeLine_eq]; omega)
  rw [Str.cps_append, Array.toList_append]
end
theorem take_neg {P : Str} (h : 7 ≤ P.length) : (Txt.slice P none (some (-6))).cps.toList = P.cps.toList.take (P.cps.toList.length - 6) := by
  show (StrLaws.sliceText P none (some (-6))).cps.toList = _
  have hl := str_length P
  rw [StrLaws.sliceText_to_neg (by decide) (by omega)]
  rw [List.drop_zero, show (-6 + (P.length : Int) - 0).toNat = P.cps.toList.length - 6 from by omega]
theorem drop_neg {P : Str} (h : 7 ≤ P.length) : (Txt.slice P (some (-6)) none).cps.toList = P.cps.toList.drop (P.cps.toList.length - 6) := by
  show (StrLaws.sliceText P (some (-6)) none).cps.toList = _
  have hl := str_length P
  rw [StrLaws.sliceText_from_neg (by decide) (by omega)]
  rw [show (-6 + (P.length : Int)).toNat = P.cps.toList.length - 6 from by omega, show ((P.cps.toList.length : Int) - (-6 + (P.length : Int))).toNat = 6 from by omega, List.take_of_length_le (by rw [List.length_drop]; omega)]

def Padded (P : Str) (m : Nat) : Prop := AllDigits P.cps.toList ∧ digitsVal P.cps.toList = m ∧ 7 ≤ P.length ∧ P.length ≤ 100
theorem pad_of {Z T P : Str} {m : Nat} {i : Int} (hP : P.cps.toList = Z.cps.toList ++ T.cps.toList) (hT : T.cps.toList = digs m) (hZ : Z.cps.toList = List.replicate i.toNat 48) (hTl : T.length ≤ 19) (h0 : 0 ≤ i) (h1 : i ≤ 7) (h2 : 7 - (T.length : Int) ≤ i) : Padded P m := by
  have hl : P.length = i.toNat + T.length := by
    rw [str_length, hP, List.length_append, hZ, List.length_replicate, ← str_length]
  rw [hZ, hT] at hP
  refine ⟨by rw [hP]; exact zeros_all (digs_all m), by rw [hP, zeros_val, digs_val], by omega, by omega⟩
theorem t_int {prog : Program} {w : World} {A : Around} {E : Value → Shared → Prop} {s : Shared} {Q : Value → Shared → Prop} {t : Tok} {P : Str} {m : Nat} (hP : Padded P m) (h : Q (.int ((m / 1000000 : Nat) : Int) s.toks) { s with toks := s.toks + 1 }) :
    wpAny (model prog w) A (call (.type "int") [.str (Txt.slice P none (some (-6))) t]) Q E s := by
  obtain ⟨a, b, c, d⟩ := hP
  have hl := str_length P
  obtain ⟨e1, -, -, e4, -, e6⟩ := split_val a (by omega)
  have e := take_neg c
  refine call_text (n := ((m / 1000000 : Nat) : Int)) ?_ ?_ h
  · rw [intText_digits (by rw [e]; exact e4) (by rw [e]; exact e6) (by rw [str_length, e, List.length_take]; omega), e, e1, b]
  · rw [str_length, e, List.length_take]; omega
/-- the six figures behind the point -/
def Six (B : Str) (r : Nat) : Prop := AllDigits B.cps.toList ∧ digitsVal B.cps.toList = r ∧ B.cps.toList.length = 6
theorem six_of {P : Str} {m : Nat} (hP : Padded P m) : Six (Txt.slice P (some (-6)) none) (m % 1000000) := by
  obtain ⟨a, b, c, d⟩ := hP
  have hl := str_length P
  obtain ⟨-, e2, e3, -, e5, -⟩ := split_val a (by omega)
  unfold Six
  rw [drop_neg c]
  exact ⟨e5, by rw [e2, b], e3⟩
def RetFig (news : List (Addr × Obj)) (n : Int) (h₀ : Heap) (L : Addr) (m : Str → Option Value) (s : Shared) (Q : Value → Shared → Prop) : Prop :=
  ∀ (x : Addr) (B : Str) (t t' : Tok) (h' : Heap) (tk' : Nat), Six B (n.natAbs % 1000000) → Fr h₀ L h' m → News h₀ L h' ((x, { cls := .type "tuple", data := .seq #[.bool (decide (n < 0)), .int ((n.natAbs / 1000000 : Nat) : Int) t, .str B t'] }) :: news) → (∀ p ∈ news, p.1 < x) → Q (.ref x) { s with heap := h', toks := tk' }

local macro_rules | `(tactic| k_mem) => `(tactic| assumption)
local macro_rules | `(tactic| news_mem) => `(tactic| k_mem)
local macro_rules | `(tactic| units_room) => `(tactic| ktr_units)
local macro_rules | `(tactic| walk_at "call ref") => `(tactic| k_extra "Fig10")
local macro_rules | `(tactic| walk_at "call builtin:str.replace") => `(tactic| (k_here; (refine t_replace (by assumption) (Nat.succ_ne_zero _) (Nat.succ_ne_zero _) (Nat.ne_of_lt (Nat.lt_succ_self _)) ?_); intro T t' k hT hTl))
local macro_rules | `(tactic| walk_at "binaryOp Mult str int") => `(tactic| (k_here; (refine t_mul0 (by omega) (by omega) ?_); intro Z t' k hZ hZl))
local macro_rules | `(tactic| walk_at "binaryOp Add str str") => `(tactic| (k_here; (refine t_add (by omega) (by omega) ?_); intro P t' k hP hPl; (have hPad := pad_of hP (by assumption) (by assumption) (by assumption) (by omega) (by omega) (by omega))))
local macro_rules | `(tactic| walk_at "call type:int") => `(tactic| (k_here; (refine t_int (by assumption) ?_)))
set_option maxHeartbeats 4000000
theorem fig_c {w : World} {mean : ExcName → Option Value} {mg mb : Str → Option Value} {n : Int} {t1 : Tok} {news : List (Addr × Obj)}
   (hn : n.natAbs < 10 ^ 18) :
   Claim w mean mg mb 124 news [.int n t1] (RetFig news n) := by
  k_with_none
  k_with "Fig10" => (k_here; k_dflt (refine wpAny_call ?_; refine' code_def ?k1 ?k2 ?k3 ?k4 ?k5 ?kA ?kF ?kK ?k6 ?k7 ?k8 ?k9 ?kB ?_ ?c2 ?c3 ?c4 ?c5; (case kA => exact rfl); (case kF => exact rfl); (case kK => first | exact rfl | assumption); (case k1 => k_asm); (case k2 => k_asm); (case k3 => k_asm); (case k4 => k_asm); (case k5 => k_asm); (case k6 => k_is); (case k7 => k_is); (case k8 => ktr_room); (case k9 => exact BindsTo.of_eq rfl); (case c5 => decide); (case kB => exact locs rfl); (case c2 => exact rfl); (case c3 => exact rfl); (case c4 => exact rfl); k_whole; intro g' L' h' FG' F' N' B' X' T'; (try dsimp only); (try k_lift B'); (try k_fold)))
  unfold Claim
  intro dp un gd cn cs a ccd cl outer A₀ base h₀ L m s Q E B F X N T hk hdp hun hret
  unfold RetFig at hret
  walk_at "call ref"
  k_steps
  all_goals first | exact hret _ _ _ _ _ _ (six_of (by assumption)) (by k_asm) (by k_asm) (by k_asm) | trace_state
end Mine

namespace Mine
local macro_rules | `(tactic| walk_at "padDue10") => `(tactic| fail)
local macro_rules | `(tactic| walk_at "padDue11") => `(tactic| fail)
open PySem.NumText PySem.W.KIN
example (w : World) : (PySem.Challenge.rw_nt0480_01 = PySem.Challenge.rw_nt0480_01 ∧ Mine.hd.heap_39 w.params = Mine.hd.heap_39 w.params) := by k_fill; exact ⟨rfl, rfl⟩

theorem six_lit {B C : Str} {r : Nat} (h : Six B r) (k : Six C r) : B = C := by
  obtain ⟨a1, a2, a3⟩ := h
  obtain ⟨b1, b2, b3⟩ := k
  have e := digits_unique a1 b1 (a3.trans b3.symm) (a2.trans b2.symm)
  cases B; cases C
  simp only [PySem.Str.mk.injEq]
  exact Array.toList_inj.mp e
theorem six0 : Six (Str.ofString "000000") 0 := by unfold Six AllDigits; decide +kernel
theorem six1 : Six (Str.ofString "000001") 1 := by unfold Six AllDigits; decide +kernel
theorem six2 : Six (Str.ofString "499999") 499999 := by unfold Six AllDigits; decide +kernel
theorem six3 : Six (Str.ofString "500000") 500000 := by unfold Six AllDigits; decide +kernel
theorem six4 : Six (Str.ofString "500001") 500001 := by unfold Six AllDigits; decide +kernel
theorem six5 : Six (Str.ofString "999999") 999999 := by unfold Six AllDigits; decide +kernel

theorem sq0 : (Str.ofString "000000" == Str.ofString "000000") = true := by decide +kernel
theorem sq1 : (Str.ofString "000001" == Str.ofString "000000") = false := by decide +kernel
theorem sq2 : (Str.ofString "499999" == Str.ofString "000000") = false := by decide +kernel
theorem sq3 : (Str.ofString "500000" == Str.ofString "000000") = false := by decide +kernel
theorem sq4 : (Str.ofString "500001" == Str.ofString "000000") = false := by decide +kernel
theorem sq5 : (Str.ofString "999999" == Str.ofString "000000") = false := by decide +kernel
def RetDue (news : List (Addr × Obj)) (n : Int) (h₀ : Heap) (L : Addr) (m : Str → Option Value) (s : Shared) (Q : Value → Shared → Prop) : Prop :=
  ∀ (x : Addr) (t1 t2 t3 t4 : Tok) (h' : Heap) (tk' : Nat), Fr h₀ L h' m → News h₀ L h' ((x, { cls := .type "tuple", data := .seq #[.int (n.fdiv 1000000) t1, .int (-((-n).fdiv 1000000)) t2, .int ((2 * n + 1000000).fdiv 2000000) t3, .int (truncQ n) t4] }) :: news) → (∀ p ∈ news, p.1 < x) → Q (.ref x) { s with heap := h', toks := tk' }
theorem due_end {news : List (Addr × Obj)} {n : Int} {h₀ h' : Heap} {L x : Addr} {m : Str → Option Value} {s : Shared} {Q : Value → Shared → Prop} {a b c d : Int} {t1 t2 t3 t4 : Tok} {tk' : Nat} (hret : RetDue news n h₀ L m s Q)
   (e1 : a = n.fdiv 1000000) (e2 : b = -((-n).fdiv 1000000)) (e3 : c = (2 * n + 1000000).fdiv 2000000) (e4 : d = truncQ n) (F : Fr h₀ L h' m) (N : News h₀ L h' ((x, { cls := .type "tuple", data := .seq #[.int a t1, .int b t2, .int c t3, .int d t4] }) :: news)) (hl : ∀ p ∈ news, p.1 < x) : Q (.ref x) { s with heap := h', toks := tk' } := by
  subst e1; subst e2; subst e3; subst e4
  exact hret x t1 t2 t3 t4 h' tk' F N hl

local macro_rules | `(tactic| k_mem) => `(tactic| assumption)
local macro_rules | `(tactic| news_mem) => `(tactic| k_mem)
local macro_rules | `(tactic| units_room) => `(tactic| ktr_units)
local macro_rules | `(tactic| walk_at "call ref") => `(tactic| k_extra "Due10")
set_option maxHeartbeats 4000000
theorem due_0 {w : World} {mean : ExcName → Option Value} {mg mb : Str → Option Value} {n : Int} {t1 : Tok} {news : List (Addr × Obj)}
   (hn : n.natAbs < 10 ^ 18) (hr : n.natAbs % 1000000 = 0) : Claim40 w mean mg mb 131 news [.int n t1] (RetDue news n) := by
  k_with_none
  k_with "Due10" => (k_here; k_dflt (refine' claim_use (f := 124) ?kC ?k1 ?k2 ?k3 ?k4 ?k5 ?kK ?kd ?ku ?kR; (case k1 => k_asm); (case k2 => k_asm); (case k3 => k_asm); (case k4 => k_asm); (case k5 => k_asm); (case kC => exact fig_c (by assumption)); (case kK => first | exact rfl | assumption); (case kd => ktr_room); (case ku => ktr_units)); unfold RetFig; intro x' B' t' t2' h' tk' S' F' N' l1; (try k_lt l1); (try k_sweep); (rw [(by assumption : _ % 1000000 = _)] at S'); (first | (have e' := six_lit S' six0) | (have e' := six_lit S' six1) | (have e' := six_lit S' six2) | (have e' := six_lit S' six3) | (have e' := six_lit S' six4) | (have e' := six_lit S' six5)); subst e'; clear S'; (try dsimp only); (try k_fold))
  unfold Claim40
  intro dp un gd cn cs a ccd cl outer A₀ base h₀ L m s Q E B F X N T hk hdp hun hret
  k_dflt (refine wpAny_call ?_; refine' code_def ?k1 ?k2 ?k3 ?k4 ?k5 ?kA ?kF ?kK ?k6 ?k7 ?k8 ?k9 ?kB ?_ ?c2 ?c3 ?c4 ?c5; (case kA => exact rfl); (case kF => exact rfl); (case kK => first | exact rfl | assumption); (case k1 => k_asm); (case k2 => k_asm); (case k3 => k_asm); (case k4 => k_asm); (case k5 => k_asm); (case k6 => k_is); (case k7 => k_is); (case k8 => ktr_room); (case k9 => exact BindsTo.of_eq rfl); (case c5 => decide); (case kB => exact locs rfl); (case c2 => exact rfl); (case c3 => exact rfl); (case c4 => exact rfl); k_whole; intro g' L' h' FG' F' N' B' X' T'; (try dsimp only); (try k_lift B'); (try k_fold))
  k_steps
  all_goals try (exfalso; exact absurd (by assumption : (Builtin.Str.occurrences _ _ _ _ _).isEmpty = _) (by decide +kernel))
  all_goals (refine' due_end hret ?e1 ?e2 ?e3 ?e4 ?e5 ?e6 ?e7; (case e5 => k_asm); (case e6 => exact news_cut (by k_asm) (List.forall_mem_cons.mpr ⟨.head _, fun p hp => by repeat (first | exact hp | refine List.Mem.tail _ ?_)⟩)); (case e7 => first | k_asm | exact ktn_ltOf (And.right (by assumption)) | exact ktn_ltOf (And.right (And.right (by assumption)))); (case e1 => (simp only [sq0, sq1, sq2, sq3, sq4, sq5, Bool.not_true, Bool.not_false, if_true, Bool.false_eq_true, if_false, fd6]; omega)); (case e2 => (simp only [sq0, sq1, sq2, sq3, sq4, sq5, Bool.not_true, Bool.not_false, if_true, Bool.false_eq_true, if_false, fd6]; omega)); (case e3 => (simp only [sq0, sq1, sq2, sq3, sq4, sq5, Bool.not_true, Bool.not_false, if_true, Bool.false_eq_true, if_false, fd7]; omega)); (case e4 => (simp only [truncQ, fd6]; split <;> omega)))
theorem due_1 {w : World} {mean : ExcName → Option Value} {mg mb : Str → Option Value} {n : Int} {t1 : Tok} {news : List (Addr × Obj)}
   (hn : n.natAbs < 10 ^ 18) (hr : n.natAbs % 1000000 = 1) : Claim40 w mean mg mb 131 news [.int n t1] (RetDue news n) := by
  k_with_none
  k_with "Due10" => (k_here; k_dflt (refine' claim_use (f := 124) ?kC ?k1 ?k2 ?k3 ?k4 ?k5 ?kK ?kd ?ku ?kR; (case k1 => k_asm); (case k2 => k_asm); (case k3 => k_asm); (case k4 => k_asm); (case k5 => k_asm); (case kC => exact fig_c (by assumption)); (case kK => first | exact rfl | assumption); (case kd => ktr_room); (case ku => ktr_units)); unfold RetFig; intro x' B' t' t2' h' tk' S' F' N' l1; (try k_lt l1); (try k_sweep); (rw [(by assumption : _ % 1000000 = _)] at S'); (first | (have e' := six_lit S' six0) | (have e' := six_lit S' six1) | (have e' := six_lit S' six2) | (have e' := six_lit S' six3) | (have e' := six_lit S' six4) | (have e' := six_lit S' six5)); subst e'; clear S'; (try dsimp only); (try k_fold))
  unfold Claim40
  intro dp un gd cn cs a ccd cl outer A₀ base h₀ L m s Q E B F X N T hk hdp hun hret
  k_dflt (refine wpAny_call ?_; refine' code_def ?k1 ?k2 ?k3 ?k4 ?k5 ?kA ?kF ?kK ?k6 ?k7 ?k8 ?k9 ?kB ?_ ?c2 ?c3 ?c4 ?c5; (case kA => exact rfl); (case kF => exact rfl); (case kK => first | exact rfl | assumption); (case k1 => k_asm); (case k2 => k_asm); (case k3 => k_asm); (case k4 => k_asm); (case k5 => k_asm); (case k6 => k_is); (case k7 => k_is); (case k8 => ktr_room); (case k9 => exact BindsTo.of_eq rfl); (case c5 => decide); (case kB => exact locs rfl); (case c2 => exact rfl); (case c3 => exact rfl); (case c4 => exact rfl); k_whole; intro g' L' h' FG' F' N' B' X' T'; (try dsimp only); (try k_lift B'); (try k_fold))
  k_steps
  all_goals try (exfalso; exact absurd (by assumption : (Builtin.Str.occurrences _ _ _ _ _).isEmpty = _) (by decide +kernel))
  all_goals (refine' due_end hret ?e1 ?e2 ?e3 ?e4 ?e5 ?e6 ?e7; (case e5 => k_asm); (case e6 => exact news_cut (by k_asm) (List.forall_mem_cons.mpr ⟨.head _, fun p hp => by repeat (first | exact hp | refine List.Mem.tail _ ?_)⟩)); (case e7 => first | k_asm | exact ktn_ltOf (And.right (by assumption)) | exact ktn_ltOf (And.right (And.right (by assumption)))); (case e1 => (simp only [sq0, sq1, sq2, sq3, sq4, sq5, Bool.not_true, Bool.not_false, if_true, Bool.false_eq_true, if_false, fd6]; omega)); (case e2 => (simp only [sq0, sq1, sq2, sq3, sq4, sq5, Bool.not_true, Bool.not_false, if_true, Bool.false_eq_true, if_false, fd6]; omega)); (case e3 => (simp only [sq0, sq1, sq2, sq3, sq4, sq5, Bool.not_true, Bool.not_false, if_true, Bool.false_eq_true, if_false, fd7]; omega)); (case e4 => (simp only [truncQ, fd6]; split <;> omega)))
theorem due_2 {w : World} {mean : ExcName → Option Value} {mg mb : Str → Option Value} {n : Int} {t1 : Tok} {news : List (Addr × Obj)}
   (hn : n.natAbs < 10 ^ 18) (hr : n.natAbs % 1000000 = 499999) : Claim40 w mean mg mb 131 news [.int n t1] (RetDue news n) := by
  k_with_none
  k_with "Due10" => (k_here; k_dflt (refine' claim_use (f := 124) ?kC ?k1 ?k2 ?k3 ?k4 ?k5 ?kK ?kd ?ku ?kR; (case k1 => k_asm); (case k2 => k_asm); (case k3 => k_asm); (case k4 => k_asm); (case k5 => k_asm); (case kC => exact fig_c (by assumption)); (case kK => first | exact rfl | assumption); (case kd => ktr_room); (case ku => ktr_units)); unfold RetFig; intro x' B' t' t2' h' tk' S' F' N' l1; (try k_lt l1); (try k_sweep); (rw [(by assumption : _ % 1000000 = _)] at S'); (first | (have e' := six_lit S' six0) | (have e' := six_lit S' six1) | (have e' := six_lit S' six2) | (have e' := six_lit S' six3) | (have e' := six_lit S' six4) | (have e' := six_lit S' six5)); subst e'; clear S'; (try dsimp only); (try k_fold))
  unfold Claim40
  intro dp un gd cn cs a ccd cl outer A₀ base h₀ L m s Q E B F X N T hk hdp hun hret
  k_dflt (refine wpAny_call ?_; refine' code_def ?k1 ?k2 ?k3 ?k4 ?k5 ?kA ?kF ?kK ?k6 ?k7 ?k8 ?k9 ?kB ?_ ?c2 ?c3 ?c4 ?c5; (case kA => exact rfl); (case kF => exact rfl); (case kK => first | exact rfl | assumption); (case k1 => k_asm); (case k2 => k_asm); (case k3 => k_asm); (case k4 => k_asm); (case k5 => k_asm); (case k6 => k_is); (case k7 => k_is); (case k8 => ktr_room); (case k9 => exact BindsTo.of_eq rfl); (case c5 => decide); (case kB => exact locs rfl); (case c2 => exact rfl); (case c3 => exact rfl); (case c4 => exact rfl); k_whole; intro g' L' h' FG' F' N' B' X' T'; (try dsimp only); (try k_lift B'); (try k_fold))
  k_steps
  all_goals try (exfalso; exact absurd (by assumption : (Builtin.Str.occurrences _ _ _ _ _).isEmpty = _) (by decide +kernel))
  all_goals (refine' due_end hret ?e1 ?e2 ?e3 ?e4 ?e5 ?e6 ?e7; (case e5 => k_asm); (case e6 => exact news_cut (by k_asm) (List.forall_mem_cons.mpr ⟨.head _, fun p hp => by repeat (first | exact hp | refine List.Mem.tail _ ?_)⟩)); (case e7 => first | k_asm | exact ktn_ltOf (And.right (by assumption)) | exact ktn_ltOf (And.right (And.right (by assumption)))); (case e1 => (simp only [sq0, sq1, sq2, sq3, sq4, sq5, Bool.not_true, Bool.not_false, if_true, Bool.false_eq_true, if_false, fd6]; omega)); (case e2 => (simp only [sq0, sq1, sq2, sq3, sq4, sq5, Bool.not_true, Bool.not_false, if_true, Bool.false_eq_true, if_false, fd6]; omega)); (case e3 => (simp only [sq0, sq1, sq2, sq3, sq4, sq5, Bool.not_true, Bool.not_false, if_true, Bool.false_eq_true, if_false, fd7]; omega)); (case e4 => (simp only [truncQ, fd6]; split <;> omega)))
theorem due_3 {w : World} {mean : ExcName → Option Value} {mg mb : Str → Option Value} {n : Int} {t1 : Tok} {news : List (Addr × Obj)}
   (hn : n.natAbs < 10 ^ 18) (hr : n.natAbs % 1000000 = 500000) : Claim40 w mean mg mb 131 news [.int n t1] (RetDue news n) := by
  k_with_none
  k_with "Due10" => (k_here; k_dflt (refine' claim_use (f := 124) ?kC ?k1 ?k2 ?k3 ?k4 ?k5 ?kK ?kd ?ku ?kR; (case k1 => k_asm); (case k2 => k_asm); (case k3 => k_asm); (case k4 => k_asm); (case k5 => k_asm); (case kC => exact fig_c (by assumption)); (case kK => first | exact rfl | assumption); (case kd => ktr_room); (case ku => ktr_units)); unfold RetFig; intro x' B' t' t2' h' tk' S' F' N' l1; (try k_lt l1); (try k_sweep); (rw [(by assumption : _ % 1000000 = _)] at S'); (first | (have e' := six_lit S' six0) | (have e' := six_lit S' six1) | (have e' := six_lit S' six2) | (have e' := six_lit S' six3) | (have e' := six_lit S' six4) | (have e' := six_lit S' six5)); subst e'; clear S'; (try dsimp only); (try k_fold))
  unfold Claim40
  intro dp un gd cn cs a ccd cl outer A₀ base h₀ L m s Q E B F X N T hk hdp hun hret
  k_dflt (refine wpAny_call ?_; refine' code_def ?k1 ?k2 ?k3 ?k4 ?k5 ?kA ?kF ?kK ?k6 ?k7 ?k8 ?k9 ?kB ?_ ?c2 ?c3 ?c4 ?c5; (case kA => exact rfl); (case kF => exact rfl); (case kK => first | exact rfl | assumption); (case k1 => k_asm); (case k2 => k_asm); (case k3 => k_asm); (case k4 => k_asm); (case k5 => k_asm); (case k6 => k_is); (case k7 => k_is); (case k8 => ktr_room); (case k9 => exact BindsTo.of_eq rfl); (case c5 => decide); (case kB => exact locs rfl); (case c2 => exact rfl); (case c3 => exact rfl); (case c4 => exact rfl); k_whole; intro g' L' h' FG' F' N' B' X' T'; (try dsimp only); (try k_lift B'); (try k_fold))
  k_steps
  all_goals try (exfalso; exact absurd (by assumption : (Builtin.Str.occurrences _ _ _ _ _).isEmpty = _) (by decide +kernel))
  all_goals (refine' due_end hret ?e1 ?e2 ?e3 ?e4 ?e5 ?e6 ?e7; (case e5 => k_asm); (case e6 => exact news_cut (by k_asm) (List.forall_mem_cons.mpr ⟨.head _, fun p hp => by repeat (first | exact hp | refine List.Mem.tail _ ?_)⟩)); (case e7 => first | k_asm | exact ktn_ltOf (And.right (by assumption)) | exact ktn_ltOf (And.right (And.right (by assumption)))); (case e1 => (simp only [sq0, sq1, sq2, sq3, sq4, sq5, Bool.not_true, Bool.not_false, if_true, Bool.false_eq_true, if_false, fd6]; omega)); (case e2 => (simp only [sq0, sq1, sq2, sq3, sq4, sq5, Bool.not_true, Bool.not_false, if_true, Bool.false_eq_true, if_false, fd6]; omega)); (case e3 => (simp only [sq0, sq1, sq2, sq3, sq4, sq5, Bool.not_true, Bool.not_false, if_true, Bool.false_eq_true, if_false, fd7]; omega)); (case e4 => (simp only [truncQ, fd6]; split <;> omega)))
theorem due_4 {w : World} {mean : ExcName → Option Value} {mg mb : Str → Option Value} {n : Int} {t1 : Tok} {news : List (Addr × Obj)}
   (hn : n.natAbs < 10 ^ 18) (hr : n.natAbs % 1000000 = 500001) : Claim40 w mean mg mb 131 news [.int n t1] (RetDue news n) := by
  k_with_none
  k_with "Due10" => (k_here; k_dflt (refine' claim_use (f := 124) ?kC ?k1 ?k2 ?k3 ?k4 ?k5 ?kK ?kd ?ku ?kR; (case k1 => k_asm); (case k2 => k_asm); (case k3 => k_asm); (case k4 => k_asm); (case k5 => k_asm); (case kC => exact fig_c (by assumption)); (case kK => first | exact rfl | assumption); (case kd => ktr_room); (case ku => ktr_units)); unfold RetFig; intro x' B' t' t2' h' tk' S' F' N' l1; (try k_lt l1); (try k_sweep); (rw [(by assumption : _ % 1000000 = _)] at S'); (first | (have e' := six_lit S' six0) | (have e' := six_lit S' six1) | (have e' := six_lit S' six2) | (have e' := six_lit S' six3) | (have e' := six_lit S' six4) | (have e' := six_lit S' six5)); subst e'; clear S'; (try dsimp only); (try k_fold))
  unfold Claim40
  intro dp un gd cn cs a ccd cl outer A₀ base h₀ L m s Q E B F X N T hk hdp hun hret
  k_dflt (refine wpAny_call ?_; refine' code_def ?k1 ?k2 ?k3 ?k4 ?k5 ?kA ?kF ?kK ?k6 ?k7 ?k8 ?k9 ?kB ?_ ?c2 ?c3 ?c4 ?c5; (case kA => exact rfl); (case kF => exact rfl); (case kK => first | exact rfl | assumption); (case k1 => k_asm); (case k2 => k_asm); (case k3 => k_asm); (case k4 => k_asm); (case k5 => k_asm); (case k6 => k_is); (case k7 => k_is); (case k8 => ktr_room); (case k9 => exact BindsTo.of_eq rfl); (case c5 => decide); (case kB => exact locs rfl); (case c2 => exact rfl); (case c3 => exact rfl); (case c4 => exact rfl); k_whole; intro g' L' h' FG' F' N' B' X' T'; (try dsimp only); (try k_lift B'); (try k_fold))
  k_steps
  all_goals try (exfalso; exact absurd (by assumption : (Builtin.Str.occurrences _ _ _ _ _).isEmpty = _) (by decide +kernel))
  all_goals (refine' due_end hret ?e1 ?e2 ?e3 ?e4 ?e5 ?e6 ?e7; (case e5 => k_asm); (case e6 => exact news_cut (by k_asm) (List.forall_mem_cons.mpr ⟨.head _, fun p hp => by repeat (first | exact hp | refine List.Mem.tail _ ?_)⟩)); (case e7 => first | k_asm | exact ktn_ltOf (And.right (by assumption)) | exact ktn_ltOf (And.right (And.right (by assumption)))); (case e1 => (simp only [sq0, sq1, sq2, sq3, sq4, sq5, Bool.not_true, Bool.not_false, if_true, Bool.false_eq_true, if_false, fd6]; omega)); (case e2 => (simp only [sq0, sq1, sq2, sq3, sq4, sq5, Bool.not_true, Bool.not_false, if_true, Bool.false_eq_true, if_false, fd6]; omega)); (case e3 => (simp only [sq0, sq1, sq2, sq3, sq4, sq5, Bool.not_true, Bool.not_false, if_true, Bool.false_eq_true, if_false, fd7]; omega)); (case e4 => (simp only [truncQ, fd6]; split <;> omega)))
theorem due_5 {w : World} {mean : ExcName → Option Value} {mg mb : Str → Option Value} {n : Int} {t1 : Tok} {news : List (Addr × Obj)}
   (hn : n.natAbs < 10 ^ 18) (hr : n.natAbs % 1000000 = 999999) : Claim40 w mean mg mb 131 news [.int n t1] (RetDue news n) := by
  k_with_none
  k_with "Due10" => (k_here; k_dflt (refine' claim_use (f := 124) ?kC ?k1 ?k2 ?k3 ?k4 ?k5 ?kK ?kd ?ku ?kR; (case k1 => k_asm); (case k2 => k_asm); (case k3 => k_asm); (case k4 => k_asm); (case k5 => k_asm); (case kC => exact fig_c (by assumption)); (case kK => first | exact rfl | assumption); (case kd => ktr_room); (case ku => ktr_units)); unfold RetFig; intro x' B' t' t2' h' tk' S' F' N' l1; (try k_lt l1); (try k_sweep); (rw [(by assumption : _ % 1000000 = _)] at S'); (first | (have e' := six_lit S' six0) | (have e' := six_lit S' six1) | (have e' := six_lit S' six2) | (have e' := six_lit S' six3) | (have e' := six_lit S' six4) | (have e' := six_lit S' six5)); subst e'; clear S'; (try dsimp only); (try k_fold))
  unfold Claim40
  intro dp un gd cn cs a ccd cl outer A₀ base h₀ L m s Q E B F X N T hk hdp hun hret
  k_dflt (refine wpAny_call ?_; refine' code_def ?k1 ?k2 ?k3 ?k4 ?k5 ?kA ?kF ?kK ?k6 ?k7 ?k8 ?k9 ?kB ?_ ?c2 ?c3 ?c4 ?c5; (case kA => exact rfl); (case kF => exact rfl); (case kK => first | exact rfl | assumption); (case k1 => k_asm); (case k2 => k_asm); (case k3 => k_asm); (case k4 => k_asm); (case k5 => k_asm); (case k6 => k_is); (case k7 => k_is); (case k8 => ktr_room); (case k9 => exact BindsTo.of_eq rfl); (case c5 => decide); (case kB => exact locs rfl); (case c2 => exact rfl); (case c3 => exact rfl); (case c4 => exact rfl); k_whole; intro g' L' h' FG' F' N' B' X' T'; (try dsimp only); (try k_lift B'); (try k_fold))
  k_steps
  all_goals try (exfalso; exact absurd (by assumption : (Builtin.Str.occurrences _ _ _ _ _).isEmpty = _) (by decide +kernel))
  all_goals (refine' due_end hret ?e1 ?e2 ?e3 ?e4 ?e5 ?e6 ?e7; (case e5 => k_asm); (case e6 => exact news_cut (by k_asm) (List.forall_mem_cons.mpr ⟨.head _, fun p hp => by repeat (first | exact hp | refine List.Mem.tail _ ?_)⟩)); (case e7 => first | k_asm | exact ktn_ltOf (And.right (by assumption)) | exact ktn_ltOf (And.right (And.right (by assumption)))); (case e1 => (simp only [sq0, sq1, sq2, sq3, sq4, sq5, Bool.not_true, Bool.not_false, if_true, Bool.false_eq_true, if_false, fd6]; omega)); (case e2 => (simp only [sq0, sq1, sq2, sq3, sq4, sq5, Bool.not_true, Bool.not_false, if_true, Bool.false_eq_true, if_false, fd6]; omega)); (case e3 => (simp only [sq0, sq1, sq2, sq3, sq4, sq5, Bool.not_true, Bool.not_false, if_true, Bool.false_eq_true, if_false, fd7]; omega)); (case e4 => (simp only [truncQ, fd6]; split <;> omega)))
theorem due_c {w : World} {mean : ExcName → Option Value} {mg mb : Str → Option Value} {n : Int} {t1 : Tok} {news : List (Addr × Obj)} (h : NumOk n) : Claim40 w mean mg mb 131 news [.int n t1] (RetDue news n) := by
  obtain ⟨hn, hr | hr | hr | hr | hr | hr⟩ := h
  · exact due_0 hn hr
  · exact due_1 hn hr
  · exact due_2 hn hr
  · exact due_3 hn hr
  · exact due_4 hn hr
  · exact due_5 hn hr
end Mine

namespace Mine
local macro_rules | `(tactic| walk_at "padMill10") => `(tactic| fail)
local macro_rules | `(tactic| walk_at "padMill11") => `(tactic| fail)
local macro_rules | `(tactic| walk_at "padMill12") => `(tactic| fail)
example (w : World) : (PySem.Challenge.rw_nt0480_01 = PySem.Challenge.rw_nt0480_01 ∧ Mine.hd.heap_39 w.params = Mine.hd.heap_39 w.params) := by k_fill; exact ⟨rfl, rfl⟩
local macro_rules | `(tactic| units_room) => `(tactic| ktr_units)
theorem menu_w {a : Int} (h0 : 0 ≤ a) (h1 : a < 6) : 0 ≤ ([0, 1, 2, 2147483647, 2147483648, 123456789012] : List Int).getD a.toNat 0 ∧ ([0, 1, 2, 2147483647, 2147483648, 123456789012] : List Int).getD a.toNat 0 ≤ 123456789012 := by
  have h : a = 0 ∨ a = 1 ∨ a = 2 ∨ a = 3 ∨ a = 4 ∨ a = 5 := by omega
  rcases h with h | h | h | h | h | h <;> subst h <;> decide
theorem menu_r {a : Int} (h0 : 0 ≤ a) (h1 : a < 6) : ∃ r : Int, ([0, 1, 499999, 500000, 500001, 999999] : List Int).getD a.toNat 0 = r ∧ (r = 0 ∨ r = 1 ∨ r = 499999 ∨ r = 500000 ∨ r = 500001 ∨ r = 999999) := by
  have h : a = 0 ∨ a = 1 ∨ a = 2 ∨ a = 3 ∨ a = 4 ∨ a = 5 := by omega
  rcases h with h | h | h | h | h | h <;> subst h <;> exact ⟨_, rfl, by decide⟩
theorem menu_s {a : Int} (h0 : 0 ≤ a) (h1 : a < 2) : ([1, -1] : List Int).getD a.toNat 0 = 1 ∨ ([1, -1] : List Int).getD a.toNat 0 = -1 := by
  have h : a = 0 ∨ a = 1 := by omega
  rcases h with h | h <;> subst h <;> decide
theorem num_ok {a b c d : Int} (a0 : 0 ≤ a) (a1 : a < 6) (b0 : 0 ≤ b) (b1 : b < 3) (c0 : 0 ≤ c) (c1 : c < 6) (d0 : 0 ≤ d) (d1 : d < 2) :
    NumOk ((([0, 1, 2, 2147483647, 2147483648, 123456789012].getD a.toNat 0 + b) * 1000000 + [0, 1, 499999, 500000, 500001, 999999].getD c.toNat 0) * [1, -1].getD d.toNat 0) := by
  obtain ⟨w0, w1⟩ := menu_w a0 a1
  obtain ⟨r, er, hr⟩ := menu_r c0 c1
  rw [er]
  generalize ([0, 1, 2, 2147483647, 2147483648, 123456789012] : List Int).getD a.toNat 0 = W at *
  unfold NumOk
  rcases menu_s d0 d1 with e | e <;> rw [e] <;> rcases hr with hr | hr | hr | hr | hr | hr <;> subst hr <;> exact ⟨by omega, by omega⟩
local macro_rules | `(tactic| walk_at "call ref") => `(tactic| k_extra "Mill10")
set_option maxHeartbeats 4000000
theorem mill_c {w : World} {mean : ExcName → Option Value} {mg mb : Str → Option Value} {D C I : Addr} {it : Obj} {n c : Nat} {vs : List Value} {ns : List Int} {k : Int} {tk : Tok}
   (hCD : @LT.lt Nat _ C D) (hDI : @LT.lt Nat _ D I) (hi : IntsAre vs ns) (hlen : ns.length ≤ 24) (hk0 : 0 ≤ k) (hk1 : k ≤ 50) :
   Claim40 w mean mg mb 117 [(I, it), (D, listOf #[.ref C, .int k tk] n), (C, listOf vs.toArray c)] [.ref D] (fun h₀ L m s Q => ∀ (v : Int) (t t' : Tok) (h' : Heap) (tk' : Nat), NumOk v → Fr h₀ L h' m → News h₀ L h' [(I, it), (D, listOf #[.ref C, .int (k + 1 + 1 + 1 + 1) t'] n), (C, listOf vs.toArray c)] → Q (.int v t) {s with heap := h', toks := tk'}) := by
  k_with_none
  k_with "Mill10" => (k_here; k_dflt (refine' claim_use (f := 110) ?kC ?k1 ?k2 ?k3 ?k4 ?k5 ?kK ?kd ?ku ?_; (case k1 => k_asm); (case k2 => k_asm); (case k3 => k_asm); (case k4 => k_asm); (case k5 => k_asm); (case kC => (refine' draw_c ?U ?hC ?hCD ?hi ?hlen ?h0 ?h1 ?hb ?hb'; (case U => k_updF); (case hC => k_mem); (case hCD => k_ne); (case hi => assumption); (case hlen => assumption); (case h0 => omega); (case h1 => omega); (case hb => decide); (case hb' => decide))); (case kK => first | exact rfl | assumption); (case kd => ktr_room); (case ku => ktr_units)); intro v' t' t2' h' tk' h0' h1' F' N'; (try dsimp only at N'); (try k_sweep); (try dsimp only); (try k_fold))
  unfold Claim40
  intro dp un gd cn cs a ccd cl outer A₀ base h₀ L m s Q E B F X N T hk hdp hun hret
  k_dflt (refine wpAny_call ?_; refine' code_def ?k1 ?k2 ?k3 ?k4 ?k5 ?kA ?kF ?kK ?k6 ?k7 ?k8 ?k9 ?kB ?_ ?c2 ?c3 ?c4 ?c5; (case kA => exact rfl); (case kF => exact rfl); (case kK => first | exact rfl | assumption); (case k1 => k_asm); (case k2 => k_asm); (case k3 => k_asm); (case k4 => k_asm); (case k5 => k_asm); (case k6 => k_is); (case k7 => k_is); (case k8 => ktr_room); (case k9 => exact BindsTo.of_eq rfl); (case c5 => decide); (case kB => exact locs rfl); (case c2 => exact rfl); (case c3 => exact rfl); (case c4 => exact rfl); k_whole; intro g' L' h' FG' F' N' B' X' T'; (try dsimp only); (try k_lift B'); (try k_fold))
  k_steps
  all_goals exact hret _ _ _ _ _ (num_ok (by assumption) (by assumption) (by assumption) (by assumption) (by assumption) (by assumption) (by assumption) (by assumption)) (by k_asm) (news_cut (by k_asm) (List.forall_mem_cons.mpr ⟨by k_mem, List.forall_mem_cons.mpr ⟨by k_mem, List.forall_mem_cons.mpr ⟨by k_mem, List.forall_mem_nil _⟩⟩⟩))
end Mine

namespace Mine

theorem ret_conv {w : World} {mean : ExcName → Option Value} {mg mb : Str → Option Value} {f : Addr} {news : List (Addr × Obj)} {vs : List Value} {a b : Int} (e : a = b) (C : Claim w mean mg mb f news vs (RetReal news a)) : Claim w mean mg mb f news vs (RetReal news b) := e ▸ C
section
variable {w : World} {mean : ExcName → Option Value} {mg mb : Str → Option Value} {P : Addr} {t1 t2 : Tok} {v q n : Int} {news : List (Addr × Obj)}
theorem fd2 (x : Int) : x.fdiv (2 * 1000000) = x / 2000000 := Int.fdiv_eq_ediv_of_nonneg x (by decide)
abbrev realT (t1 : Tok) (v : Int) (t2 : Tok) : Obj := { cls := .type "tuple", data := .seq #[.str (Str.ofString "real") t1, .int v t2] }
theorem floor_R (hP : (P, realT t1 v t2) ∈ news) (h0 : -100000000000000000000 ≤ v) (h1 : v ≤ 100000000000000000000) : Claim w mean mg mb 75 news [.ref P] (RetReal news (v.fdiv 1000000 * 1000000)) := floor_real hP h0 h1
theorem ceil_R (hP : (P, realT t1 v t2) ∈ news) (h0 : -100000000000000000000 ≤ v) (h1 : v ≤ 100000000000000000000) : Claim w mean mg mb 82 news [.ref P] (RetReal news (-((-v).fdiv 1000000) * 1000000)) := ceil_real hP h0 h1
theorem round_R (hP : (P, realT t1 v t2) ∈ news) (h0 : -100000000000000000000 ≤ v) (h1 : v ≤ 100000000000000000000) : Claim w mean mg mb 89 news [.ref P] (RetReal news ((2 * v + 1000000).fdiv 2000000 * 1000000)) :=
  ret_conv (by rw [fd2, fd7]) (round_real hP h0 h1)
theorem trunc_R (hP : (P, realT t1 v t2) ∈ news) (h0 : -100000000000000000000 ≤ v) (h1 : v ≤ 100000000000000000000) : Claim w mean mg mb 96 news [.ref P] (RetReal news (truncQ v * 1000000)) :=
  ret_conv (by unfold truncQ; by_cases h : v < 0 <;> simp only [if_pos, h, if_false, fd6] <;> omega) (trunc_real hP h0 h1)
theorem floor_M (hP : (P, realT t1 (q * 1000000) t2) ∈ news) (h0 : -10000000000000 ≤ q) (h1 : q ≤ 10000000000000) : Claim w mean mg mb 75 news [.ref P] (RetReal news (q * 1000000)) := ret_conv (by rw [fd6]; omega) (floor_real hP (by omega) (by omega))
theorem ceil_M (hP : (P, realT t1 (q * 1000000) t2) ∈ news) (h0 : -10000000000000 ≤ q) (h1 : q ≤ 10000000000000) : Claim w mean mg mb 82 news [.ref P] (RetReal news (q * 1000000)) := ret_conv (by rw [fd6]; omega) (ceil_real hP (by omega) (by omega))
theorem round_M (hP : (P, realT t1 (q * 1000000) t2) ∈ news) (h0 : -10000000000000 ≤ q) (h1 : q ≤ 10000000000000) : Claim w mean mg mb 89 news [.ref P] (RetReal news (q * 1000000)) := ret_conv (by rw [fd2]; omega) (round_real hP (by omega) (by omega))
theorem trunc_M (hP : (P, realT t1 (q * 1000000) t2) ∈ news) (h0 : -10000000000000 ≤ q) (h1 : q ≤ 10000000000000) : Claim w mean mg mb 96 news [.ref P] (RetReal news (q * 1000000)) :=
  ret_conv (by by_cases h : q * 1000000 < 0 <;> simp only [if_pos, h, if_false, fd6] <;> omega) (trunc_real hP (by omega) (by omega))
theorem ceil_N (hP : (P, realT t1 (0 - n) t2) ∈ news) (h0 : -100000000000000000000 ≤ n) (h1 : n ≤ 100000000000000000000) : Claim w mean mg mb 82 news [.ref P] (RetReal news (0 - n.fdiv 1000000 * 1000000)) := ret_conv (by rw [fd6, fd6]; omega) (ceil_real hP (by omega) (by omega))
end
theorem q_bounds {n : Int} (h : n.natAbs < 10 ^ 18) : (-10000000000000 ≤ n.fdiv 1000000 ∧ n.fdiv 1000000 ≤ 10000000000000) ∧ (-10000000000000 ≤ -((-n).fdiv 1000000) ∧ -((-n).fdiv 1000000) ≤ 10000000000000) ∧ (-10000000000000 ≤ (2 * n + 1000000).fdiv 2000000 ∧ (2 * n + 1000000).fdiv 2000000 ≤ 10000000000000) ∧ (-10000000000000 ≤ truncQ n ∧ truncQ n ≤ 10000000000000) := by
  unfold truncQ
  rw [fd6, fd6, fd7]
  refine ⟨⟨by omega, by omega⟩, ⟨by omega, by omega⟩, ⟨by omega, by omega⟩, ?_⟩
  by_cases h : n < 0
  · rw [if_pos h]; exact ⟨by omega, by omega⟩
  · rw [if_neg h]; exact ⟨by omega, by omega⟩
theorem under_ok {v u : Int} (h0 : 0 ≤ v) (h1 : v < 12) (h2 : 0 ≤ u) (h3 : u < 3) : (1 + v) * ([1, -1, 1000000] : List Int).getD u.toNat 0 ≠ 0 ∧ -12000000 ≤ (1 + v) * ([1, -1, 1000000] : List Int).getD u.toNat 0 ∧ (1 + v) * ([1, -1, 1000000] : List Int).getD u.toNat 0 ≤ 12000000 := by
  have h : u = 0 ∨ u = 1 ∨ u = 2 := by omega
  rcases h with h | h | h <;> subst h
  · show (1 + v) * 1 ≠ 0 ∧ -12000000 ≤ (1 + v) * 1 ∧ (1 + v) * 1 ≤ 12000000
    omega
  · show (1 + v) * -1 ≠ 0 ∧ -12000000 ≤ (1 + v) * -1 ∧ (1 + v) * -1 ≤ 12000000
    omega
  · show (1 + v) * 1000000 ≠ 0 ∧ -12000000 ≤ (1 + v) * 1000000 ∧ (1 + v) * 1000000 ≤ 12000000
    omega
theorem claim0_use {w : World} {mean : ExcName → Option Value} {mg mb : Str → Option Value} {f : Addr} {news : List (Addr × Obj)} {vs : List Value} {R : Heap → Addr → (Str → Option Value) → Shared → (Value → Shared → Prop) → Prop}
    {dp un : Nat} {gd : Option (List Code)} {cn : Str} {cs : Scope} {a : Addr} {ccd : Value} {A₀ : Around} {base h₀ : Heap} {L : Addr} {m : Str → Option Value} {s : Shared} {Q E : Value → Shared → Prop}
    (C : Claim0 w mean mg mb f news vs R) (B : Below A₀ base [] h₀) (F : Fr h₀ L s.heap m) (XB : (hd.heap_39 w.params).In base) (X : (hd.heap_39 w.params).In h₀) (N : News h₀ L s.heap news)
    (TB : Top hd.view_39 (looseW hd.view_39 [Str.ofString "LEAST_INT", Str.ofString "MOST_INT", Str.ofString "PostError", Str.ofString "MOST_REAL"]) mean mg mb base)
    (T : Top hd.view_39 (looseW hd.view_39 [Str.ofString "LEAST_INT", Str.ofString "MOST_INT", Str.ofString "PostError", Str.ofString "MOST_REAL"]) mean mg mb h₀)
    (hk : cs.kind = .function) (hdp : dp + 20 < recursionLimit) (hun : un + 1000 < cLine) (hR : R h₀ L m s Q) :
    wpAny (model PySem.Challenge.rw_nt0480_01.row.prog w) (ktrTop dp un gd cn cs L a ccd [] []) (call (.ref f) vs) Q E s := C _ _ _ _ _ _ _ _ _ _ _ _ _ _ _ B F XB X N TB T hk hdp hun hR
end Mine

namespace Mine
section
open PySem.Spec PySem.Calls PyProof.Rows.LCg
def TupAt (ax : Addr) (its : Array Value) (k : Nat) (news : List (Addr × Obj)) : Prop := (ax, ({ cls := .type "tuple", data := .seq its k } : Obj)) ∈ news
variable {prog : Program} {w : World} {A : Around} {E : Value → Shared → Prop} {s : Shared} {h₀ : Heap} {L : Addr} {m : Str → Option Value} {env : Env}
def CompTup (prog : Program) (w : World) (A : Around) (h₀ : Heap) (L : Addr) (m : Str → Option Value) (env : Env) (elt : Expr) (x : Str) (scope : Scope) (cl : List (Str × Addr)) (Fin : Shared → List Value → List (Addr × Obj) → Prop) (xv : Value) (s₁ : Shared) : Prop :=
  ∃ ax its k news, xv = .ref ax ∧ A.handled = none ∧ Fr h₀ L s₁.heap m ∧ News h₀ L s₁.heap news ∧ TupAt ax its k news ∧ its.size ≤ sizeLine ∧
    ∀ s₂ : Shared, (∃ h, s₂ = { s₁ with heap := h }) → CompRest prog w A h₀ L m env elt x scope cl s₂ (TupAt ax its k) (fun i v => its[i]? = some v) (Fin s₂) its.size 0 [] news
theorem CompTup.ledger {elt : Expr} {x : Str} {scope : Scope} {cl : List (Str × Addr)} {Fin : Shared → List Value → List (Addr × Obj) → Prop} {ax : Addr} {its : Array Value} {k : Nat} {news : List (Addr × Obj)} {s₁ : Shared}
    (hh : A.handled = none) (F : Fr h₀ L s₁.heap m) (N : News h₀ L s₁.heap news) (hm : (ax, ({ cls := .type "tuple", data := .seq its k } : Obj)) ∈ news) (hsz : its.size ≤ sizeLine)
    (h : ∀ g, CompRest prog w A h₀ L m env elt x scope cl { s₁ with heap := g } (TupAt ax its k) (fun i v => its[i]? = some v) (Fin { s₁ with heap := g }) its.size 0 [] news) :
    CompTup prog w A h₀ L m env elt x scope cl Fin (.ref ax) s₁ := ⟨ax, its, k, news, rfl, hh, F, N, hm, hsz, fun _ ⟨g, e⟩ => e ▸ h g⟩
theorem tup_st {ax I : Addr} {its : Array Value} {k : Nat} : ∀ i (h h' : Heap) (o : Obj) (nw : List (Addr × Obj)), (h.IsTupleIter I ax i ∧ h.IsTuple ax its) → h.get? I = some o → h'.get? I = some o → (∀ b o, h₀.get? b = some o → h'.get? b = some o) → News h₀ L h' nw → TupAt ax its k nw → (h'.IsTupleIter I ax i ∧ h'.IsTuple ax its) :=
  fun i h h' o nw st e e' _ N S => ⟨by obtain ⟨o', q, r⟩ := st.1; rw [e] at q; cases q; exact ⟨o, e', r⟩, ⟨_, (N _ S).1, rfl, k, rfl⟩⟩
theorem ListComp_V {elt iter : Expr} {x : Str} {px : Pos} {scope : Scope} {cl : List (Str × Addr)} {pos : Pos} {Q : Value → Shared → Prop} (F₀ : Fr h₀ L s.heap m)
    (hclos : closureFor scope env = pure cl) (hcell : ∀ y ∈ scope.names, y.2 ≠ .cell) (hkind : scope.kind = .function)
    (hnames : ∀ y ∈ scope.names, y.2 = .local → scope.names.lookup y.1 = some .local) (hx : scope.names.lookup x = some .local)
    (h : wpAny (model prog w) A (eval iter env) (CompTup prog w A h₀ L m env elt x scope cl (fun s₂ => FinE h₀ L m s₂ Q)) E s)
    (hs : ∀ x, foldedSetIterable iter env x = pure x := by intro _; rfl) :
    wpAny (model prog w) A (eval (.ListComp elt [⟨.Name x px, iter, [], 0⟩] scope pos) env) Q E s := by
  rw [eval_ListComp]
  refine wpAny_comprehension_free (use := none) rfl hs hclos hkind hnames (wpAny_mono h (fun xv s₁ h₁ => ?_) fun _ _ e => e)
  obtain ⟨ax, its, k, news, rfl, hh, F, N, S, hsz, R⟩ := h₁
  have hl : s₁.heap.IsTuple ax its := ⟨_, (N _ S).1, rfl, k, rfl⟩
  have hlt : ax < s₁.heap.objs.size := by obtain ⟨_, e, _⟩ := hl; exact Heap.lt_size e
  refine wpAny_pyIter_tuple hl ?_
  have up : ∀ b o, s₁.heap.get? b = some o → (s₁.heap.push { cls := .type "tuple_iterator", data := .fields #[.ref ax, .int 0 0] }).get? b = some o := fun b o e => Heap.get?_push_of_some _ e
  refine block_U (Walks.tuple hh s₁.heap.objs.size ax (Nat.ne_of_lt hlt) its) hsz (fun i h st => by obtain ⟨o, e, _⟩ := st.1; exact ⟨o, e⟩) tup_st hcell hkind hx ⟨⟨_, Heap.get?_push_size _ rfl, rfl, rfl⟩, ⟨_, up _ _ (N _ S).1, rfl, k, rfl⟩⟩ (fun b hb => ?_)
    (F.keeps up) (N.grown up) (Nat.ne_of_lt F.ns.lt) (next_is_new F) (fun p hp => Nat.ne_of_lt (Heap.lt_size (N p hp).1)) S (R _ ⟨_, rfl⟩) ?_
  · show b < (s₁.heap.push _).objs.size
    rw [Heap.size_push]
    rcases List.mem_cons.mp hb with rfl | hb
    · exact Nat.lt_succ_self _
    · rw [List.mem_singleton.mp hb]; exact Nat.lt_succ_of_lt hlt
  · intro D C h tk m' ys news' F' N' o1 hn hC₀ hD₀ hCL hDL hCD offC fin
    refine ⟨m', hn, fun h'' hs'' => fin D h'' tk (F'.change hs'' hCL hC₀) (fun p hp => ?_) o1⟩
    refine ⟨hs''.extBut _ _ ?_ (N' p hp).1, (N' p hp).2⟩
    rcases List.mem_cons.mp hp with rfl | hp
    · exact Ne.symm hCD
    · exact offC p hp
end
end Mine

namespace Mine
def lawParts : List Stmt × Scope := match PySem.Challenge.pw_nt0480_01.main.body.getLast? with
  | some (.FunctionDef _ _ [_, .For _ _ b _ _, _] _ _ _ sc _ _ _) => (b, sc)
  | _ => ([], { kind := .function, names := [], isGenerator := false, isCoroutine := false })
def lawTurn : List Stmt := lawParts.1
def lawScope : Scope := lawParts.2
theorem numOk_1 {n : Int} (h : NumOk n) : n.natAbs < 10 ^ 18 := h.1
theorem numOk_2 {n : Int} (h : NumOk n) : -1000000000000000000 < n ∧ n < 1000000000000000000 := ⟨by have := h.1; omega, by have := h.1; omega⟩
end Mine

namespace Mine
section
example (w : World) : (PySem.Challenge.rw_nt0480_01 = PySem.Challenge.rw_nt0480_01 ∧ Mine.hd.heap_39 w.params = Mine.hd.heap_39 w.params) := by k_fill; exact ⟨rfl, rfl⟩
local macro_rules | `(tactic| walk_at "eval ListComp") => `(tactic| (k_here; lcg_look; k_dflt (refine ListComp_V (F₀ := by k_asm) (by rfl) (by decide) (by rfl) (by decide) (by rfl) ?_)))
local macro_rules | `(tactic| walk_at "CompTup") => `(tactic| (k_here; k_dflt (refine CompTup.ledger (by rfl) (by k_asm) (by k_asm) (by k_mem) (by first | size_fits | exact Nat.le_of_ble_eq_true rfl) ?_; intro g'; lcg_lit)))
local macro_rules | `(tactic| lcg_src) => `(tactic| (unfold TupAt; k_mem))
local macro_rules | `(tactic| walk_at "call ref") => `(tactic| k_extra "callR")
local macro_rules | `(tactic| walk_at "execs cons") => `(tactic| k_extra "turnR")
section
local macro_rules | `(tactic| walk_at "padT90") => `(tactic| fail)
local macro_rules | `(tactic| walk_at "padT91") => `(tactic| fail)
set_option maxHeartbeats 8000000
theorem turn9 {w : World} {mean : ExcName → Option Value} {mg mb : Str → Option Value} {L a : Addr} {cd : Value} {base h₀ : Heap} {m : Str → Option Value} {s : Shared} {Q : Flow → Shared → Prop} {E : Value → Shared → Prop} {D C I : Addr} {it : Obj} {n c : Nat} {vs : List Value} {ns : List Int} {k : Int} {tk : Tok}
    (B : Below callerA base [] h₀) (F : Fr h₀ L s.heap m) (XB : (hd.heap_39 w.params).In base) (X : (hd.heap_39 w.params).In h₀)
    (TB : Top hd.view_39 (looseW hd.view_39 [Str.ofString "LEAST_INT", Str.ofString "MOST_INT", Str.ofString "PostError", Str.ofString "MOST_REAL"]) mean mg mb base)
    (T : Top hd.view_39 (looseW hd.view_39 [Str.ofString "LEAST_INT", Str.ofString "MOST_INT", Str.ofString "PostError", Str.ofString "MOST_REAL"]) mean mg mb h₀)
    (hCD : @LT.lt Nat _ C D) (hDI : @LT.lt Nat _ D I) (hi : IntsAre vs ns) (hlen : ns.length ≤ 24) (hk0 : 0 ≤ k) (hm : m (Str.ofString "deck") = some (.ref D)) {v : Int} {tv : Tok} (hN : NumOk v) (hv : m (Str.ofString "number") = some (.int v tv)) (N : News h₀ L s.heap [(I, it), (D, listOf #[.ref C, .int k tk] n), (C, listOf vs.toArray c)]) (hk1 : k ≤ 60) {K : Int} (hK : k + 3 ≤ K) (hnext : ∀ h' tk' m' k' t', Fr h₀ L h' m' → m' (Str.ofString "deck") = some (.ref D) → News h₀ L h' [(I, it), (D, listOf #[.ref C, .int k' t'] n), (C, listOf vs.toArray c)] → 0 ≤ k' → k' ≤ K → Q .next { s with heap := h', toks := tk' }) :
    wpAny (model PySem.Challenge.rw_nt0480_01.row.prog w) (callerA.deeper (envOf (Str.ofString "law") lawScope L a cd)) (execs (lawTurn.drop 9) (envOf (Str.ofString "law") lawScope L a cd)) Q E s := by
  k_with_none
  k_with "contract" => (first | ((with_reducible show Claim _ _ _ _ 75 _ _ _); first | exact floor_M (by k_mem) (by omega) (by omega) | exact floor_R (by k_mem) (by omega) (by omega) | exact floor_int (by k_mem)) | ((with_reducible show Claim _ _ _ _ 82 _ _ _); exact ceil_N (by k_mem) (by omega) (by omega)) | ((with_reducible show Claim _ _ _ _ 82 _ _ _); first | exact ceil_M (by k_mem) (by omega) (by omega) | exact ceil_R (by k_mem) (by omega) (by omega) | exact ceil_int (by k_mem)) | ((with_reducible show Claim _ _ _ _ 89 _ _ _); first | exact round_M (by k_mem) (by omega) (by omega) | exact round_R (by k_mem) (by omega) (by omega) | exact round_int (by k_mem)) | ((with_reducible show Claim _ _ _ _ 96 _ _ _); first | exact trunc_M (by k_mem) (by omega) (by omega) | exact trunc_R (by k_mem) (by omega) (by omega) | exact trunc_int (by k_mem)) | ((with_reducible show Claim _ _ _ _ 110 _ _ _); refine' draw_c ?U ?hC ?hCD ?hi ?hlen ?h0 ?h1 ?hb ?hb'; (case U => k_updF); (case hC => k_mem); (case hCD => k_ne); (case hi => assumption); (case hlen => assumption); (case h0 => omega); (case h1 => omega); (case hb => decide); (case hb' => decide)) | ((first | ((with_reducible show Claim _ _ _ _ 54 _ _ _); refine' divided_c ?a1 ?a2 ?a3 ?a4 ?a5) | ((with_reducible show Claim _ _ _ _ 145 _ _ _); refine' nearest_c ?a1 ?a2 ?a3 ?a4 ?a5)); (case a5 => exact (under_ok (by assumption) (by assumption) (by assumption) (by assumption)).1); (case a3 => exact (under_ok (by assumption) (by assumption) (by assumption) (by assumption)).2.1); (case a4 => exact (under_ok (by assumption) (by assumption) (by assumption) (by assumption)).2.2); (case a1 => omega); (case a2 => omega)))
  k_with "back" => (first | (unfold RetRef; intro h' tk' F' N') | (unfold RetReal; intro x' t' t2' h' tk' F' N' l1; (try k_lt l1)) | (unfold RetInt; intro t' h' tk' F' N') | (intro v' t' t2' h' tk' h0' h1' F' N'; (try dsimp only at N')))
  k_with "callR" => (k_here; k_dflt (refine' claim_use ?kC ?k1 ?k2 ?k3 ?k4 ?k5 ?kK ?kd ?ku ?_; (case k1 => k_asm); (case k2 => k_asm); (case k3 => k_asm); (case k4 => k_asm); (case k5 => k_asm); (case kC => k_extra "contract"); (case kK => first | exact rfl | assumption); (case kd => first | decide | ktr_room); (case ku => first | decide | ktr_units)); k_extra "back"; (try k_sweep); (try dsimp only); (try k_fold))
  k_with "callR" => (k_here; k_dflt (refine' claim0_use (f := 138) ?kC ?k1 ?k2 ?kB ?k3 ?k4 ?kT ?k5 ?kK ?kd ?ku ?_; (case k1 => k_asm); (case k2 => k_asm); (case k3 => k_asm); (case k4 => k_asm); (case k5 => k_asm); (case kB => assumption); (case kT => assumption); (case kC => exact lawint_c (by omega) (by omega)); (case kK => first | exact rfl | assumption); (case kd => first | decide | ktr_room); (case ku => first | decide | ktr_units)); (refine ⟨fun i0 i1 => ?_, fun i0 => ?_⟩); (all_goals (first | unfold RetInt | unfold RetBytes)); (all_goals (intro t' h' tk' F' N')); (all_goals (try k_sweep)); (try dsimp only); (try k_fold))
  k_with "contract40" => (first | exact due_c (by assumption) | exact mill_c (by omega) (by omega) (by assumption) (by assumption) (by omega) (by omega))
  k_with "back40" => (first | (unfold RetDue; intro x' t1' t2' t3' t4' h' tk' F' N' l1; (try k_lt l1)) | (intro v' t' t2' h' tk' hN' F' N'; (have hN1' := numOk_1 hN'); (have hQ' := q_bounds hN1'); (have hB' := numOk_2 hN')))
  k_with "callR" => (k_here; k_dflt (refine' claim40_use ?kC ?k1 ?k2 ?k3 ?k4 ?k5 ?kK ?kd ?ku ?_; (case k1 => k_asm); (case k2 => k_asm); (case k3 => k_asm); (case k4 => k_asm); (case k5 => k_asm); (case kC => k_extra "contract40"); (case kK => first | exact rfl | assumption); (case kd => first | decide | ktr_room); (case ku => first | decide | ktr_units)); k_extra "back40"; (try k_sweep); (try dsimp only); (try k_fold))
  have hN1 := numOk_1 hN
  have hQ := q_bounds hN1
  have hB := numOk_2 hN
  refine wpAny_noRaise ?_
  conv in lawTurn.drop 9 => whnf
  conv in (occs := *) lawScope => all_goals whnf
  have hCD' : C ≠ D := Nat.ne_of_lt hCD
  have em : (fun y => if y = Str.ofString "deck" then some (Value.ref D) else if y = Str.ofString "number" then some (Value.int v tv) else m y) = m := by
    funext y
    by_cases e0 : y = Str.ofString "deck"
    · rw [if_pos e0, e0, hm]
    by_cases e1 : y = Str.ofString "number"
    · rw [if_neg e0]; rw [if_pos e1, e1, hv]
    rw [if_neg e0]; rw [if_neg e1]
  rw [← em] at F
  clear em hm hv
  (try k_fold)
  k_steps
  all_goals (try unfold autoParam)
  all_goals first | passes_own | contradiction | exact absurd rfl (by assumption) | exact hnext _ _ _ _ _ (by k_asm) (by k_dflt rfl) (news_cut (by k_asm) (List.forall_mem_cons.mpr ⟨by k_mem, List.forall_mem_cons.mpr ⟨by k_mem, List.forall_mem_cons.mpr ⟨by k_mem, List.forall_mem_nil _⟩⟩⟩)) (by omega) (by omega)

end
section
local macro_rules | `(tactic| walk_at "padT70") => `(tactic| fail)
local macro_rules | `(tactic| walk_at "padT71") => `(tactic| fail)
local macro_rules | `(tactic| walk_at "padT72") => `(tactic| fail)
set_option maxHeartbeats 8000000
theorem turn7 {w : World} {mean : ExcName → Option Value} {mg mb : Str → Option Value} {L a : Addr} {cd : Value} {base h₀ : Heap} {m : Str → Option Value} {s : Shared} {Q : Flow → Shared → Prop} {E : Value → Shared → Prop} {D C I : Addr} {it : Obj} {n c : Nat} {vs : List Value} {ns : List Int} {k : Int} {tk : Tok}
    (B : Below callerA base [] h₀) (F : Fr h₀ L s.heap m) (XB : (hd.heap_39 w.params).In base) (X : (hd.heap_39 w.params).In h₀)
    (TB : Top hd.view_39 (looseW hd.view_39 [Str.ofString "LEAST_INT", Str.ofString "MOST_INT", Str.ofString "PostError", Str.ofString "MOST_REAL"]) mean mg mb base)
    (T : Top hd.view_39 (looseW hd.view_39 [Str.ofString "LEAST_INT", Str.ofString "MOST_INT", Str.ofString "PostError", Str.ofString "MOST_REAL"]) mean mg mb h₀)
    (hCD : @LT.lt Nat _ C D) (hDI : @LT.lt Nat _ D I) (hi : IntsAre vs ns) (hlen : ns.length ≤ 24) (hk0 : 0 ≤ k) (hm : m (Str.ofString "deck") = some (.ref D)) {v : Int} {tv : Tok} (hN : NumOk v) (hv : m (Str.ofString "number") = some (.int v tv)) (N : News h₀ L s.heap [(I, it), (D, listOf #[.ref C, .int k tk] n), (C, listOf vs.toArray c)]) (hk1 : k ≤ 57) {K : Int} (hK : k + 4 ≤ K) (hnext : ∀ h' tk' m' k' t', Fr h₀ L h' m' → m' (Str.ofString "deck") = some (.ref D) → News h₀ L h' [(I, it), (D, listOf #[.ref C, .int k' t'] n), (C, listOf vs.toArray c)] → 0 ≤ k' → k' ≤ K → Q .next { s with heap := h', toks := tk' }) :
    wpAny (model PySem.Challenge.rw_nt0480_01.row.prog w) (callerA.deeper (envOf (Str.ofString "law") lawScope L a cd)) (execs (lawTurn.drop 7) (envOf (Str.ofString "law") lawScope L a cd)) Q E s := by
  k_with_none
  k_with "contract" => (first | ((with_reducible show Claim _ _ _ _ 75 _ _ _); first | exact floor_M (by k_mem) (by omega) (by omega) | exact floor_R (by k_mem) (by omega) (by omega) | exact floor_int (by k_mem)) | ((with_reducible show Claim _ _ _ _ 82 _ _ _); exact ceil_N (by k_mem) (by omega) (by omega)) | ((with_reducible show Claim _ _ _ _ 82 _ _ _); first | exact ceil_M (by k_mem) (by omega) (by omega) | exact ceil_R (by k_mem) (by omega) (by omega) | exact ceil_int (by k_mem)) | ((with_reducible show Claim _ _ _ _ 89 _ _ _); first | exact round_M (by k_mem) (by omega) (by omega) | exact round_R (by k_mem) (by omega) (by omega) | exact round_int (by k_mem)) | ((with_reducible show Claim _ _ _ _ 96 _ _ _); first | exact trunc_M (by k_mem) (by omega) (by omega) | exact trunc_R (by k_mem) (by omega) (by omega) | exact trunc_int (by k_mem)) | ((with_reducible show Claim _ _ _ _ 110 _ _ _); refine' draw_c ?U ?hC ?hCD ?hi ?hlen ?h0 ?h1 ?hb ?hb'; (case U => k_updF); (case hC => k_mem); (case hCD => k_ne); (case hi => assumption); (case hlen => assumption); (case h0 => omega); (case h1 => omega); (case hb => decide); (case hb' => decide)) | ((first | ((with_reducible show Claim _ _ _ _ 54 _ _ _); refine' divided_c ?a1 ?a2 ?a3 ?a4 ?a5) | ((with_reducible show Claim _ _ _ _ 145 _ _ _); refine' nearest_c ?a1 ?a2 ?a3 ?a4 ?a5)); (case a5 => exact (under_ok (by assumption) (by assumption) (by assumption) (by assumption)).1); (case a3 => exact (under_ok (by assumption) (by assumption) (by assumption) (by assumption)).2.1); (case a4 => exact (under_ok (by assumption) (by assumption) (by assumption) (by assumption)).2.2); (case a1 => omega); (case a2 => omega)))
  k_with "back" => (first | (unfold RetRef; intro h' tk' F' N') | (unfold RetReal; intro x' t' t2' h' tk' F' N' l1; (try k_lt l1)) | (unfold RetInt; intro t' h' tk' F' N') | (intro v' t' t2' h' tk' h0' h1' F' N'; (try dsimp only at N')))
  k_with "callR" => (k_here; k_dflt (refine' claim_use ?kC ?k1 ?k2 ?k3 ?k4 ?k5 ?kK ?kd ?ku ?_; (case k1 => k_asm); (case k2 => k_asm); (case k3 => k_asm); (case k4 => k_asm); (case k5 => k_asm); (case kC => k_extra "contract"); (case kK => first | exact rfl | assumption); (case kd => first | decide | ktr_room); (case ku => first | decide | ktr_units)); k_extra "back"; (try k_sweep); (try dsimp only); (try k_fold))
  k_with "callR" => (k_here; k_dflt (refine' claim0_use (f := 138) ?kC ?k1 ?k2 ?kB ?k3 ?k4 ?kT ?k5 ?kK ?kd ?ku ?_; (case k1 => k_asm); (case k2 => k_asm); (case k3 => k_asm); (case k4 => k_asm); (case k5 => k_asm); (case kB => assumption); (case kT => assumption); (case kC => exact lawint_c (by omega) (by omega)); (case kK => first | exact rfl | assumption); (case kd => first | decide | ktr_room); (case ku => first | decide | ktr_units)); (refine ⟨fun i0 i1 => ?_, fun i0 => ?_⟩); (all_goals (first | unfold RetInt | unfold RetBytes)); (all_goals (intro t' h' tk' F' N')); (all_goals (try k_sweep)); (try dsimp only); (try k_fold))
  k_with "contract40" => (first | exact due_c (by assumption) | exact mill_c (by omega) (by omega) (by assumption) (by assumption) (by omega) (by omega))
  k_with "back40" => (first | (unfold RetDue; intro x' t1' t2' t3' t4' h' tk' F' N' l1; (try k_lt l1)) | (intro v' t' t2' h' tk' hN' F' N'; (have hN1' := numOk_1 hN'); (have hQ' := q_bounds hN1'); (have hB' := numOk_2 hN')))
  k_with "callR" => (k_here; k_dflt (refine' claim40_use ?kC ?k1 ?k2 ?k3 ?k4 ?k5 ?kK ?kd ?ku ?_; (case k1 => k_asm); (case k2 => k_asm); (case k3 => k_asm); (case k4 => k_asm); (case k5 => k_asm); (case kC => k_extra "contract40"); (case kK => first | exact rfl | assumption); (case kd => first | decide | ktr_room); (case ku => first | decide | ktr_units)); k_extra "back40"; (try k_sweep); (try dsimp only); (try k_fold))
  k_with "turnR" => (k_here; (with_reducible show wpAny _ _ (execs (Stmt.Assign [Expr.Name (Str.ofString "under") _] _ _ :: _) _) _ _ _); k_dflt (refine' turn9 ?kB ?kF ?kXB ?kX ?kTB ?kT ?kCD ?kDI ?ki ?kl ?k0 ?km ?kN ?kv ?kNw ?kk ?kK ?kn; (case kn => assumption); (case kB => k_asm); (case kF => k_asm); (case kXB => assumption); (case kX => k_asm); (case kTB => assumption); (case kT => k_asm); (case ki => assumption); (case kl => assumption); (case kCD => assumption); (case kDI => assumption); (case km => k_dflt rfl); (case kN => assumption); (case kv => k_dflt rfl); (case kNw => exact (news_cut (by k_asm) (List.forall_mem_cons.mpr ⟨by k_mem, List.forall_mem_cons.mpr ⟨by k_mem, List.forall_mem_cons.mpr ⟨by k_mem, List.forall_mem_nil _⟩⟩⟩))); (case k0 => omega); (case kk => omega); (case kK => omega)))
  have hN1 := numOk_1 hN
  have hQ := q_bounds hN1
  have hB := numOk_2 hN
  refine wpAny_noRaise ?_
  conv in lawTurn.drop 7 => whnf
  conv in (occs := *) lawScope => all_goals whnf
  have hCD' : C ≠ D := Nat.ne_of_lt hCD
  have em : (fun y => if y = Str.ofString "deck" then some (Value.ref D) else if y = Str.ofString "number" then some (Value.int v tv) else m y) = m := by
    funext y
    by_cases e0 : y = Str.ofString "deck"
    · rw [if_pos e0, e0, hm]
    by_cases e1 : y = Str.ofString "number"
    · rw [if_neg e0]; rw [if_pos e1, e1, hv]
    rw [if_neg e0]; rw [if_neg e1]
  rw [← em] at F
  clear em hm hv
  (try k_fold)
  k_steps
  all_goals (try unfold autoParam)
  all_goals first | passes_own | contradiction | exact absurd rfl (by assumption)

end
section
local macro_rules | `(tactic| walk_at "padT50") => `(tactic| fail)
local macro_rules | `(tactic| walk_at "padT51") => `(tactic| fail)
local macro_rules | `(tactic| walk_at "padT52") => `(tactic| fail)
local macro_rules | `(tactic| walk_at "padT53") => `(tactic| fail)
local macro_rules | `(tactic| walk_at "padT54") => `(tactic| fail)
set_option maxHeartbeats 8000000
theorem turn5 {w : World} {mean : ExcName → Option Value} {mg mb : Str → Option Value} {L a : Addr} {cd : Value} {base h₀ : Heap} {m : Str → Option Value} {s : Shared} {Q : Flow → Shared → Prop} {E : Value → Shared → Prop} {D C I : Addr} {it : Obj} {n c : Nat} {vs : List Value} {ns : List Int} {k : Int} {tk : Tok}
    (B : Below callerA base [] h₀) (F : Fr h₀ L s.heap m) (XB : (hd.heap_39 w.params).In base) (X : (hd.heap_39 w.params).In h₀)
    (TB : Top hd.view_39 (looseW hd.view_39 [Str.ofString "LEAST_INT", Str.ofString "MOST_INT", Str.ofString "PostError", Str.ofString "MOST_REAL"]) mean mg mb base)
    (T : Top hd.view_39 (looseW hd.view_39 [Str.ofString "LEAST_INT", Str.ofString "MOST_INT", Str.ofString "PostError", Str.ofString "MOST_REAL"]) mean mg mb h₀)
    (hCD : @LT.lt Nat _ C D) (hDI : @LT.lt Nat _ D I) (hi : IntsAre vs ns) (hlen : ns.length ≤ 24) (hk0 : 0 ≤ k) (hm : m (Str.ofString "deck") = some (.ref D)) {v : Int} {tv : Tok} (hN : NumOk v) (hv : m (Str.ofString "number") = some (.int v tv)) {X0 : Addr} (hd0 : m (Str.ofString "due") = some (.ref X0)) {T0 : Addr} (ht0 : m (Str.ofString "told") = some (.ref T0)) {d0 d1 d2 d3 : Tok} {Y0 Y1 Y2 Y3 : Addr} {r0 r1 r2 r3 q0 q1 q2 q3 : Tok} {cap : Nat} (N : News h₀ L s.heap [(T0, listOf #[.ref Y0, .ref Y1, .ref Y2, .ref Y3] cap), (Y0, { cls := .type "tuple", data := .seq #[.str (Str.ofString "real") r0, .int (v.fdiv 1000000 * 1000000) q0] }), (Y1, { cls := .type "tuple", data := .seq #[.str (Str.ofString "real") r1, .int (-(-v).fdiv 1000000 * 1000000) q1] }), (Y2, { cls := .type "tuple", data := .seq #[.str (Str.ofString "real") r2, .int ((2 * v + 1000000).fdiv 2000000 * 1000000) q2] }), (Y3, { cls := .type "tuple", data := .seq #[.str (Str.ofString "real") r3, .int (truncQ v * 1000000) q3] }), (X0, { cls := .type "tuple", data := .seq #[.int (v.fdiv 1000000) d0, .int (-(-v).fdiv 1000000) d1, .int ((2 * v + 1000000).fdiv 2000000) d2, .int (truncQ v) d3] }), (I, it), (D, listOf #[.ref C, .int k tk] n), (C, listOf vs.toArray c)]) (hk1 : k ≤ 57) {K : Int} (hK : k + 4 ≤ K) (hnext : ∀ h' tk' m' k' t', Fr h₀ L h' m' → m' (Str.ofString "deck") = some (.ref D) → News h₀ L h' [(I, it), (D, listOf #[.ref C, .int k' t'] n), (C, listOf vs.toArray c)] → 0 ≤ k' → k' ≤ K → Q .next { s with heap := h', toks := tk' }) :
    wpAny (model PySem.Challenge.rw_nt0480_01.row.prog w) (callerA.deeper (envOf (Str.ofString "law") lawScope L a cd)) (execs (lawTurn.drop 5) (envOf (Str.ofString "law") lawScope L a cd)) Q E s := by
  k_with_none
  k_with "contract" => (first | ((with_reducible show Claim _ _ _ _ 75 _ _ _); first | exact floor_M (by k_mem) (by omega) (by omega) | exact floor_R (by k_mem) (by omega) (by omega) | exact floor_int (by k_mem)) | ((with_reducible show Claim _ _ _ _ 82 _ _ _); exact ceil_N (by k_mem) (by omega) (by omega)) | ((with_reducible show Claim _ _ _ _ 82 _ _ _); first | exact ceil_M (by k_mem) (by omega) (by omega) | exact ceil_R (by k_mem) (by omega) (by omega) | exact ceil_int (by k_mem)) | ((with_reducible show Claim _ _ _ _ 89 _ _ _); first | exact round_M (by k_mem) (by omega) (by omega) | exact round_R (by k_mem) (by omega) (by omega) | exact round_int (by k_mem)) | ((with_reducible show Claim _ _ _ _ 96 _ _ _); first | exact trunc_M (by k_mem) (by omega) (by omega) | exact trunc_R (by k_mem) (by omega) (by omega) | exact trunc_int (by k_mem)) | ((with_reducible show Claim _ _ _ _ 110 _ _ _); refine' draw_c ?U ?hC ?hCD ?hi ?hlen ?h0 ?h1 ?hb ?hb'; (case U => k_updF); (case hC => k_mem); (case hCD => k_ne); (case hi => assumption); (case hlen => assumption); (case h0 => omega); (case h1 => omega); (case hb => decide); (case hb' => decide)) | ((first | ((with_reducible show Claim _ _ _ _ 54 _ _ _); refine' divided_c ?a1 ?a2 ?a3 ?a4 ?a5) | ((with_reducible show Claim _ _ _ _ 145 _ _ _); refine' nearest_c ?a1 ?a2 ?a3 ?a4 ?a5)); (case a5 => exact (under_ok (by assumption) (by assumption) (by assumption) (by assumption)).1); (case a3 => exact (under_ok (by assumption) (by assumption) (by assumption) (by assumption)).2.1); (case a4 => exact (under_ok (by assumption) (by assumption) (by assumption) (by assumption)).2.2); (case a1 => omega); (case a2 => omega)))
  k_with "back" => (first | (unfold RetRef; intro h' tk' F' N') | (unfold RetReal; intro x' t' t2' h' tk' F' N' l1; (try k_lt l1)) | (unfold RetInt; intro t' h' tk' F' N') | (intro v' t' t2' h' tk' h0' h1' F' N'; (try dsimp only at N')))
  k_with "callR" => (k_here; k_dflt (refine' claim_use ?kC ?k1 ?k2 ?k3 ?k4 ?k5 ?kK ?kd ?ku ?_; (case k1 => k_asm); (case k2 => k_asm); (case k3 => k_asm); (case k4 => k_asm); (case k5 => k_asm); (case kC => k_extra "contract"); (case kK => first | exact rfl | assumption); (case kd => first | decide | ktr_room); (case ku => first | decide | ktr_units)); k_extra "back"; (try k_sweep); (try dsimp only); (try k_fold))
  k_with "callR" => (k_here; k_dflt (refine' claim0_use (f := 138) ?kC ?k1 ?k2 ?kB ?k3 ?k4 ?kT ?k5 ?kK ?kd ?ku ?_; (case k1 => k_asm); (case k2 => k_asm); (case k3 => k_asm); (case k4 => k_asm); (case k5 => k_asm); (case kB => assumption); (case kT => assumption); (case kC => exact lawint_c (by omega) (by omega)); (case kK => first | exact rfl | assumption); (case kd => first | decide | ktr_room); (case ku => first | decide | ktr_units)); (refine ⟨fun i0 i1 => ?_, fun i0 => ?_⟩); (all_goals (first | unfold RetInt | unfold RetBytes)); (all_goals (intro t' h' tk' F' N')); (all_goals (try k_sweep)); (try dsimp only); (try k_fold))
  k_with "contract40" => (first | exact due_c (by assumption) | exact mill_c (by omega) (by omega) (by assumption) (by assumption) (by omega) (by omega))
  k_with "back40" => (first | (unfold RetDue; intro x' t1' t2' t3' t4' h' tk' F' N' l1; (try k_lt l1)) | (intro v' t' t2' h' tk' hN' F' N'; (have hN1' := numOk_1 hN'); (have hQ' := q_bounds hN1'); (have hB' := numOk_2 hN')))
  k_with "callR" => (k_here; k_dflt (refine' claim40_use ?kC ?k1 ?k2 ?k3 ?k4 ?k5 ?kK ?kd ?ku ?_; (case k1 => k_asm); (case k2 => k_asm); (case k3 => k_asm); (case k4 => k_asm); (case k5 => k_asm); (case kC => k_extra "contract40"); (case kK => first | exact rfl | assumption); (case kd => first | decide | ktr_room); (case ku => first | decide | ktr_units)); k_extra "back40"; (try k_sweep); (try dsimp only); (try k_fold))
  k_with "turnR" => (k_here; (with_reducible show wpAny _ _ (execs (Stmt.Assign [Expr.Name (Str.ofString "whole") _] _ _ :: _) _) _ _ _); k_dflt (refine' turn7 ?kB ?kF ?kXB ?kX ?kTB ?kT ?kCD ?kDI ?ki ?kl ?k0 ?km ?kN ?kv ?kNw ?kk ?kK ?kn; (case kn => assumption); (case kB => k_asm); (case kF => k_asm); (case kXB => assumption); (case kX => k_asm); (case kTB => assumption); (case kT => k_asm); (case ki => assumption); (case kl => assumption); (case kCD => assumption); (case kDI => assumption); (case km => k_dflt rfl); (case kN => assumption); (case kv => k_dflt rfl); (case kNw => exact (news_cut (by k_asm) (List.forall_mem_cons.mpr ⟨by k_mem, List.forall_mem_cons.mpr ⟨by k_mem, List.forall_mem_cons.mpr ⟨by k_mem, List.forall_mem_nil _⟩⟩⟩))); (case k0 => omega); (case kk => omega); (case kK => omega)))
  have hN1 := numOk_1 hN
  have hQ := q_bounds hN1
  have hB := numOk_2 hN
  refine wpAny_noRaise ?_
  conv in lawTurn.drop 5 => whnf
  conv in (occs := *) lawScope => all_goals whnf
  have hCD' : C ≠ D := Nat.ne_of_lt hCD
  have em : (fun y => if y = Str.ofString "deck" then some (Value.ref D) else if y = Str.ofString "number" then some (Value.int v tv) else if y = Str.ofString "due" then some (Value.ref X0) else if y = Str.ofString "told" then some (Value.ref T0) else m y) = m := by
    funext y
    by_cases e0 : y = Str.ofString "deck"
    · rw [if_pos e0, e0, hm]
    by_cases e1 : y = Str.ofString "number"
    · rw [if_neg e0]; rw [if_pos e1, e1, hv]
    by_cases e2 : y = Str.ofString "due"
    · rw [if_neg e0]; rw [if_neg e1]; rw [if_pos e2, e2, hd0]
    by_cases e3 : y = Str.ofString "told"
    · rw [if_neg e0]; rw [if_neg e1]; rw [if_neg e2]; rw [if_pos e3, e3, ht0]
    rw [if_neg e0]; rw [if_neg e1]; rw [if_neg e2]; rw [if_neg e3]
  rw [← em] at F
  clear em hm hv hd0 ht0
  (try k_fold)
  k_steps
  all_goals (try unfold autoParam)
  all_goals first | passes_own | contradiction | exact absurd rfl (by assumption)

end
section
local macro_rules | `(tactic| walk_at "padT40") => `(tactic| fail)
local macro_rules | `(tactic| walk_at "padT41") => `(tactic| fail)
local macro_rules | `(tactic| walk_at "padT42") => `(tactic| fail)
local macro_rules | `(tactic| walk_at "padT43") => `(tactic| fail)
local macro_rules | `(tactic| walk_at "padT44") => `(tactic| fail)
local macro_rules | `(tactic| walk_at "padT45") => `(tactic| fail)
set_option maxHeartbeats 8000000
theorem turn4 {w : World} {mean : ExcName → Option Value} {mg mb : Str → Option Value} {L a : Addr} {cd : Value} {base h₀ : Heap} {m : Str → Option Value} {s : Shared} {Q : Flow → Shared → Prop} {E : Value → Shared → Prop} {D C I : Addr} {it : Obj} {n c : Nat} {vs : List Value} {ns : List Int} {k : Int} {tk : Tok}
    (B : Below callerA base [] h₀) (F : Fr h₀ L s.heap m) (XB : (hd.heap_39 w.params).In base) (X : (hd.heap_39 w.params).In h₀)
    (TB : Top hd.view_39 (looseW hd.view_39 [Str.ofString "LEAST_INT", Str.ofString "MOST_INT", Str.ofString "PostError", Str.ofString "MOST_REAL"]) mean mg mb base)
    (T : Top hd.view_39 (looseW hd.view_39 [Str.ofString "LEAST_INT", Str.ofString "MOST_INT", Str.ofString "PostError", Str.ofString "MOST_REAL"]) mean mg mb h₀)
    (hCD : @LT.lt Nat _ C D) (hDI : @LT.lt Nat _ D I) (hi : IntsAre vs ns) (hlen : ns.length ≤ 24) (hk0 : 0 ≤ k) (hm : m (Str.ofString "deck") = some (.ref D)) {v : Int} {tv : Tok} (hN : NumOk v) (hv : m (Str.ofString "number") = some (.int v tv)) {X0 : Addr} (hd0 : m (Str.ofString "due") = some (.ref X0)) {T0 : Addr} (ht0 : m (Str.ofString "told") = some (.ref T0)) {d0 d1 d2 d3 : Tok} {Y0 Y1 Y2 Y3 : Addr} {r0 r1 r2 r3 q0 q1 q2 q3 : Tok} {cap : Nat} (N : News h₀ L s.heap [(T0, listOf #[.ref Y0, .ref Y1, .ref Y2, .ref Y3] cap), (Y0, { cls := .type "tuple", data := .seq #[.str (Str.ofString "real") r0, .int (v.fdiv 1000000 * 1000000) q0] }), (Y1, { cls := .type "tuple", data := .seq #[.str (Str.ofString "real") r1, .int (-(-v).fdiv 1000000 * 1000000) q1] }), (Y2, { cls := .type "tuple", data := .seq #[.str (Str.ofString "real") r2, .int ((2 * v + 1000000).fdiv 2000000 * 1000000) q2] }), (Y3, { cls := .type "tuple", data := .seq #[.str (Str.ofString "real") r3, .int (truncQ v * 1000000) q3] }), (X0, { cls := .type "tuple", data := .seq #[.int (v.fdiv 1000000) d0, .int (-(-v).fdiv 1000000) d1, .int ((2 * v + 1000000).fdiv 2000000) d2, .int (truncQ v) d3] }), (I, it), (D, listOf #[.ref C, .int k tk] n), (C, listOf vs.toArray c)]) (hk1 : k ≤ 57) {K : Int} (hK : k + 4 ≤ K) (hnext : ∀ h' tk' m' k' t', Fr h₀ L h' m' → m' (Str.ofString "deck") = some (.ref D) → News h₀ L h' [(I, it), (D, listOf #[.ref C, .int k' t'] n), (C, listOf vs.toArray c)] → 0 ≤ k' → k' ≤ K → Q .next { s with heap := h', toks := tk' }) :
    wpAny (model PySem.Challenge.rw_nt0480_01.row.prog w) (callerA.deeper (envOf (Str.ofString "law") lawScope L a cd)) (execs (lawTurn.drop 4) (envOf (Str.ofString "law") lawScope L a cd)) Q E s := by
  k_with_none
  k_with "contract" => (first | ((with_reducible show Claim _ _ _ _ 75 _ _ _); first | exact floor_M (by k_mem) (by omega) (by omega) | exact floor_R (by k_mem) (by omega) (by omega) | exact floor_int (by k_mem)) | ((with_reducible show Claim _ _ _ _ 82 _ _ _); exact ceil_N (by k_mem) (by omega) (by omega)) | ((with_reducible show Claim _ _ _ _ 82 _ _ _); first | exact ceil_M (by k_mem) (by omega) (by omega) | exact ceil_R (by k_mem) (by omega) (by omega) | exact ceil_int (by k_mem)) | ((with_reducible show Claim _ _ _ _ 89 _ _ _); first | exact round_M (by k_mem) (by omega) (by omega) | exact round_R (by k_mem) (by omega) (by omega) | exact round_int (by k_mem)) | ((with_reducible show Claim _ _ _ _ 96 _ _ _); first | exact trunc_M (by k_mem) (by omega) (by omega) | exact trunc_R (by k_mem) (by omega) (by omega) | exact trunc_int (by k_mem)) | ((with_reducible show Claim _ _ _ _ 110 _ _ _); refine' draw_c ?U ?hC ?hCD ?hi ?hlen ?h0 ?h1 ?hb ?hb'; (case U => k_updF); (case hC => k_mem); (case hCD => k_ne); (case hi => assumption); (case hlen => assumption); (case h0 => omega); (case h1 => omega); (case hb => decide); (case hb' => decide)) | ((first | ((with_reducible show Claim _ _ _ _ 54 _ _ _); refine' divided_c ?a1 ?a2 ?a3 ?a4 ?a5) | ((with_reducible show Claim _ _ _ _ 145 _ _ _); refine' nearest_c ?a1 ?a2 ?a3 ?a4 ?a5)); (case a5 => exact (under_ok (by assumption) (by assumption) (by assumption) (by assumption)).1); (case a3 => exact (under_ok (by assumption) (by assumption) (by assumption) (by assumption)).2.1); (case a4 => exact (under_ok (by assumption) (by assumption) (by assumption) (by assumption)).2.2); (case a1 => omega); (case a2 => omega)))
  k_with "back" => (first | (unfold RetRef; intro h' tk' F' N') | (unfold RetReal; intro x' t' t2' h' tk' F' N' l1; (try k_lt l1)) | (unfold RetInt; intro t' h' tk' F' N') | (intro v' t' t2' h' tk' h0' h1' F' N'; (try dsimp only at N')))
  k_with "callR" => (k_here; k_dflt (refine' claim_use ?kC ?k1 ?k2 ?k3 ?k4 ?k5 ?kK ?kd ?ku ?_; (case k1 => k_asm); (case k2 => k_asm); (case k3 => k_asm); (case k4 => k_asm); (case k5 => k_asm); (case kC => k_extra "contract"); (case kK => first | exact rfl | assumption); (case kd => first | decide | ktr_room); (case ku => first | decide | ktr_units)); k_extra "back"; (try k_sweep); (try dsimp only); (try k_fold))
  k_with "callR" => (k_here; k_dflt (refine' claim0_use (f := 138) ?kC ?k1 ?k2 ?kB ?k3 ?k4 ?kT ?k5 ?kK ?kd ?ku ?_; (case k1 => k_asm); (case k2 => k_asm); (case k3 => k_asm); (case k4 => k_asm); (case k5 => k_asm); (case kB => assumption); (case kT => assumption); (case kC => exact lawint_c (by omega) (by omega)); (case kK => first | exact rfl | assumption); (case kd => first | decide | ktr_room); (case ku => first | decide | ktr_units)); (refine ⟨fun i0 i1 => ?_, fun i0 => ?_⟩); (all_goals (first | unfold RetInt | unfold RetBytes)); (all_goals (intro t' h' tk' F' N')); (all_goals (try k_sweep)); (try dsimp only); (try k_fold))
  k_with "contract40" => (first | exact due_c (by assumption) | exact mill_c (by omega) (by omega) (by assumption) (by assumption) (by omega) (by omega))
  k_with "back40" => (first | (unfold RetDue; intro x' t1' t2' t3' t4' h' tk' F' N' l1; (try k_lt l1)) | (intro v' t' t2' h' tk' hN' F' N'; (have hN1' := numOk_1 hN'); (have hQ' := q_bounds hN1'); (have hB' := numOk_2 hN')))
  k_with "callR" => (k_here; k_dflt (refine' claim40_use ?kC ?k1 ?k2 ?k3 ?k4 ?k5 ?kK ?kd ?ku ?_; (case k1 => k_asm); (case k2 => k_asm); (case k3 => k_asm); (case k4 => k_asm); (case k5 => k_asm); (case kC => k_extra "contract40"); (case kK => first | exact rfl | assumption); (case kd => first | decide | ktr_room); (case ku => first | decide | ktr_units)); k_extra "back40"; (try k_sweep); (try dsimp only); (try k_fold))
  k_with "turnR" => (k_here; (with_reducible show wpAny _ _ (execs (Stmt.If (Expr.Compare (Expr.Call (Expr.Name (Str.ofString "ceiling") _) _ _ _) _ _ _) _ _ _ :: _) _) _ _ _); k_dflt (refine' turn5 ?kB ?kF ?kXB ?kX ?kTB ?kT ?kCD ?kDI ?ki ?kl ?k0 ?km ?kN ?kv ?kd0 ?kt0 ?kNw ?kk ?kK ?kn; (case kn => assumption); (case kB => k_asm); (case kF => k_asm); (case kXB => assumption); (case kX => k_asm); (case kTB => assumption); (case kT => k_asm); (case ki => assumption); (case kl => assumption); (case kCD => assumption); (case kDI => assumption); (case km => k_dflt rfl); (case kN => assumption); (case kv => k_dflt rfl); (case kd0 => k_dflt rfl); (case kt0 => k_dflt rfl); (case kNw => exact (news_cut (by k_asm) (List.forall_mem_cons.mpr ⟨by k_mem, List.forall_mem_cons.mpr ⟨by k_mem, List.forall_mem_cons.mpr ⟨by k_mem, List.forall_mem_cons.mpr ⟨by k_mem, List.forall_mem_cons.mpr ⟨by k_mem, List.forall_mem_cons.mpr ⟨by k_mem, List.forall_mem_cons.mpr ⟨by k_mem, List.forall_mem_cons.mpr ⟨by k_mem, List.forall_mem_cons.mpr ⟨by k_mem, List.forall_mem_nil _⟩⟩⟩⟩⟩⟩⟩⟩⟩))); (case k0 => omega); (case kk => omega); (case kK => omega)))
  have hN1 := numOk_1 hN
  have hQ := q_bounds hN1
  have hB := numOk_2 hN
  refine wpAny_noRaise ?_
  conv in lawTurn.drop 4 => whnf
  conv in (occs := *) lawScope => all_goals whnf
  have hCD' : C ≠ D := Nat.ne_of_lt hCD
  have em : (fun y => if y = Str.ofString "deck" then some (Value.ref D) else if y = Str.ofString "number" then some (Value.int v tv) else if y = Str.ofString "due" then some (Value.ref X0) else if y = Str.ofString "told" then some (Value.ref T0) else m y) = m := by
    funext y
    by_cases e0 : y = Str.ofString "deck"
    · rw [if_pos e0, e0, hm]
    by_cases e1 : y = Str.ofString "number"
    · rw [if_neg e0]; rw [if_pos e1, e1, hv]
    by_cases e2 : y = Str.ofString "due"
    · rw [if_neg e0]; rw [if_neg e1]; rw [if_pos e2, e2, hd0]
    by_cases e3 : y = Str.ofString "told"
    · rw [if_neg e0]; rw [if_neg e1]; rw [if_neg e2]; rw [if_pos e3, e3, ht0]
    rw [if_neg e0]; rw [if_neg e1]; rw [if_neg e2]; rw [if_neg e3]
  rw [← em] at F
  clear em hm hv hd0 ht0
  (try k_fold)
  k_steps
  all_goals (try unfold autoParam)
  all_goals first | passes_own | contradiction | exact absurd rfl (by assumption)

end
section
theorem off_new {I C D X : Addr} {o : Obj} {l : List (Addr × Obj)} {R : Prop} (l1 : (@LT.lt Nat _ I X) ∧ (@LT.lt Nat _ C X) ∧ (@LT.lt Nat _ D X) ∧ R) (off : LCg.Off3 I C D l) : LCg.Off3 I C D ((X, o) :: l) := ⟨⟨Nat.ne_of_gt l1.1, Nat.ne_of_gt l1.2.1, Nat.ne_of_gt l1.2.2.1⟩, off⟩
local macro_rules | `(tactic| lcg_off) => `(tactic| (refine' off_new ?oa ?ob; (case oa => assumption); (case ob => assumption)))
local macro_rules | `(tactic| walk_at "CompRest") => `(tactic| (with_unfolding_all (refine LCg.CompRest.succ ?_; intro v' I' oI' C' oC' D' m' h' tk' E' hv' hC' hx' F' N' off' ne'; lcg_open hv')))
local macro_rules | `(tactic| walk_at "padT30") => `(tactic| fail)
local macro_rules | `(tactic| walk_at "padT31") => `(tactic| fail)
local macro_rules | `(tactic| walk_at "padT32") => `(tactic| fail)
local macro_rules | `(tactic| walk_at "padT33") => `(tactic| fail)
local macro_rules | `(tactic| walk_at "padT34") => `(tactic| fail)
local macro_rules | `(tactic| walk_at "padT35") => `(tactic| fail)
set_option maxHeartbeats 8000000
theorem turn3 {w : World} {mean : ExcName → Option Value} {mg mb : Str → Option Value} {L a : Addr} {cd : Value} {base h₀ : Heap} {m : Str → Option Value} {s : Shared} {Q : Flow → Shared → Prop} {E : Value → Shared → Prop} {D C I : Addr} {it : Obj} {n c : Nat} {vs : List Value} {ns : List Int} {k : Int} {tk : Tok}
    (B : Below callerA base [] h₀) (F : Fr h₀ L s.heap m) (XB : (hd.heap_39 w.params).In base) (X : (hd.heap_39 w.params).In h₀)
    (TB : Top hd.view_39 (looseW hd.view_39 [Str.ofString "LEAST_INT", Str.ofString "MOST_INT", Str.ofString "PostError", Str.ofString "MOST_REAL"]) mean mg mb base)
    (T : Top hd.view_39 (looseW hd.view_39 [Str.ofString "LEAST_INT", Str.ofString "MOST_INT", Str.ofString "PostError", Str.ofString "MOST_REAL"]) mean mg mb h₀)
    (hCD : @LT.lt Nat _ C D) (hDI : @LT.lt Nat _ D I) (hi : IntsAre vs ns) (hlen : ns.length ≤ 24) (hk0 : 0 ≤ k) (hm : m (Str.ofString "deck") = some (.ref D)) {v : Int} {tv : Tok} (hN : NumOk v) (hv : m (Str.ofString "number") = some (.int v tv)) {X0 : Addr} (hd0 : m (Str.ofString "due") = some (.ref X0)) {T0 : Addr} (ht0 : m (Str.ofString "told") = some (.ref T0)) {d0 d1 d2 d3 : Tok} {Y0 Y1 Y2 Y3 : Addr} {r0 r1 r2 r3 q0 q1 q2 q3 : Tok} {cap : Nat} (N : News h₀ L s.heap [(T0, listOf #[.ref Y0, .ref Y1, .ref Y2, .ref Y3] cap), (Y0, { cls := .type "tuple", data := .seq #[.str (Str.ofString "real") r0, .int (v.fdiv 1000000 * 1000000) q0] }), (Y1, { cls := .type "tuple", data := .seq #[.str (Str.ofString "real") r1, .int (-(-v).fdiv 1000000 * 1000000) q1] }), (Y2, { cls := .type "tuple", data := .seq #[.str (Str.ofString "real") r2, .int ((2 * v + 1000000).fdiv 2000000 * 1000000) q2] }), (Y3, { cls := .type "tuple", data := .seq #[.str (Str.ofString "real") r3, .int (truncQ v * 1000000) q3] }), (X0, { cls := .type "tuple", data := .seq #[.int (v.fdiv 1000000) d0, .int (-(-v).fdiv 1000000) d1, .int ((2 * v + 1000000).fdiv 2000000) d2, .int (truncQ v) d3] }), (I, it), (D, listOf #[.ref C, .int k tk] n), (C, listOf vs.toArray c)]) (hk1 : k ≤ 57) {K : Int} (hK : k + 4 ≤ K) (hnext : ∀ h' tk' m' k' t', Fr h₀ L h' m' → m' (Str.ofString "deck") = some (.ref D) → News h₀ L h' [(I, it), (D, listOf #[.ref C, .int k' t'] n), (C, listOf vs.toArray c)] → 0 ≤ k' → k' ≤ K → Q .next { s with heap := h', toks := tk' }) :
    wpAny (model PySem.Challenge.rw_nt0480_01.row.prog w) (callerA.deeper (envOf (Str.ofString "law") lawScope L a cd)) (execs (lawTurn.drop 3) (envOf (Str.ofString "law") lawScope L a cd)) Q E s := by
  k_with_none
  k_with "contract" => (first | ((with_reducible show Claim _ _ _ _ 75 _ _ _); first | exact floor_M (by k_mem) (by omega) (by omega) | exact floor_R (by k_mem) (by omega) (by omega) | exact floor_int (by k_mem)) | ((with_reducible show Claim _ _ _ _ 82 _ _ _); exact ceil_N (by k_mem) (by omega) (by omega)) | ((with_reducible show Claim _ _ _ _ 82 _ _ _); first | exact ceil_M (by k_mem) (by omega) (by omega) | exact ceil_R (by k_mem) (by omega) (by omega) | exact ceil_int (by k_mem)) | ((with_reducible show Claim _ _ _ _ 89 _ _ _); first | exact round_M (by k_mem) (by omega) (by omega) | exact round_R (by k_mem) (by omega) (by omega) | exact round_int (by k_mem)) | ((with_reducible show Claim _ _ _ _ 96 _ _ _); first | exact trunc_M (by k_mem) (by omega) (by omega) | exact trunc_R (by k_mem) (by omega) (by omega) | exact trunc_int (by k_mem)) | ((with_reducible show Claim _ _ _ _ 110 _ _ _); refine' draw_c ?U ?hC ?hCD ?hi ?hlen ?h0 ?h1 ?hb ?hb'; (case U => k_updF); (case hC => k_mem); (case hCD => k_ne); (case hi => assumption); (case hlen => assumption); (case h0 => omega); (case h1 => omega); (case hb => decide); (case hb' => decide)) | ((first | ((with_reducible show Claim _ _ _ _ 54 _ _ _); refine' divided_c ?a1 ?a2 ?a3 ?a4 ?a5) | ((with_reducible show Claim _ _ _ _ 145 _ _ _); refine' nearest_c ?a1 ?a2 ?a3 ?a4 ?a5)); (case a5 => exact (under_ok (by assumption) (by assumption) (by assumption) (by assumption)).1); (case a3 => exact (under_ok (by assumption) (by assumption) (by assumption) (by assumption)).2.1); (case a4 => exact (under_ok (by assumption) (by assumption) (by assumption) (by assumption)).2.2); (case a1 => omega); (case a2 => omega)))
  k_with "back" => (first | (unfold RetRef; intro h' tk' F' N') | (unfold RetReal; intro x' t' t2' h' tk' F' N' l1; (try k_lt l1)) | (unfold RetInt; intro t' h' tk' F' N') | (intro v' t' t2' h' tk' h0' h1' F' N'; (try dsimp only at N')))
  k_with "callR" => (k_here; k_dflt (refine' claim_use ?kC ?k1 ?k2 ?k3 ?k4 ?k5 ?kK ?kd ?ku ?_; (case k1 => k_asm); (case k2 => k_asm); (case k3 => k_asm); (case k4 => k_asm); (case k5 => k_asm); (case kC => k_extra "contract"); (case kK => first | exact rfl | assumption); (case kd => first | decide | ktr_room); (case ku => first | decide | ktr_units)); k_extra "back"; (try k_sweep); (try dsimp only); (try k_fold))
  k_with "callR" => (k_here; k_dflt (refine' claim0_use (f := 138) ?kC ?k1 ?k2 ?kB ?k3 ?k4 ?kT ?k5 ?kK ?kd ?ku ?_; (case k1 => k_asm); (case k2 => k_asm); (case k3 => k_asm); (case k4 => k_asm); (case k5 => k_asm); (case kB => assumption); (case kT => assumption); (case kC => exact lawint_c (by omega) (by omega)); (case kK => first | exact rfl | assumption); (case kd => first | decide | ktr_room); (case ku => first | decide | ktr_units)); (refine ⟨fun i0 i1 => ?_, fun i0 => ?_⟩); (all_goals (first | unfold RetInt | unfold RetBytes)); (all_goals (intro t' h' tk' F' N')); (all_goals (try k_sweep)); (try dsimp only); (try k_fold))
  k_with "contract40" => (first | exact due_c (by assumption) | exact mill_c (by omega) (by omega) (by assumption) (by assumption) (by omega) (by omega))
  k_with "back40" => (first | (unfold RetDue; intro x' t1' t2' t3' t4' h' tk' F' N' l1; (try k_lt l1)) | (intro v' t' t2' h' tk' hN' F' N'; (have hN1' := numOk_1 hN'); (have hQ' := q_bounds hN1'); (have hB' := numOk_2 hN')))
  k_with "callR" => (k_here; k_dflt (refine' claim40_use ?kC ?k1 ?k2 ?k3 ?k4 ?k5 ?kK ?kd ?ku ?_; (case k1 => k_asm); (case k2 => k_asm); (case k3 => k_asm); (case k4 => k_asm); (case k5 => k_asm); (case kC => k_extra "contract40"); (case kK => first | exact rfl | assumption); (case kd => first | decide | ktr_room); (case ku => first | decide | ktr_units)); k_extra "back40"; (try k_sweep); (try dsimp only); (try k_fold))
  k_with "turnR" => (k_here; (with_reducible show wpAny _ _ (execs (Stmt.For _ _ _ _ _ :: _) _) _ _ _); k_dflt (refine' turn4 ?kB ?kF ?kXB ?kX ?kTB ?kT ?kCD ?kDI ?ki ?kl ?k0 ?km ?kN ?kv ?kd0 ?kt0 ?kNw ?kk ?kK ?kn; (case kn => assumption); (case kB => k_asm); (case kF => k_asm); (case kXB => assumption); (case kX => k_asm); (case kTB => assumption); (case kT => k_asm); (case ki => assumption); (case kl => assumption); (case kCD => assumption); (case kDI => assumption); (case km => k_dflt rfl); (case kN => assumption); (case kv => k_dflt rfl); (case kd0 => k_dflt rfl); (case kt0 => k_dflt rfl); (case kNw => exact (news_cut (by k_asm) (List.forall_mem_cons.mpr ⟨by k_mem, List.forall_mem_cons.mpr ⟨by k_mem, List.forall_mem_cons.mpr ⟨by k_mem, List.forall_mem_cons.mpr ⟨by k_mem, List.forall_mem_cons.mpr ⟨by k_mem, List.forall_mem_cons.mpr ⟨by k_mem, List.forall_mem_cons.mpr ⟨by k_mem, List.forall_mem_cons.mpr ⟨by k_mem, List.forall_mem_cons.mpr ⟨by k_mem, List.forall_mem_nil _⟩⟩⟩⟩⟩⟩⟩⟩⟩))); (case k0 => omega); (case kk => omega); (case kK => omega)))
  have hN1 := numOk_1 hN
  have hQ := q_bounds hN1
  have hB := numOk_2 hN
  refine wpAny_noRaise ?_
  conv in lawTurn.drop 3 => whnf
  conv in (occs := *) lawScope => all_goals whnf
  have hCD' : C ≠ D := Nat.ne_of_lt hCD
  have em : (fun y => if y = Str.ofString "deck" then some (Value.ref D) else if y = Str.ofString "number" then some (Value.int v tv) else if y = Str.ofString "due" then some (Value.ref X0) else if y = Str.ofString "told" then some (Value.ref T0) else m y) = m := by
    funext y
    by_cases e0 : y = Str.ofString "deck"
    · rw [if_pos e0, e0, hm]
    by_cases e1 : y = Str.ofString "number"
    · rw [if_neg e0]; rw [if_pos e1, e1, hv]
    by_cases e2 : y = Str.ofString "due"
    · rw [if_neg e0]; rw [if_neg e1]; rw [if_pos e2, e2, hd0]
    by_cases e3 : y = Str.ofString "told"
    · rw [if_neg e0]; rw [if_neg e1]; rw [if_neg e2]; rw [if_pos e3, e3, ht0]
    rw [if_neg e0]; rw [if_neg e1]; rw [if_neg e2]; rw [if_neg e3]
  rw [← em] at F
  clear em hm hv hd0 ht0
  (try k_fold)
  k_steps
  all_goals (try unfold autoParam)
  all_goals first | passes_own | contradiction | exact absurd rfl (by assumption)

end
section
local macro_rules | `(tactic| walk_at "padT00") => `(tactic| fail)
local macro_rules | `(tactic| walk_at "padT01") => `(tactic| fail)
local macro_rules | `(tactic| walk_at "padT02") => `(tactic| fail)
local macro_rules | `(tactic| walk_at "padT03") => `(tactic| fail)
local macro_rules | `(tactic| walk_at "padT04") => `(tactic| fail)
local macro_rules | `(tactic| walk_at "padT05") => `(tactic| fail)
local macro_rules | `(tactic| walk_at "padT06") => `(tactic| fail)
local macro_rules | `(tactic| walk_at "padT07") => `(tactic| fail)
set_option maxHeartbeats 8000000
theorem turn0 {w : World} {mean : ExcName → Option Value} {mg mb : Str → Option Value} {L a : Addr} {cd : Value} {base h₀ : Heap} {m : Str → Option Value} {s : Shared} {Q : Flow → Shared → Prop} {E : Value → Shared → Prop} {D C I : Addr} {it : Obj} {n c : Nat} {vs : List Value} {ns : List Int} {k : Int} {tk : Tok}
    (B : Below callerA base [] h₀) (F : Fr h₀ L s.heap m) (XB : (hd.heap_39 w.params).In base) (X : (hd.heap_39 w.params).In h₀)
    (TB : Top hd.view_39 (looseW hd.view_39 [Str.ofString "LEAST_INT", Str.ofString "MOST_INT", Str.ofString "PostError", Str.ofString "MOST_REAL"]) mean mg mb base)
    (T : Top hd.view_39 (looseW hd.view_39 [Str.ofString "LEAST_INT", Str.ofString "MOST_INT", Str.ofString "PostError", Str.ofString "MOST_REAL"]) mean mg mb h₀)
    (hCD : @LT.lt Nat _ C D) (hDI : @LT.lt Nat _ D I) (hi : IntsAre vs ns) (hlen : ns.length ≤ 24) (hk0 : 0 ≤ k) (hm : m (Str.ofString "deck") = some (.ref D)) (N : News h₀ L s.heap [(I, it), (D, listOf #[.ref C, .int k tk] n), (C, listOf vs.toArray c)]) (hk1 : k ≤ 50) {K : Int} (hK : k + 8 ≤ K) (hnext : ∀ h' tk' m' k' t', Fr h₀ L h' m' → m' (Str.ofString "deck") = some (.ref D) → News h₀ L h' [(I, it), (D, listOf #[.ref C, .int k' t'] n), (C, listOf vs.toArray c)] → 0 ≤ k' → k' ≤ K → Q .next { s with heap := h', toks := tk' }) :
    wpAny (model PySem.Challenge.rw_nt0480_01.row.prog w) (callerA.deeper (envOf (Str.ofString "law") lawScope L a cd)) (execs (lawTurn.drop 0) (envOf (Str.ofString "law") lawScope L a cd)) Q E s := by
  k_with_none
  k_with "contract" => (first | ((with_reducible show Claim _ _ _ _ 75 _ _ _); first | exact floor_M (by k_mem) (by omega) (by omega) | exact floor_R (by k_mem) (by omega) (by omega) | exact floor_int (by k_mem)) | ((with_reducible show Claim _ _ _ _ 82 _ _ _); exact ceil_N (by k_mem) (by omega) (by omega)) | ((with_reducible show Claim _ _ _ _ 82 _ _ _); first | exact ceil_M (by k_mem) (by omega) (by omega) | exact ceil_R (by k_mem) (by omega) (by omega) | exact ceil_int (by k_mem)) | ((with_reducible show Claim _ _ _ _ 89 _ _ _); first | exact round_M (by k_mem) (by omega) (by omega) | exact round_R (by k_mem) (by omega) (by omega) | exact round_int (by k_mem)) | ((with_reducible show Claim _ _ _ _ 96 _ _ _); first | exact trunc_M (by k_mem) (by omega) (by omega) | exact trunc_R (by k_mem) (by omega) (by omega) | exact trunc_int (by k_mem)) | ((with_reducible show Claim _ _ _ _ 110 _ _ _); refine' draw_c ?U ?hC ?hCD ?hi ?hlen ?h0 ?h1 ?hb ?hb'; (case U => k_updF); (case hC => k_mem); (case hCD => k_ne); (case hi => assumption); (case hlen => assumption); (case h0 => omega); (case h1 => omega); (case hb => decide); (case hb' => decide)) | ((first | ((with_reducible show Claim _ _ _ _ 54 _ _ _); refine' divided_c ?a1 ?a2 ?a3 ?a4 ?a5) | ((with_reducible show Claim _ _ _ _ 145 _ _ _); refine' nearest_c ?a1 ?a2 ?a3 ?a4 ?a5)); (case a5 => exact (under_ok (by assumption) (by assumption) (by assumption) (by assumption)).1); (case a3 => exact (under_ok (by assumption) (by assumption) (by assumption) (by assumption)).2.1); (case a4 => exact (under_ok (by assumption) (by assumption) (by assumption) (by assumption)).2.2); (case a1 => omega); (case a2 => omega)))
  k_with "back" => (first | (unfold RetRef; intro h' tk' F' N') | (unfold RetReal; intro x' t' t2' h' tk' F' N' l1; (try k_lt l1)) | (unfold RetInt; intro t' h' tk' F' N') | (intro v' t' t2' h' tk' h0' h1' F' N'; (try dsimp only at N')))
  k_with "callR" => (k_here; k_dflt (refine' claim_use ?kC ?k1 ?k2 ?k3 ?k4 ?k5 ?kK ?kd ?ku ?_; (case k1 => k_asm); (case k2 => k_asm); (case k3 => k_asm); (case k4 => k_asm); (case k5 => k_asm); (case kC => k_extra "contract"); (case kK => first | exact rfl | assumption); (case kd => first | decide | ktr_room); (case ku => first | decide | ktr_units)); k_extra "back"; (try k_sweep); (try dsimp only); (try k_fold))
  k_with "callR" => (k_here; k_dflt (refine' claim0_use (f := 138) ?kC ?k1 ?k2 ?kB ?k3 ?k4 ?kT ?k5 ?kK ?kd ?ku ?_; (case k1 => k_asm); (case k2 => k_asm); (case k3 => k_asm); (case k4 => k_asm); (case k5 => k_asm); (case kB => assumption); (case kT => assumption); (case kC => exact lawint_c (by omega) (by omega)); (case kK => first | exact rfl | assumption); (case kd => first | decide | ktr_room); (case ku => first | decide | ktr_units)); (refine ⟨fun i0 i1 => ?_, fun i0 => ?_⟩); (all_goals (first | unfold RetInt | unfold RetBytes)); (all_goals (intro t' h' tk' F' N')); (all_goals (try k_sweep)); (try dsimp only); (try k_fold))
  k_with "contract40" => (first | exact due_c (by assumption) | exact mill_c (by omega) (by omega) (by assumption) (by assumption) (by omega) (by omega))
  k_with "back40" => (first | (unfold RetDue; intro x' t1' t2' t3' t4' h' tk' F' N' l1; (try k_lt l1)) | (intro v' t' t2' h' tk' hN' F' N'; (have hN1' := numOk_1 hN'); (have hQ' := q_bounds hN1'); (have hB' := numOk_2 hN')))
  k_with "callR" => (k_here; k_dflt (refine' claim40_use ?kC ?k1 ?k2 ?k3 ?k4 ?k5 ?kK ?kd ?ku ?_; (case k1 => k_asm); (case k2 => k_asm); (case k3 => k_asm); (case k4 => k_asm); (case k5 => k_asm); (case kC => k_extra "contract40"); (case kK => first | exact rfl | assumption); (case kd => first | decide | ktr_room); (case ku => first | decide | ktr_units)); k_extra "back40"; (try k_sweep); (try dsimp only); (try k_fold))
  k_with "turnR" => (k_here; (with_reducible show wpAny _ _ (execs (Stmt.If (Expr.Compare (Expr.Name (Str.ofString "told") _) _ _ _) _ _ _ :: _) _) _ _ _); k_dflt (refine' turn3 ?kB ?kF ?kXB ?kX ?kTB ?kT ?kCD ?kDI ?ki ?kl ?k0 ?km ?kN ?kv ?kd0 ?kt0 ?kNw ?kk ?kK ?kn; (case kn => assumption); (case kB => k_asm); (case kF => k_asm); (case kXB => assumption); (case kX => k_asm); (case kTB => assumption); (case kT => k_asm); (case ki => assumption); (case kl => assumption); (case kCD => assumption); (case kDI => assumption); (case km => k_dflt rfl); (case kN => assumption); (case kv => k_dflt rfl); (case kd0 => k_dflt rfl); (case kt0 => k_dflt rfl); (case kNw => exact (news_cut (by k_asm) (List.forall_mem_cons.mpr ⟨by k_mem, List.forall_mem_cons.mpr ⟨by k_mem, List.forall_mem_cons.mpr ⟨by k_mem, List.forall_mem_cons.mpr ⟨by k_mem, List.forall_mem_cons.mpr ⟨by k_mem, List.forall_mem_cons.mpr ⟨by k_mem, List.forall_mem_cons.mpr ⟨by k_mem, List.forall_mem_cons.mpr ⟨by k_mem, List.forall_mem_cons.mpr ⟨by k_mem, List.forall_mem_nil _⟩⟩⟩⟩⟩⟩⟩⟩⟩))); (case k0 => omega); (case kk => omega); (case kK => omega)))
  refine wpAny_noRaise ?_
  conv in lawTurn.drop 0 => whnf
  conv in (occs := *) lawScope => all_goals whnf
  have hCD' : C ≠ D := Nat.ne_of_lt hCD
  have em : (fun y => if y = Str.ofString "deck" then some (Value.ref D) else m y) = m := by
    funext y
    by_cases e0 : y = Str.ofString "deck"
    · rw [if_pos e0, e0, hm]
    rw [if_neg e0]
  rw [← em] at F
  clear em hm
  (try k_fold)
  k_steps
  all_goals (try unfold autoParam)
  all_goals first | passes_own | contradiction | exact absurd rfl (by assumption)

end
end
end Mine
namespace Mine
local macro_rules | `(tactic| walk_at "padLaw20") => `(tactic| fail)
local macro_rules | `(tactic| walk_at "padLaw21") => `(tactic| fail)
local macro_rules | `(tactic| walk_at "padLaw22") => `(tactic| fail)
local macro_rules | `(tactic| walk_at "padLaw23") => `(tactic| fail)
local macro_rules | `(tactic| walk_at "padLaw24") => `(tactic| fail)
local macro_rules | `(tactic| walk_at "padLaw25") => `(tactic| fail)
local macro_rules | `(tactic| walk_at "padLaw26") => `(tactic| fail)
local macro_rules | `(tactic| walk_at "padLaw27") => `(tactic| fail)
local macro_rules | `(tactic| walk_at "padLaw28") => `(tactic| fail)
local macro_rules | `(tactic| walk_at "padLaw29") => `(tactic| fail)
local macro_rules | `(tactic| walk_at "padLaw210") => `(tactic| fail)
local macro_rules | `(tactic| walk_at "padLaw211") => `(tactic| fail)
example (w : World) : (PySem.Challenge.rw_nt0480_01 = PySem.Challenge.rw_nt0480_01 ∧ Mine.hd.heap_39 w.params = Mine.hd.heap_39 w.params) := by k_fill; exact ⟨rfl, rfl⟩
theorem turn_c {w : World} {mean : ExcName → Option Value} {mg mb : Str → Option Value} {L a : Addr} {cd : Value} {base h₀ : Heap} {m : Str → Option Value} {s : Shared} {Q : Flow → Shared → Prop} {E : Value → Shared → Prop} {D C I : Addr} {it : Obj} {n c : Nat} {vs : List Value} {ns : List Int} {k : Int} {tk : Tok}
    (B : Below callerA base [] h₀) (F : Fr h₀ L s.heap m) (XB : (hd.heap_39 w.params).In base) (X : (hd.heap_39 w.params).In h₀)
    (TB : Top hd.view_39 (looseW hd.view_39 [Str.ofString "LEAST_INT", Str.ofString "MOST_INT", Str.ofString "PostError", Str.ofString "MOST_REAL"]) mean mg mb base)
    (T : Top hd.view_39 (looseW hd.view_39 [Str.ofString "LEAST_INT", Str.ofString "MOST_INT", Str.ofString "PostError", Str.ofString "MOST_REAL"]) mean mg mb h₀)
    (hm : m (Str.ofString "deck") = some (.ref D)) (N : News h₀ L s.heap [(I, it), (D, listOf #[.ref C, .int k tk] n), (C, listOf vs.toArray c)]) (hCD : @LT.lt Nat _ C D) (hDI : @LT.lt Nat _ D I) (hi : IntsAre vs ns) (hlen : ns.length ≤ 24) (hk0 : 0 ≤ k) (hk1 : k ≤ 50)
    (hnext : ∀ h' tk' m' k' t', Fr h₀ L h' m' → m' (Str.ofString "deck") = some (.ref D) → News h₀ L h' [(I, it), (D, listOf #[.ref C, .int k' t'] n), (C, listOf vs.toArray c)] → 0 ≤ k' → k' ≤ k + 8 → Q .next { s with heap := h', toks := tk' }) :
    wpAny (model PySem.Challenge.rw_nt0480_01.row.prog w) (callerA.deeper (envOf (Str.ofString "law") lawScope L a cd)) (execs lawTurn (envOf (Str.ofString "law") lawScope L a cd)) Q E s :=
  turn0 B F XB X TB T hCD hDI hi hlen hk0 hm N hk1 (K := k + 8) (Int.le_refl _) hnext
local macro_rules | `(tactic| walk_at "execs cons") => `(tactic| k_extra "Law20")
set_option maxHeartbeats 8000000 in
theorem law_holds : PySem.Challenge.rw_nt0480_01.Holds := hd (by
  k_with_none
  k_with "Law20" => (k_here; (with_reducible show wpAny _ _ (execs (Stmt.Assign [Expr.Name (Str.ofString "number") _] _ _ :: _) _) _ _ _); k_dflt (refine' turn_c ?k1 ?k2 ?k3 ?k4 ?k5 ?k6 ?k7 ?k8 ?k9 ?kz ?ka ?kb ?kc ?kd ?_; (case k1 => assumption); (case k2 => k_asm); (case k3 => assumption); (case k4 => assumption); (case k5 => assumption); (case k6 => assumption); (case k7 => first | rfl | ((try dsimp only); exact (if_neg (by decide)).trans (by assumption))); (case k8 => exact news_cut (by k_asm) (List.forall_mem_cons.mpr ⟨.head _, List.forall_mem_cons.mpr ⟨by k_mem, List.forall_mem_cons.mpr ⟨by k_mem, List.forall_mem_nil _⟩⟩⟩)); (case k9 => omega); (case kz => omega); (case ka => assumption); (case kb => omega); (case kc => omega); (case kd => omega)); intro h' tk' m' k' t' F' hm' N' hk0' hk1'; (try k_sweep))
  w_strict (k_go0; (all_goals try k_fold); k_steps))
end Mine

set_option maxHeartbeats 8000000 in
theorem PySem.Challenge.cw_nt0480_01_holds : PySem.Challenge.rw_nt0480_01.Holds := by
  exact Mine.law_holds

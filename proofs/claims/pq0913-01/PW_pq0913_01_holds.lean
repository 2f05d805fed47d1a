import PyProof.Rows.All
import Wide.All
import OpenK.AllK
import Wide.FinOn
import Lean
import PySem.Challenge.RW_pq0913_01
set_option Elab.async false
section
open PySem PySem.W PyProof.Rows
namespace Mine
set_option maxRecDepth 100000 in
set_option maxHeartbeats 8000000 in
open_top hd for PySem.Challenge.rw_pq0913_01
end Mine
end
section
open PySem PySem.W PyProof.Rows
namespace Mine
open PySem.Builtin.Int (intBits)

noncomputable abbrev LS : List Str := (looseW hd.view_39 [Str.ofString "PostError", Str.ofString "MOST_REAL", Str.ofString "FINE"] ++
        List.map (fun x => x.name) (recsOf hd.view_39) ++
      List.map (fun x => x.fst) (litsOf hd.view_39) ++
    List.map (fun x => x.name)
      (clssOf hd.view_39 (looseW hd.view_39 [Str.ofString "PostError", Str.ofString "MOST_REAL", Str.ofString "FINE"])))

/-- a call of the text's def at f, from any def's frame: it gives back R -/
noncomputable def ClR (w : World) (mean : ExcName → Option Value) (mg mb : Str → Option Value) (f : Addr) (dep : Nat) (vs : List Value) (R : Tok → Value) : Prop :=
  ∀ (dp un : Nat) (gd : Option (List Code)) (cn : Str) (cs : Scope) (a : Addr) (ccd : Value) (cl : List (Str × Addr)) (outer : List Env) (A₀ : Around) (base h₀ : Heap) (L : Addr) (m : Str → Option Value) (news : List (Addr × Obj)) (s : Shared) (Q E : Value → Shared → Prop),
    Below A₀ base outer h₀ → Fr h₀ L s.heap m → (hd.heap_39 w.params).In h₀ → News h₀ L s.heap news → Top topProg LS mean mg mb h₀ → cs.kind = .function →
    dp + dep < recursionLimit → un + 8 * dep < cLine → CbRet h₀ L m news s Q R →
      wpAny (model PySem.Challenge.rw_pq0913_01.row.prog w) (ktrTop dp un gd cn cs L a ccd cl outer) (call (.ref f) vs) Q E s

theorem ClR.use {w : World} {mean : ExcName → Option Value} {mg mb : Str → Option Value} {f : Addr} {dep : Nat} {vs : List Value} {R : Tok → Value}
    {dp un : Nat} {gd : Option (List Code)} {cn : Str} {cs : Scope} {a : Addr} {ccd : Value} {cl : List (Str × Addr)} {outer : List Env} {A₀ : Around} {base h₀ : Heap} {L : Addr} {m : Str → Option Value} {news : List (Addr × Obj)} {s : Shared} {Q E : Value → Shared → Prop}
    (C : ClR w mean mg mb f dep vs R) (B : Below A₀ base outer h₀) (F : Fr h₀ L s.heap m) (X : (hd.heap_39 w.params).In h₀) (N : News h₀ L s.heap news) (T : Top topProg LS mean mg mb h₀) (hk : cs.kind = .function)
    (hd : dp + dep < recursionLimit) (hu : un + 8 * dep < cLine) (ret : CbRet h₀ L m news s Q R) :
    wpAny (model PySem.Challenge.rw_pq0913_01.row.prog w) (ktrTop dp un gd cn cs L a ccd cl outer) (call (.ref f) vs) Q E s :=
  C _ _ _ _ _ _ _ _ _ _ _ _ _ _ _ _ _ _ B F X N T hk hd hu ret

/-- nearest whole number of a quotient, halves away from 0 -/
noncomputable def divd (n d : Int) : Int :=
  if (n < 0) = (d < 0) then (2 * (n.natAbs : Int) + d.natAbs) / (2 * (d.natAbs : Int)) else -((2 * (n.natAbs : Int) + d.natAbs) / (2 * (d.natAbs : Int)))

theorem py_of_bits {x y : Int} {n : Nat} (h : intBits y ≤ n) (hn : n ≤ 9000) : PySem.Builtin.divisionGoesByPylong x y = false := by
  refine PyProof.noPylong_of_log2 ?_
  have h2 : intBits y ≤ 9000 := Nat.le_trans h hn
  unfold PySem.Builtin.Int.intBits at h2
  by_cases hy : (y == 0) = true
  · have : y = 0 := by simpa using hy
    subst this; decide
  · rw [if_neg hy] at h2; lia

theorem bits_le' {x : Int} {m n : Nat} (h : intBits x ≤ m) (hn : m ≤ n) : intBits x ≤ n := Nat.le_trans h hn
theorem divd_abs_le (n d : Int) : (divd n d).natAbs ≤ n.natAbs := by
  have key : (2 * (n.natAbs : Int) + d.natAbs) / (2 * (d.natAbs : Int)) ≤ n.natAbs ∧ 0 ≤ (2 * (n.natAbs : Int) + d.natAbs) / (2 * (d.natAbs : Int)) := by
    refine ⟨?_, Int.ediv_nonneg (by lia) (by lia)⟩
    by_cases h : d.natAbs = 0
    · rw [h]; simp
    · have hp : (0 : Int) < 2 * (d.natAbs : Int) := by lia
      refine Int.lt_add_one_iff.mp (Int.ediv_lt_of_lt_mul hp ?_)
      have : (n.natAbs : Int) * 1 ≤ n.natAbs * (d.natAbs : Int) := Int.mul_le_mul_of_nonneg_left (by lia) (by lia)
      have e : ((n.natAbs : Int) + 1) * (2 * (d.natAbs : Int)) = 2 * (n.natAbs * (d.natAbs : Int)) + 2 * d.natAbs := by
        rw [Int.add_mul, Int.one_mul, Int.mul_left_comm]
      lia
  unfold divd
  split <;> lia
theorem bits_divd {n d : Int} {m : Nat} (h : intBits n ≤ m) : intBits (divd n d) ≤ m := bits_of_natAbs_le (divd_abs_le n d) h
theorem bits_F36 : intBits 1000000000000000000000000000000000000 ≤ 120 := by decide
theorem bits_S50 : intBits 100000000000000000000000000000000000000000000000000 ≤ 168 := by decide
/-- a product of fine parts -/
noncomputable def prod (a b : Int) : Int := divd (a * b) 1000000000000000000000000000000000000
theorem bits_prod {a b : Int} {m n : Nat} (h : intBits a ≤ m) (h2 : intBits b ≤ n) : intBits (prod a b) ≤ m + n := bits_divd (bits_mul h h2)

theorem sub_rfl {α : Type} {l : List α} : ∀ p ∈ l, p ∈ l := fun _ h => h
theorem mh {α : Type} {a : α} {l : List α} : a ∈ a :: l := .head _
theorem mt {α : Type} {a b : α} {l : List α} (h : a ∈ l) : a ∈ b :: l := .tail _ h
theorem sub_c {α : Type} {a : α} {l l' : List α} (h : a ∈ l') (h2 : ∀ p ∈ l, p ∈ l') : ∀ p ∈ a :: l, p ∈ l' := List.forall_mem_cons.mpr ⟨h, h2⟩
theorem sub_tl {α : Type} {a : α} {l l' : List α} (h : ∀ p ∈ l, p ∈ l') : ∀ p ∈ l, p ∈ a :: l' := fun p hp => .tail _ (h p hp)
theorem news_sub {g : Heap} {L : Addr} {h : Heap} {l l' : List (Addr × Obj)} (N : News g L h l') (s : ∀ p ∈ l, p ∈ l') : News g L h l := fun p hp => N p (s p hp)
theorem news_c {g : Heap} {L : Addr} {h : Heap} {l l' : List (Addr × Obj)} {a : Addr × Obj} (N : News g L h l') (m : a ∈ l') (s : News g L h l) : News g L h (a :: l) := List.forall_mem_cons.mpr ⟨N _ m, s⟩
theorem all_c {α : Type} {P : α → Prop} {a : α} {l : List α} (h : P a) (h2 : ∀ p ∈ l, P p) : ∀ p ∈ a :: l, P p := List.forall_mem_cons.mpr ⟨h, h2⟩
theorem off_cons {a b : Addr} {o : Obj} {rest : List (Addr × Obj)} (h1 : a ≠ b) (h2 : ∀ p ∈ rest, p.1 ≠ b) : ∀ p ∈ (a, o) :: rest, p.1 ≠ b := List.forall_mem_cons.mpr ⟨h1, h2⟩
theorem off_nil {b : Addr} : ∀ p ∈ ([] : List (Addr × Obj)), p.1 ≠ b := fun _ h => nomatch h
end Mine
end
local macro_rules | `(tactic| walk_at $s:str) => do let k := Lean.Syntax.mkStrLit ("@" ++ s.getString); `(tactic| k_extra $k)
local macro_rules | `(tactic| bits_by_make) => `(tactic| k_extra "@bits")
local macro_rules | `(tactic| bits_fit) => `(tactic| k_extra "@bits_fit")
section
open PySem PySem.W PyProof.Rows
namespace Mine
open PySem.Builtin.Int (intBits)
set_option maxRecDepth 100000 in
set_option maxHeartbeats 8000000 in
theorem c_sc {w : World} {mean : ExcName → Option Value} {mg mb : Str → Option Value} : ClR w mean mg mb 117 4 [] (fun t => .int 100000000000000000000000000000000000000000000000000 t) := by
  unfold ClR
  k_with_none; w_top off
  k_with "@bits" => with_reducible assumption
  k_with "@bits" => ((with_reducible apply Mine.bits_divd); bits_by_make)
  k_with "@bits" => ((with_reducible apply Mine.bits_prod) <;> bits_by_make)
  k_with "@binaryOp FloorDiv int int" => (k_here; (with_reducible refine floordiv_int ?kbe ?_ (Or.inl ?kbp)); (case kbe => first | omega | (split <;> omega)); (case kbp => ((with_reducible apply Mine.py_of_bits); (bits_by_make); decide)))
  k_with "@callWith ref" => (k_here; k_dflt (first | (refine' callWith_K ?k1 ?k2 ?_; (case k1 => with_reducible assumption); (case k2 => k_is); k_whole) | (refine' callWith_K0 ?k1 ?k2 ?_; (case k1 => exact Frag.In.keeps (by with_reducible assumption) (Fr.keep (by with_reducible assumption))); (case k2 => k_is); k_whole)))
  k_with "@execs nil" => (with_reducible refine wpAny_execs_nil ?_)
  k_with "@bits_fit" => ((with_reducible apply Mine.bits_le'); (bits_by_make); decide)
  k_with "@bits" => with_reducible exact Mine.bits_F36
  k_with "@bits" => with_reducible exact Mine.bits_S50
  k_fill
  intro dp un gd cn cs a ccd cl outer A₀ base h₀ L m news s Q E B F X N T hk hdp hun hret
  refine wpAny_call ?_
  k_dflt cell_enter
  k_steps
  all_goals cb_end hret
end Mine
end
section
open PySem PySem.W PyProof.Rows
namespace Mine
open PySem.Builtin.Int (intBits)
/-! the odd series -/
noncomputable def odRun (sq : Int) : Nat → Int → Int → Int → Int
  | 0, f, _, _ => f
  | k + 1, f, p, n => if p = 0 then f else odRun sq k (f + divd p n) (prod p sq) (n + 2)
noncomputable def odSer (part : Int) : Int := odRun (prod part part) 120 0 part 1

theorem divd_bound {n d : Int} (hd : 0 < d) : (divd n d).natAbs * (2 * d.natAbs) ≤ 2 * n.natAbs + d.natAbs := by
  have key : (2 * (n.natAbs : Int) + d.natAbs) / (2 * (d.natAbs : Int)) * (2 * (d.natAbs : Int)) ≤ 2 * (n.natAbs : Int) + d.natAbs := Int.ediv_mul_le _ (by lia)
  have h0 : 0 ≤ (2 * (n.natAbs : Int) + d.natAbs) / (2 * (d.natAbs : Int)) := Int.ediv_nonneg (by lia) (by lia)
  have e : ((divd n d).natAbs : Int) = (2 * (n.natAbs : Int) + d.natAbs) / (2 * (d.natAbs : Int)) := by unfold divd; split <;> lia
  have : (((divd n d).natAbs * (2 * d.natAbs) : Nat) : Int) ≤ ((2 * n.natAbs + d.natAbs : Nat) : Int) := by
    simp only [Int.natCast_mul, Int.natCast_add]
    rw [e]; exact key
  exact Int.ofNat_le.mp this

/-- the square of at most a half is at most a quarter -/
theorem prod_sq_small {p : Int} (h : 2 * p.natAbs ≤ 1000000000000000000000000000000000000) : 4 * (prod p p).natAbs ≤ 1000000000000000000000000000000000000 := by
  have b := divd_bound (n := p * p) (d := 1000000000000000000000000000000000000) (by decide)
  rw [Int.natAbs_mul] at b
  have e : (1000000000000000000000000000000000000 : Int).natAbs = 1000000000000000000000000000000000000 := by decide
  rw [e] at b
  have h4 : 2 * p.natAbs * (2 * p.natAbs) ≤ 1000000000000000000000000000000000000 * 1000000000000000000000000000000000000 := Nat.mul_le_mul h h
  have e2 : 2 * p.natAbs * (2 * p.natAbs) = 4 * (p.natAbs * p.natAbs) := by rw [Nat.mul_mul_mul_comm]
  unfold prod
  generalize p.natAbs * p.natAbs = q at b e2
  rw [e2] at h4
  lia
/-- by at most a quarter: at most a half of it is left -/
theorem prod_small {p sq : Int} (h : 4 * sq.natAbs ≤ 1000000000000000000000000000000000000) : 2 * (prod p sq).natAbs ≤ p.natAbs := by
  have b := divd_bound (n := p * sq) (d := 1000000000000000000000000000000000000) (by decide)
  rw [Int.natAbs_mul] at b
  have e : (1000000000000000000000000000000000000 : Int).natAbs = 1000000000000000000000000000000000000 := by decide
  rw [e] at b
  have h4 : p.natAbs * (4 * sq.natAbs) ≤ p.natAbs * 1000000000000000000000000000000000000 := Nat.mul_le_mul_left _ h
  have e2 : p.natAbs * (4 * sq.natAbs) = 4 * (p.natAbs * sq.natAbs) := by rw [Nat.mul_left_comm]
  unfold prod
  generalize p.natAbs * sq.natAbs = q at b e2
  rw [e2] at h4
  lia

/-- the loop's word -/
structure OdOk (part f p n : Int) : Prop where
  ex : ∃ j : Nat, p.natAbs < 2 ^ j ∧ odRun (prod part part) j f p n = odSer part ∧ 0 < n ∧ n + 2 * j ≤ 241
  bits : intBits p ≤ 4000
theorem OdOk.start {part : Int} (h : 2 * part.natAbs ≤ 1000000000000000000000000000000000000) : OdOk part 0 part 1 := by
  have hs : part.natAbs < 2 ^ 120 := by
    have : (2 : Nat) ^ 120 = 1329227995784915872903807060280344576 := by decide
    rw [this]; lia
  exact ⟨⟨120, hs, rfl, by decide, by decide⟩, bits_le' (intBits_le hs) (by decide)⟩
theorem OdOk.step {part f p n : Int} (h0 : 2 * part.natAbs ≤ 1000000000000000000000000000000000000) (h : OdOk part f p n) (hp0 : p ≠ 0) : OdOk part (f + divd p n) (prod p (prod part part)) (n + 2) := by
  obtain ⟨⟨j, h1, h2, h3, h4⟩, h5⟩ := h
  have hs := prod_small (p := p) (prod_sq_small h0)
  refine ⟨?_, bits_of_natAbs_le (by lia) h5⟩
  cases j with
  | zero => simp at h1; lia
  | succ j =>
    refine ⟨j, ?_, ?_, by lia, by lia⟩
    · rw [Nat.pow_succ] at h1; lia
    · rw [← h2]; show _ = if p = 0 then f else _
      rw [if_neg hp0]
theorem OdOk.done {part f p n : Int} (h : OdOk part f p n) (hp0 : p = 0) : f = odSer part := by
  obtain ⟨⟨j, h1, h2, h3, h4⟩, h5⟩ := h
  rw [← h2]
  cases j with
  | zero => rfl
  | succ j => subst hp0; rfl
theorem od_less {part p : Int} (h0 : 2 * part.natAbs ≤ 1000000000000000000000000000000000000) (hp0 : p ≠ 0) : (prod p (prod part part)).natAbs < p.natAbs := by
  have hs := prod_small (p := p) (prod_sq_small h0)
  lia
theorem OdOk.npos {part f p n : Int} (h : OdOk part f p n) : 0 < n ∧ n ≤ 241 := by
  obtain ⟨⟨j, h1, h2, h3, h4⟩, h5⟩ := h; lia
end Mine
end
section
open PySem PySem.W PyProof.Rows
namespace Mine
open PySem.Builtin.Int (intBits)
/-! logarithms -/
noncomputable def lnTwo : Int := 2 * odSer (divd 1000000000000000000000000000000000000 3)
noncomputable def lgRun : Nat → Int → Int → Int → Int × Int × Int
  | 0, n, u, t => (n, u, t)
  | k + 1, n, u, t => if 3 * n > 4 * u then lgRun k n (u * 2) (t + 1) else if 3 * n < 2 * u then lgRun k (n * 2) u (t - 1) else (n, u, t)
noncomputable def flogOf (x : Int × Int × Int) : Int :=
  let f := 2 * odSer (divd ((x.1 - x.2.1) * 1000000000000000000000000000000000000) (x.1 + x.2.1))
  if x.2.2 = 0 then f else f + x.2.2 * lnTwo
noncomputable def flog (v : Int) : Int := flogOf (lgRun 64 v 1000000 0)

structure LgOk (v n u t : Int) : Prop where
  ex : ∃ j : Nat, j ≤ 64 ∧ 3 * n ≤ 4 * u * 2 ^ j ∧ 2 * u ≤ 3 * n * 2 ^ j ∧ lgRun j n u t = lgRun 64 v 1000000 0 ∧ 0 < n ∧ 0 < u ∧ n * 2 ^ j ≤ 2 ^ 130 ∧ u * 2 ^ j ≤ 2 ^ 130 ∧ t ≤ 64 - j ∧ (j : Int) - 64 ≤ t
theorem LgOk.start {v : Int} (h1 : 1 ≤ v) (h2 : v ≤ 2 ^ 60) : LgOk v v 1000000 0 := by
  refine ⟨64, by lia, ?_, ?_, rfl, by lia, by lia, ?_, by decide, by lia, by lia⟩
  · have : (2 : Int) ^ 64 = 18446744073709551616 := by decide
    rw [this]; lia
  · have : (2 : Int) ^ 64 = 18446744073709551616 := by decide
    rw [this]; lia
  · have : (2 : Int) ^ 64 = 18446744073709551616 := by decide
    have e : (2 : Int) ^ 130 = 2 ^ 60 * 18446744073709551616 * 64 := by decide
    rw [this, e]; lia
theorem LgOk.up {v n u t : Int} (h : LgOk v n u t) (hc : 4 * u < 3 * n) : LgOk v n (u * 2) (t + 1) := by
  obtain ⟨j, h0, h1, h2, h3, h4, h5, h6, h7, h8, h9⟩ := h
  cases j with
  | zero => simp at h1; lia
  | succ j =>
    have hp : (0 : Int) < 2 ^ j := Int.pow_pos (by decide)
    rw [Int.pow_succ] at h1 h2 h6 h7
    generalize hq : (2 : Int) ^ j = q at *
    have e1 : 4 * u * (q * 2) = 4 * (u * 2) * q := by rw [Int.mul_comm q 2, ← Int.mul_assoc, Int.mul_assoc 4 u 2]
    have e3 : n * (q * 2) = n * q * 2 := by rw [Int.mul_assoc]
    have e4 : u * (q * 2) = u * 2 * q := by rw [Int.mul_comm q 2, Int.mul_assoc]
    have hnq : n * 1 ≤ n * q := Int.mul_le_mul_of_nonneg_left hp (by lia)
    have e5 : 3 * n * q = 3 * (n * q) := Int.mul_assoc ..
    refine ⟨j, by lia, by rw [hq]; lia, by rw [hq, e5]; lia, ?_, h4, by lia, ?_, by rw [hq]; lia, by lia, by lia⟩
    · rw [← h3]; show _ = if 3 * n > 4 * u then _ else _
      rw [if_pos hc]
    · rw [hq]; have : 0 ≤ n * q := Int.mul_nonneg (by lia) (by lia)
      lia
theorem LgOk.dn {v n u t : Int} (h : LgOk v n u t) (hc : 3 * n < 2 * u) : LgOk v (n * 2) u (t - 1) := by
  obtain ⟨j, h0, h1, h2, h3, h4, h5, h6, h7, h8, h9⟩ := h
  cases j with
  | zero => simp at h2; lia
  | succ j =>
    have hp : (0 : Int) < 2 ^ j := Int.pow_pos (by decide)
    rw [Int.pow_succ] at h1 h2 h6 h7
    generalize hq : (2 : Int) ^ j = q at *
    have e2 : 3 * n * (q * 2) = 3 * (n * 2) * q := by rw [Int.mul_comm q 2, ← Int.mul_assoc, Int.mul_assoc 3 n 2]
    have e3 : n * (q * 2) = n * 2 * q := by rw [Int.mul_comm q 2, Int.mul_assoc]
    have e4 : u * (q * 2) = u * q * 2 := by rw [Int.mul_assoc]
    have huq : u * 1 ≤ u * q := Int.mul_le_mul_of_nonneg_left hp (by lia)
    have e5 : 4 * u * q = 4 * (u * q) := Int.mul_assoc ..
    refine ⟨j, by lia, by rw [hq, e5]; lia, by rw [hq]; lia, ?_, by lia, h5, by rw [hq]; lia, ?_, by lia, by lia⟩
    · rw [← h3]; show _ = if 3 * n > 4 * u then _ else if 3 * n < 2 * u then _ else _
      rw [if_neg (by lia), if_pos hc]
    · rw [hq]; have : 0 ≤ u * q := Int.mul_nonneg (by lia) (by lia)
      lia
theorem LgOk.done {v n u t : Int} (h : LgOk v n u t) (hc : ¬ 4 * u < 3 * n) (hd : ¬ 3 * n < 2 * u) : lgRun 64 v 1000000 0 = (n, u, t) := by
  obtain ⟨j, h0, h1, h2, h3, h4, h5, h6, h7, h8, h9⟩ := h
  rw [← h3]
  cases j with
  | zero => rfl
  | succ j => show (if 3 * n > 4 * u then _ else if 3 * n < 2 * u then _ else _) = _; rw [if_neg hc, if_neg hd]
theorem lt_of_mulpow {n : Int} {j : Nat} {b : Nat} (h : n * 2 ^ j ≤ 2 ^ b) (h0 : 0 < n) : n.natAbs < 2 ^ (b + 1) := by
  have hp : (0 : Int) < 2 ^ j := Int.pow_pos (by decide)
  have h1 : n * 1 ≤ n * 2 ^ j := Int.mul_le_mul_of_nonneg_left hp (by lia)
  have h2 : ((n.natAbs : Nat) : Int) < ((2 ^ (b + 1) : Nat) : Int) := by
    rw [Int.natCast_pow, Int.pow_succ]
    have : (0 : Int) < 2 ^ b := Int.pow_pos (by decide)
    have e : ((2 : Nat) : Int) = 2 := rfl
    rw [e]
    generalize (2 : Int) ^ b = z at *
    generalize n * 2 ^ j = y at *
    lia
  exact Int.ofNat_lt.mp h2
theorem LgOk.bn {v n u t : Int} (h : LgOk v n u t) : intBits n ≤ 131 := by
  obtain ⟨j, h0, h1, h2, h3, h4, h5, h6, h7, h8, h9⟩ := h
  exact intBits_le (lt_of_mulpow h6 h4)
theorem LgOk.bu {v n u t : Int} (h : LgOk v n u t) : intBits u ≤ 131 := by
  obtain ⟨j, h0, h1, h2, h3, h4, h5, h6, h7, h8, h9⟩ := h
  exact intBits_le (lt_of_mulpow h7 h5)
theorem LgOk.bt {v n u t : Int} (h : LgOk v n u t) : -64 ≤ t ∧ t ≤ 64 ∧ 0 < n ∧ 0 < u := by
  obtain ⟨j, h0, h1, h2, h3, h4, h5, h6, h7, h8, h9⟩ := h
  lia
theorem lg_part {n u : Int} (hn : 0 < n) (hu : 0 < u) (hc : ¬ 4 * u < 3 * n) (hd : ¬ 3 * n < 2 * u) :
    2 * (divd ((n - u) * 1000000000000000000000000000000000000) (n + u)).natAbs ≤ 1000000000000000000000000000000000000 := by
  have b := divd_bound (n := (n - u) * 1000000000000000000000000000000000000) (d := n + u) (by lia)
  rw [Int.natAbs_mul] at b
  have e : (1000000000000000000000000000000000000 : Int).natAbs = 1000000000000000000000000000000000000 := by decide
  rw [e] at b
  generalize hq : (divd ((n - u) * 1000000000000000000000000000000000000) (n + u)).natAbs = q at b
  have h5 : 5 * (n - u).natAbs ≤ (n + u).natAbs := by lia
  generalize hs : (n + u).natAbs = y at b h5
  have hy : 0 < y := by lia
  have key : 10 * q * y ≤ (2 * 1000000000000000000000000000000000000 + 5) * y := by
    have e1 : 10 * q * y = 5 * (q * (2 * y)) := by
      rw [Nat.mul_left_comm q 2 y, ← Nat.mul_assoc 5 2, Nat.mul_assoc]
    rw [e1, Nat.add_mul]
    lia
  have := Nat.le_of_mul_le_mul_right key hy
  lia
theorem LgOk.part {v n u t : Int} (h : LgOk v n u t) (hc : ¬ 4 * u < 3 * n) (hd : ¬ 3 * n < 2 * u) :
    2 * (divd ((n - u) * 1000000000000000000000000000000000000) (n + u)).natAbs ≤ 1000000000000000000000000000000000000 := lg_part h.bt.2.2.1 h.bt.2.2.2 hc hd
theorem LgOk.res0 {v n u t : Int} (h : LgOk v n u t) (hc : ¬ 4 * u < 3 * n) (hd : ¬ 3 * n < 2 * u) (h0 : t = 0) : 2 * odSer (divd ((n - u) * 1000000000000000000000000000000000000) (n + u)) = flog v := by
  rw [flog, h.done hc hd, flogOf]; simp [h0]
theorem LgOk.res1 {v n u t : Int} (h : LgOk v n u t) (hc : ¬ 4 * u < 3 * n) (hd : ¬ 3 * n < 2 * u) (h0 : t ≠ 0) : 2 * odSer (divd ((n - u) * 1000000000000000000000000000000000000) (n + u)) + t * lnTwo = flog v := by
  rw [flog, h.done hc hd, flogOf]; simp [h0]
theorem lg_less_up {n u : Int} (hu : 0 < u) (hc : 4 * u < 3 * n) : (3 * n - 4 * (u * 2)).toNat + (2 * (u * 2) - 3 * n).toNat < (3 * n - 4 * u).toNat + (2 * u - 3 * n).toNat := by lia
theorem lg_less_dn {n u : Int} (hn : 0 < n) (hc : 3 * n < 2 * u) : (3 * (n * 2) - 4 * u).toNat + (2 * u - 3 * (n * 2)).toNat < (3 * n - 4 * u).toNat + (2 * u - 3 * n).toNat := by lia
theorem LgOk.dn2 {v n u t : Int} (h : LgOk v n u t) (h4 : ¬ 4 * u < 3 * n) (hc : 3 * n < 2 * u) : LgOk v (n * 2) u (t - 1) ∧ ¬ 4 * u < 3 * (n * 2) := ⟨h.dn hc, by have := h.bt; lia⟩
theorem lnTwo_eq : lnTwo = 693147180559945309417232121458176564 := by decide +kernel
theorem bits_lnTwo : intBits lnTwo ≤ 120 := by rw [lnTwo_eq]; decide
end Mine
end
section
open PySem PySem.W PyProof.Rows
namespace Mine
open PySem.Builtin.Int (intBits)
/-! powers of e -/
noncomputable def fpRun (r : Int) : Nat → Int → Int → Int → Int
  | 0, f, _, _ => f
  | k + 1, f, p, c => if p = 0 then f else fpRun r k (f + divd (prod p r) c) (divd (prod p r) c) (c + 1)
noncomputable def fpSum (r : Int) : Int := fpRun r 130 1000000000000000000000000000000000000 1000000000000000000000000000000000000 1
noncomputable def fpTwos (n : Int) : Int := divd n lnTwo
noncomputable def fpRest (n : Int) : Int := n - fpTwos n * lnTwo
noncomputable def fpVal (n : Int) : Int := if fpTwos n ≥ 0 then divd (fpSum (fpRest n) * 2 ^ (fpTwos n).toNat) 1000000000000000000000000000000 else divd (fpSum (fpRest n)) (1000000000000000000000000000000 * 2 ^ (-fpTwos n).toNat)
/-- none: limitcheck -/
noncomputable def fpow (n : Int) : Option Int := if fpTwos n > 60 then none else if fpTwos n < -60 then some 0 else if (fpVal n).natAbs ≤ 1000000000000000000000 then some (fpVal n) else none

theorem divd_rest {n d : Int} (hd : 0 < d) : 2 * (n - divd n d * d).natAbs ≤ d.natAbs := by
  have a1 := Int.mul_ediv_add_emod (2 * (n.natAbs : Int) + d.natAbs) (2 * (d.natAbs : Int))
  have a2 := Int.emod_nonneg (2 * (n.natAbs : Int) + d.natAbs) (b := 2 * (d.natAbs : Int)) (by lia)
  have a3 := Int.emod_lt_of_pos (2 * (n.natAbs : Int) + d.natAbs) (b := 2 * (d.natAbs : Int)) (by lia)
  unfold divd
  have ed : (d.natAbs : Int) = d := by lia
  generalize hq : (2 * (n.natAbs : Int) + d.natAbs) / (2 * (d.natAbs : Int)) = q at *
  rw [ed] at a1 a2 a3
  have e1 : 2 * d * q = 2 * (q * d) := by rw [Int.mul_assoc, Int.mul_comm d q]
  rw [e1] at a1
  have en : ¬ d < 0 := by lia
  split
  · rename_i h
    have hn : ¬ n < 0 := by rw [h]; exact en
    lia
  · rename_i h
    have hn : n < 0 := by
      by_cases z : n < 0
      · exact z
      · exact absurd (propext ⟨fun x => absurd x z, fun x => absurd x en⟩) h
    rw [Int.neg_mul]
    lia
theorem fpRest_small (n : Int) : 2 * (fpRest n).natAbs ≤ 693147180559945309417232121458176564 := by
  have h := divd_rest (n := n) (d := lnTwo) (by rw [lnTwo_eq]; decide)
  have e : lnTwo.natAbs = 693147180559945309417232121458176564 := by rw [lnTwo_eq]; rfl
  rw [e] at h
  exact h
theorem fp_half {p r c : Int} (hr : 2 * r.natAbs ≤ 693147180559945309417232121458176564) (hc : 0 < c) : 2 * (divd (prod p r) c).natAbs ≤ p.natAbs := by
  have b := divd_bound (n := p * r) (d := 1000000000000000000000000000000000000) (by decide)
  rw [Int.natAbs_mul] at b
  have e : (1000000000000000000000000000000000000 : Int).natAbs = 1000000000000000000000000000000000000 := by decide
  rw [e] at b
  have h4 : p.natAbs * (2 * r.natAbs) ≤ p.natAbs * 693147180559945309417232121458176564 := Nat.mul_le_mul_left _ hr
  have e2 : p.natAbs * (2 * r.natAbs) = 2 * (p.natAbs * r.natAbs) := by rw [Nat.mul_left_comm]
  have h5 := divd_abs_le (prod p r) c
  unfold prod at h5 ⊢
  generalize p.natAbs * r.natAbs = q at b e2
  rw [e2] at h4
  lia
structure FpOk (r f p c : Int) : Prop where
  ex : ∃ j : Nat, p.natAbs < 2 ^ j ∧ fpRun r j f p c = fpSum r ∧ 0 < c ∧ c + j ≤ 131
  sz : f.natAbs + 2 * p.natAbs ≤ 3000000000000000000000000000000000000
theorem FpOk.start (r : Int) : FpOk r 1000000000000000000000000000000000000 1000000000000000000000000000000000000 1 := by
  refine ⟨⟨130, by decide, rfl, by decide, by decide⟩, by decide⟩
theorem fp_sz {a b c d B : Nat} (h : a ≤ b + c) (h2 : b + 2 * d ≤ B) (h3 : 2 * c ≤ d) : a + 2 * c ≤ B := by omega
theorem fp_half2 {a b d : Nat} (h : a < 2 ^ (b + 1)) (h3 : 2 * d ≤ a) : d < 2 ^ b := by
  rw [Nat.pow_succ] at h
  exact Nat.lt_of_mul_lt_mul_left (a := 2) (Nat.lt_of_le_of_lt h3 (by rw [Nat.mul_comm]; exact h))
theorem FpOk.step {r f p c : Int} (hr : 2 * r.natAbs ≤ 693147180559945309417232121458176564) (h : FpOk r f p c) (hp0 : p ≠ 0) : FpOk r (f + divd (prod p r) c) (divd (prod p r) c) (c + 1) := by
  obtain ⟨⟨j, h1, h2, h3, h4⟩, h5⟩ := h
  have hs := fp_half (p := p) hr h3
  refine ⟨?_, fp_sz (Int.natAbs_add_le _ _) h5 hs⟩
  clear h5 hr
  cases j with
  | zero => exact absurd (Int.natAbs_eq_zero.mp (Nat.lt_one_iff.mp h1)) hp0
  | succ j =>
    refine ⟨j, fp_half2 h1 hs, ?_, by clear h1 h2 h4 hs; omega, by clear h1 h2 h3 hs; omega⟩
    rw [← h2]; show _ = if p = 0 then f else _
    rw [if_neg hp0]
theorem FpOk.done {r f p c : Int} (h : FpOk r f p c) (hp0 : p = 0) : f = fpSum r := by
  obtain ⟨⟨j, h1, h2, h3, h4⟩, h5⟩ := h
  rw [← h2]
  cases j with
  | zero => rfl
  | succ j => subst hp0; rfl
theorem fp_less {r p c f : Int} (hr : 2 * r.natAbs ≤ 693147180559945309417232121458176564) (h : FpOk r f p c) (hp0 : p ≠ 0) : (divd (prod p r) c).natAbs < p.natAbs := by
  obtain ⟨⟨j, h1, h2, h3, h4⟩, h5⟩ := h
  have hs := fp_half (p := p) hr h3
  lia
theorem FpOk.cpos {r f p c : Int} (h : FpOk r f p c) : 0 < c ∧ c ≤ 131 := by
  obtain ⟨⟨j, h1, h2, h3, h4⟩, h5⟩ := h; lia
theorem bits_of_small {x : Int} (h : x.natAbs ≤ 3000000000000000000000000000000000000) : intBits x ≤ 130 := intBits_le (Nat.lt_of_le_of_lt h (by decide))
theorem FpOk.bp {r f p c : Int} (h : FpOk r f p c) : intBits p ≤ 130 := bits_of_small (by have := h.sz; lia)
theorem FpOk.bf {r f p c : Int} (h : FpOk r f p c) : intBits f ≤ 130 := bits_of_small (by have := h.sz; lia)
theorem bits_fpRest (n : Int) : intBits (n - fpTwos n * lnTwo) ≤ 130 := bits_of_small (by have := fpRest_small n; unfold fpRest at this; lia)
theorem fp_up {n f p c : Int} (h : FpOk (n - divd n lnTwo * lnTwo) f p c) (hp : p = 0) (ht : 0 ≤ divd n lnTwo) : divd (f * 2 ^ (divd n lnTwo).toNat) (Int.fdiv 1000000000000000000000000000000000000 1000000) = fpVal n := by
  rw [h.done hp, fpVal, fpRest, fpTwos, if_pos ht]; rfl
theorem fp_dn {n f p c : Int} (h : FpOk (n - divd n lnTwo * lnTwo) f p c) (hp : p = 0) (ht : ¬ 0 ≤ divd n lnTwo) : divd f (Int.fdiv 1000000000000000000000000000000000000 1000000 * 2 ^ (-divd n lnTwo).toNat) = fpVal n := by
  rw [h.done hp, fpVal, fpRest, fpTwos, if_neg ht]; rfl
theorem scale_ne (k : Nat) : Int.fdiv 1000000000000000000000000000000000000 1000000 * 2 ^ k ≠ 0 := by
  have hp : (0 : Int) < 2 ^ k := Int.pow_pos (by decide)
  have : (0 : Int) < Int.fdiv 1000000000000000000000000000000000000 1000000 * 2 ^ k := Int.mul_pos (by decide) hp
  lia
theorem bits_pow2 (k : Nat) : intBits ((2 : Int) ^ k) ≤ k + 1 := intBits_le (by rw [Int.natAbs_pow, Nat.pow_succ]; have : 0 < (2 : Nat) ^ k := Nat.two_pow_pos k; show 2 ^ k < 2 ^ k * 2; lia)
theorem bits_scale {k : Nat} (h : k ≤ 60) : intBits (Int.fdiv 1000000000000000000000000000000000000 1000000 * 2 ^ k) ≤ 8000 :=
  Nat.le_trans (bits_mul (show intBits (Int.fdiv 1000000000000000000000000000000000000 1000000) ≤ 120 from by decide) (bits_pow2 k)) (by lia)
end Mine
end
section
open PySem PySem.W PyProof.Rows
namespace Mine
open PySem.Builtin.Int (intBits)
/-! the law's own powers -/
noncomputable def gwRun (left : Int) : Nat → Int → Int → Int → Int
  | 0, f, _, _ => f
  | j + 1, f, t, k => if 0 < t then gwRun left j (f + t) ((t * left) / (100000000000000000000000000000000000000000000000000 * (k + 1))) (k + 1) else f
noncomputable def gwSum (left : Int) : Int := gwRun left 170 0 100000000000000000000000000000000000000000000000000 0
noncomputable def sqIt : Nat → Int → Int
  | 0, f => f
  | n + 1, f => (sqIt n f * sqIt n f) / 100000000000000000000000000000000000000000000000000
noncomputable def grownP (part : Int) : Int := sqIt 8 (gwSum ((part.natAbs : Int) / 256))
noncomputable def grown (part : Int) : Int := if 0 ≤ part then grownP part else 100000000000000000000000000000000000000000000000000 * 100000000000000000000000000000000000000000000000000 / grownP part

structure GwOk (left f t k : Int) : Prop where
  ex : ∃ j : Nat, t.natAbs < 2 ^ j ∧ gwRun left j f t k = gwSum left ∧ k + j ≤ 170
  t0 : 0 ≤ t
  f0 : 0 ≤ f
  k0 : 0 ≤ k
  up : f + 2 * t ≤ 200000000000000000000000000000000000000000000000000
  lo : 100000000000000000000000000000000000000000000000000 ≤ f + t
theorem GwOk.start (left : Int) : GwOk left 0 100000000000000000000000000000000000000000000000000 0 :=
  ⟨⟨170, by decide, rfl, by decide⟩, by decide, by decide, by decide, by decide, by decide⟩
theorem gw_half {left t k : Int} (hl0 : 0 ≤ left) (hl : 2 * left ≤ 100000000000000000000000000000000000000000000000000) (ht : 0 ≤ t) (hk : 0 ≤ k) :
    0 ≤ (t * left) / (100000000000000000000000000000000000000000000000000 * (k + 1)) ∧ 2 * ((t * left) / (100000000000000000000000000000000000000000000000000 * (k + 1))) ≤ t := by
  have hd : (0 : Int) < 100000000000000000000000000000000000000000000000000 * (k + 1) := Int.mul_pos (by decide) (by lia)
  have h0 : 0 ≤ t * left := Int.mul_nonneg ht hl0
  have hq0 : 0 ≤ (t * left) / (100000000000000000000000000000000000000000000000000 * (k + 1)) := Int.ediv_nonneg h0 (by lia)
  refine ⟨hq0, ?_⟩
  have h1 := Int.ediv_mul_le (t * left) (b := 100000000000000000000000000000000000000000000000000 * (k + 1)) (by lia)
  generalize (t * left) / (100000000000000000000000000000000000000000000000000 * (k + 1)) = q at *
  have h2 : t * (2 * left) ≤ t * 100000000000000000000000000000000000000000000000000 := Int.mul_le_mul_of_nonneg_left hl ht
  have h3 : q * (100000000000000000000000000000000000000000000000000 * 1) ≤ q * (100000000000000000000000000000000000000000000000000 * (k + 1)) := Int.mul_le_mul_of_nonneg_left (by lia) hq0
  have e1 : t * (2 * left) = 2 * (t * left) := by rw [Int.mul_left_comm]
  lia
theorem GwOk.step {left f t k : Int} (hl0 : 0 ≤ left) (hl : 2 * left ≤ 100000000000000000000000000000000000000000000000000) (h : GwOk left f t k) (hp : 0 < t) :
    GwOk left (f + t) ((t * left).fdiv (100000000000000000000000000000000000000000000000000 * (k + 1))) (k + 1) := by
  obtain ⟨⟨j, h1, h2, h3⟩, h4, h5, h6, h7, h8⟩ := h
  have hs := gw_half hl0 hl h4 h6
  have hd : (0 : Int) ≤ 100000000000000000000000000000000000000000000000000 * (k + 1) := Int.mul_nonneg (by decide) (by lia)
  rw [Int.fdiv_eq_ediv_of_nonneg _ hd]
  refine ⟨?_, hs.1, by lia, by lia, by lia, by lia⟩
  cases j with
  | zero => simp at h1; lia
  | succ j =>
    refine ⟨j, ?_, ?_, by lia⟩
    · rw [Nat.pow_succ] at h1; lia
    · rw [← h2]; show _ = if 0 < t then _ else f
      rw [if_pos hp]
theorem GwOk.less {left f t k : Int} (hl0 : 0 ≤ left) (hl : 2 * left ≤ 100000000000000000000000000000000000000000000000000) (h : GwOk left f t k) (hp : 0 < t) :
    ((t * left).fdiv (100000000000000000000000000000000000000000000000000 * (k + 1))).toNat < t.toNat := by
  have hs := gw_half hl0 hl h.t0 h.k0
  have hd : (0 : Int) ≤ 100000000000000000000000000000000000000000000000000 * (k + 1) := Int.mul_nonneg (by decide) (by have := h.k0; lia)
  rw [Int.fdiv_eq_ediv_of_nonneg _ hd]
  lia
theorem GwOk.done {left f t k : Int} (h : GwOk left f t k) (hp : ¬ 0 < t) : f = gwSum left ∧ 100000000000000000000000000000000000000000000000000 ≤ f ∧ f ≤ 200000000000000000000000000000000000000000000000000 := by
  obtain ⟨⟨j, h1, h2, h3⟩, h4, h5, h6, h7, h8⟩ := h
  refine ⟨?_, by lia, by lia⟩
  rw [← h2]
  cases j with
  | zero => rfl
  | succ j => show _ = if 0 < t then _ else f; rw [if_neg hp]
theorem GwOk.kb {left f t k : Int} (h : GwOk left f t k) : 0 ≤ k ∧ k ≤ 170 := by
  obtain ⟨⟨j, h1, h2, h3⟩, h4, h5, h6, h7, h8⟩ := h; lia
theorem bits_of_s {x : Int} (h : x.natAbs ≤ 200000000000000000000000000000000000000000000000000) : intBits x ≤ 170 := intBits_le (Nat.lt_of_le_of_lt h (by decide))
theorem GwOk.bt {left f t k : Int} (h : GwOk left f t k) : intBits t ≤ 170 := bits_of_s (by have := h.t0; have := h.f0; have := h.up; lia)
/-- what is known of a state between the squarings -/
theorem sq_lo {f : Int} (h : 100000000000000000000000000000000000000000000000000 ≤ f) : ∀ n, 100000000000000000000000000000000000000000000000000 ≤ sqIt n f
  | 0 => h
  | n + 1 => by
    have ih := sq_lo h n
    show _ ≤ (sqIt n f * sqIt n f) / 100000000000000000000000000000000000000000000000000
    refine (Int.le_ediv_iff_mul_le (by decide)).mpr ?_
    exact Int.mul_le_mul ih ih (by decide) (by lia)
theorem sq_up {f : Int} (h0 : 100000000000000000000000000000000000000000000000000 ≤ f) (h : f ≤ 200000000000000000000000000000000000000000000000000) : ∀ n, sqIt n f ≤ 100000000000000000000000000000000000000000000000000 * 2 ^ (2 ^ n)
  | 0 => by rw [Nat.pow_zero, Int.pow_succ, Int.pow_zero]; show f ≤ _; lia
  | n + 1 => by
    have ih := sq_up h0 h n
    have lo := sq_lo h0 n
    show (sqIt n f * sqIt n f) / 100000000000000000000000000000000000000000000000000 ≤ _
    rw [Nat.pow_succ, Int.pow_mul]
    generalize (2 : Int) ^ 2 ^ n = P at *
    have h2 : sqIt n f * sqIt n f ≤ (100000000000000000000000000000000000000000000000000 * P) * (100000000000000000000000000000000000000000000000000 * P) := Int.mul_le_mul ih ih (by lia) (by lia)
    refine Int.le_trans (Int.ediv_le_ediv (by decide) h2) ?_
    have e : (100000000000000000000000000000000000000000000000000 * P) * (100000000000000000000000000000000000000000000000000 * P) = (100000000000000000000000000000000000000000000000000 * (P * P)) * 100000000000000000000000000000000000000000000000000 := by
      ac_rfl
    rw [e, Int.mul_ediv_cancel _ (by decide), Int.pow_succ, Int.pow_succ, Int.pow_zero, Int.one_mul]
    exact Int.le_refl _
structure SqOk (left : Int) (n : Nat) (f : Int) : Prop where
  is : f = sqIt n (gwSum left)
  lo : 100000000000000000000000000000000000000000000000000 ≤ gwSum left
  up : gwSum left ≤ 200000000000000000000000000000000000000000000000000
theorem SqOk.start {left f t k : Int} (h : GwOk left f t k) (hp : ¬ 0 < t) : SqOk left 0 f := by
  obtain ⟨h1, h2, h3⟩ := h.done hp
  exact ⟨h1, h1 ▸ h2, h1 ▸ h3⟩
theorem SqOk.step {left f : Int} {n : Nat} (h : SqOk left n f) : SqOk left (n + 1) ((f * f).fdiv 100000000000000000000000000000000000000000000000000) :=
  ⟨by rw [Int.fdiv_eq_ediv_of_nonneg _ (by decide), h.is]; rfl, h.lo, h.up⟩
theorem SqOk.pos {left f : Int} {n : Nat} (h : SqOk left n f) : 100000000000000000000000000000000000000000000000000 ≤ f := by rw [h.is]; exact sq_lo h.lo n
theorem SqOk.bits {left f : Int} {n : Nat} (hn : n ≤ 8) (h : SqOk left n f) : intBits f ≤ 500 := by
  have h1 := h.pos
  have h2 : f ≤ 100000000000000000000000000000000000000000000000000 * 2 ^ (2 ^ n) := by rw [h.is]; exact sq_up h.lo h.up n
  have h3 : (2 : Int) ^ (2 ^ n) ≤ 2 ^ 256 := by
    have : (2 : Nat) ^ (2 ^ n) ≤ 2 ^ 256 := Nat.pow_le_pow_right (by decide) (Nat.pow_le_pow_right (n := 2) (by decide) hn)
    have e := Int.ofNat_le.mpr this
    rw [Int.natCast_pow, Int.natCast_pow] at e; exact e
  have h4 : f ≤ 100000000000000000000000000000000000000000000000000 * 2 ^ 256 := Int.le_trans h2 (Int.mul_le_mul_of_nonneg_left h3 (by decide))
  refine Nat.le_trans (bits_of_natAbs_le (b := 100000000000000000000000000000000000000000000000000 * 2 ^ 256) ?_ (bits_mul bits_S50 (bits_pow2 256))) (by decide)
  generalize (100000000000000000000000000000000000000000000000000 : Int) * 2 ^ 256 = z at *
  lia
theorem SqOk.bits2 {left f : Int} {n : Nat} (h : SqOk left n f) (hn : n ≤ 8) : intBits f ≤ 500 := h.bits hn
theorem SqOk.res {part f : Int} (hp : 0 ≤ part) (h : SqOk ((part.natAbs : Int) / 256) 8 f) : f = grown part := by
  rw [grown, if_pos hp, grownP, h.is]
theorem SqOk.resn {part f : Int} (hp : ¬ 0 ≤ part) (h : SqOk ((part.natAbs : Int) / 256) 8 f) :
    (100000000000000000000000000000000000000000000000000 * 100000000000000000000000000000000000000000000000000 : Int).fdiv f = grown part := by
  rw [grown, if_neg hp, grownP, Int.fdiv_eq_ediv_of_nonneg _ (by have := h.pos; lia), h.is]
theorem gw_left (part : Int) : (if part < 0 then -part else part).fdiv 256 = (part.natAbs : Int) / 256 := by
  have : (if part < 0 then -part else part) = (part.natAbs : Int) := by split <;> lia
  rw [this, Int.fdiv_eq_ediv_of_nonneg _ (by decide)]
theorem gw_leftb {part : Int} (h : part.natAbs ≤ 12800000000000000000000000000000000000000000000000000) : 0 ≤ (part.natAbs : Int) / 256 ∧ 2 * ((part.natAbs : Int) / 256) ≤ 100000000000000000000000000000000000000000000000000 := by lia
theorem sq_floordiv {prog : Program} {w : World} {A : Around} {E : Value → Shared → Prop} {s : Shared} {left f : Int} {n : Nat} {t u : Tok} {Q : Value → Shared → Prop} (h : SqOk left n f)
    (hq : ∀ f', SqOk left (n + 1) f' → Q (.int f' s.toks) { s with toks := s.toks + 1 }) :
    wpAny (model prog w) A (binaryOp .FloorDiv (.int (f * f) t) (.int 100000000000000000000000000000000000000000000000000 u)) Q E s :=
  floordiv_int (by decide) (hq _ h.step) (Or.inl (py_of_bits bits_S50 (by decide)))
theorem SqOk.res2 {part f : Int} {n : Nat} (hp : 0 ≤ part) (h : SqOk ((if part < 0 then -part else part).fdiv 256) n f) (hn : n = 8) : f = grown part := by
  subst hn; rw [gw_left] at h; exact h.res hp
theorem SqOk.resn2 {part f : Int} {n : Nat} (hp : ¬ 0 ≤ part) (h : SqOk ((if part < 0 then -part else part).fdiv 256) n f) (hn : n = 8) :
    (100000000000000000000000000000000000000000000000000 * 100000000000000000000000000000000000000000000000000 : Int).fdiv f = grown part := by
  subst hn; rw [gw_left] at h; exact h.resn hp
end Mine
end
section
open PySem PySem.W PyProof.Rows
namespace Mine
open PySem.Builtin.Int (intBits)
section
set_option maxRecDepth 100000 in
set_option maxHeartbeats 8000000 in
theorem c_gw {w : World} {mean : ExcName → Option Value} {mg mb : Str → Option Value} (x : Int) (tx : Tok) (hx : x.natAbs ≤ 12800000000000000000000000000000000000000000000000000) (hxb : intBits ((if x < 0 then -x else x).fdiv 256) ≤ 200) : ClR w mean mg mb 145 6 [.int x tx] (fun t => .int (grown x) t) := by
  unfold ClR
  k_with_none; w_top off
  k_with "@bits" => with_reducible assumption
  k_with "@bits" => ((with_reducible apply Mine.bits_divd); bits_by_make)
  k_with "@bits" => ((with_reducible apply Mine.bits_prod) <;> bits_by_make)
  k_with "@binaryOp FloorDiv int int" => (k_here; (with_reducible refine floordiv_int ?kbe ?_ (Or.inl ?kbp)); (case kbe => first | omega | (split <;> omega) | k_dflt (have q9 := Mine.GwOk.kb (by assumption); omega) | k_dflt (have q9 := Mine.SqOk.pos (by assumption); omega)); (case kbp => ((with_reducible apply Mine.py_of_bits); (bits_by_make); decide)))
  k_with "@callWith ref" => (k_here; k_dflt (first | (refine' callWith_K ?k1 ?k2 ?_; (case k1 => with_reducible assumption); (case k2 => k_is); k_whole) | (refine' callWith_K0 ?k1 ?k2 ?_; (case k1 => exact Frag.In.keeps (by with_reducible assumption) (Fr.keep (by with_reducible assumption))); (case k2 => k_is); k_whole)))
  k_with "@execs nil" => (with_reducible refine wpAny_execs_nil ?_)
  k_with "@bits_fit" => ((with_reducible apply Mine.bits_le'); (bits_by_make); decide)
  k_with "@bits" => with_reducible exact Mine.bits_F36
  k_with "@bits" => with_reducible exact Mine.bits_S50
  k_with "@call ref" => (k_here; (with_reducible show wpAny _ _ (PySem.call (Value.ref 117) _) _ _ _); k_dflt (show wpAny _ _ (PySem.call (Value.ref 117) []) _ _ _); k_dflt (refine' ClR.use (c_sc) ?k1 ?k2 ?k3 ?k4 ?k5 ?kK ?kd ?ku ?_; (case k1 => k_asm); (case k2 => k_asm); (case k3 => k_asm); (case k4 => k_asm); (case k5 => k_asm); (case kK => first | exact rfl | assumption); (case kd => ktr_room); (case ku => ktr_units)); intro t9 h9 tk9 F9 N9; (try dsimp only); (try k_fold))
  k_with "@bits" => k_dflt (have q9 := GwOk.kb (by assumption); exact PySem.intBits_le_64 (by omega) (by omega))
  k_with "@bits" => k_dflt (exact GwOk.bt (by assumption))
  k_with "@bits" => k_dflt (exact SqOk.bits2 (by assumption) (by decide))
  k_with "@bits" => k_dflt (exact SqOk.bits2 (SqOk.start (by assumption) (by assumption)) (by decide))
  k_with "@bits" => with_reducible assumption
  k_with "@binaryOp FloorDiv int int" => (k_here; (with_reducible show wpAny _ _ (binaryOp Operator.FloorDiv (Value.int (_ * _) _) (Value.int 100000000000000000000000000000000000000000000000000 _)) _ _ _); k_dflt (refine' Mine.sq_floordiv ?q1 ?_; (case q1 => first | assumption | exact Mine.SqOk.start (by assumption) (by assumption)); k_whole); intro f9 hf9)
  k_with "@bits" => k_dflt (exact SqOk.bits2 (by assumption) (by omega))
  k_fill
  intro dp un gd cn cs a ccd cl outer A₀ base h₀ L m news s Q E B F X N T hk hdp hun hret
  have hl := gw_leftb hx
  rw [← gw_left] at hl
  have hstart := GwOk.start ((if x < 0 then -x else x).fdiv 256)
  refine wpAny_call ?_
  k_dflt cell_enter
  k_with "exec While Compare cons nil" => (k_while (fun _ f t k => GwOk ((if x < 0 then -x else x).fdiv 256) f t k) (fun _ f t k => t.toNat) "found" "term" "k")
  k_with "@exec For Name Call cons nil" => kpr_for
  k_with "@pyIter ref" => k_state_short (fun pre f => SqOk ((if x < 0 then -x else x).fdiv 256) pre.length f) "found"
  k_with "state" => first | assumption | exact GwOk.step hl.1 hl.2 (by assumption) (by assumption) | k_dflt (exact SqOk.start (by assumption) (by assumption)) | k_dflt (rw [List.length_append]; assumption)
  k_with "measure" => exact GwOk.less hl.1 hl.2 (by assumption) (by assumption)
  k_with "tree" => first | exact SqOk.res2 (by assumption) (by assumption) rfl | exact SqOk.resn2 (by assumption) (by assumption) rfl
  k_steps
  all_goals cb_end hret
end
end Mine
end
section
open PySem PySem.W PyProof.Rows
namespace Mine
open PySem.Builtin.Int (intBits)
/-! the law's own logarithm -/
theorem gwRun_bounds {left : Int} (hl0 : 0 ≤ left) (hl : 2 * left ≤ 100000000000000000000000000000000000000000000000000) : ∀ (j : Nat) (f t k : Int), t.natAbs < 2 ^ j → 0 ≤ t → 0 ≤ k → f + 2 * t ≤ 200000000000000000000000000000000000000000000000000 →
    100000000000000000000000000000000000000000000000000 ≤ f + t → 100000000000000000000000000000000000000000000000000 ≤ gwRun left j f t k ∧ gwRun left j f t k ≤ 200000000000000000000000000000000000000000000000000
  | 0, f, t, k, h1, h2, _, h4, h5 => by
    simp at h1; subst h1
    show _ ≤ f ∧ f ≤ _
    lia
  | j + 1, f, t, k, h1, h2, h3, h4, h5 => by
    show _ ≤ (if 0 < t then _ else f) ∧ (if 0 < t then _ else f) ≤ _
    by_cases hp : 0 < t
    · rw [if_pos hp]
      have hs := gw_half hl0 hl h2 h3
      exact gwRun_bounds hl0 hl j _ _ _ (by rw [Nat.pow_succ] at h1; lia) hs.1 (by lia) (by lia) (by lia)
    · rw [if_neg hp]; lia
theorem gwSum_bounds {part : Int} (h : part.natAbs ≤ 12800000000000000000000000000000000000000000000000000) :
    100000000000000000000000000000000000000000000000000 ≤ gwSum ((part.natAbs : Int) / 256) ∧ gwSum ((part.natAbs : Int) / 256) ≤ 200000000000000000000000000000000000000000000000000 :=
  gwRun_bounds (gw_leftb h).1 (gw_leftb h).2 170 _ _ _ (by decide) (by decide) (by decide) (by decide) (by decide)
theorem grownP_sq {part : Int} (h : part.natAbs ≤ 12800000000000000000000000000000000000000000000000000) : SqOk ((part.natAbs : Int) / 256) 8 (grownP part) := ⟨rfl, (gwSum_bounds h).1, (gwSum_bounds h).2⟩
theorem grown_facts {part : Int} (h : part.natAbs ≤ 12800000000000000000000000000000000000000000000000000) : 0 ≤ grown part ∧ intBits (grown part) ≤ 500 := by
  have s := grownP_sq h
  have h1 := s.pos
  have h2 := s.bits2 (by decide)
  unfold grown
  split
  · exact ⟨by lia, h2⟩
  · refine ⟨Int.ediv_nonneg (by decide) (by lia), ?_⟩
    refine Nat.le_trans (?_ : _ ≤ 168 + 168) (by decide)
    have := bits_fdiv (b := grownP part) (bits_mul bits_S50 bits_S50)
    rw [Int.fdiv_eq_ediv_of_nonneg _ (by lia)] at this
    exact this
noncomputable def llRun : Nat → Int → Int → Int
  | 0, _, g => g
  | k + 1, l, g => if l > 1400000 then llRun k (l.fdiv 2) (g + (7 * 100000000000000000000000000000000000000000000000000 : Int).fdiv 10) else if l < 700000 then llRun k (2 * l) (g - (7 * 100000000000000000000000000000000000000000000000000 : Int).fdiv 10) else g
noncomputable def llGoal (v : Int) : Int := (v * 100000000000000000000000000000000000000000000000000).fdiv 1000000
noncomputable def llIt (v : Int) : Nat → Int
  | 0 => llRun 64 v 0
  | n + 1 => llIt v n + (2 * 100000000000000000000000000000000000000000000000000 * (llGoal v - grown (llIt v n))).fdiv (llGoal v + grown (llIt v n))
noncomputable def llog (v : Int) : Int := llIt v 6
noncomputable def LlFine (v : Int) : Prop := ∀ i, i < 6 → (llIt v i).natAbs ≤ 12800000000000000000000000000000000000000000000000000
structure LlOk (v l g : Int) : Prop where
  ex : ∃ j : Nat, llRun j l g = llRun 64 v 0 ∧ l ≤ 1400000 * 2 ^ j ∧ 700000 ≤ l * 2 ^ j
  pos : 0 < l
theorem LlOk.start {v : Int} (h1 : 1 ≤ v) (h2 : v ≤ 2 ^ 60) : LlOk v v 0 := by
  have : (2 : Int) ^ 64 = 18446744073709551616 := by decide
  exact ⟨⟨64, rfl, by rw [this]; lia, by rw [this]; lia⟩, by lia⟩
theorem LlOk.up {v l g : Int} (h : LlOk v l g) (hc : 1400000 < l) : LlOk v (l.fdiv 2) (g + (7 * 100000000000000000000000000000000000000000000000000 : Int).fdiv 10) := by
  obtain ⟨⟨j, h1, h2, h3⟩, h4⟩ := h
  cases j with
  | zero => simp at h2; lia
  | succ j =>
    have hp : (0 : Int) < 2 ^ j := Int.pow_pos (by decide)
    refine ⟨⟨j, ?_, ?_, ?_⟩, by rw [Int.fdiv_eq_ediv_of_nonneg _ (by decide)]; lia⟩
    · rw [← h1]; show _ = if l > 1400000 then _ else _; rw [if_pos hc]
    · rw [Int.fdiv_eq_ediv_of_nonneg _ (by decide)]; rw [Int.pow_succ] at h2; generalize (2 : Int) ^ j = q at *; lia
    · rw [Int.fdiv_eq_ediv_of_nonneg _ (by decide)]
      have a : 700000 ≤ l / 2 := by lia
      have : l / 2 * 1 ≤ l / 2 * 2 ^ j := Int.mul_le_mul_of_nonneg_left hp (by lia)
      lia
theorem LlOk.dn {v l g : Int} (h : LlOk v l g ∧ l ≤ 1400000) (hc : l < 700000) : LlOk v (2 * l) (g - (7 * 100000000000000000000000000000000000000000000000000 : Int).fdiv 10) ∧ 2 * l ≤ 1400000 := by
  obtain ⟨⟨⟨j, h1, h2, h3⟩, h4⟩, h5⟩ := h
  cases j with
  | zero => simp at h3; lia
  | succ j =>
    have hp : (0 : Int) < 2 ^ j := Int.pow_pos (by decide)
    refine ⟨⟨⟨j, ?_, ?_, ?_⟩, by lia⟩, by lia⟩
    · rw [← h1]; show _ = if l > 1400000 then _ else if l < 700000 then _ else _; rw [if_neg (by lia), if_pos hc]
    · have : 1400000 * 1 ≤ 1400000 * (2 : Int) ^ j := Int.mul_le_mul_of_nonneg_left hp (by lia)
      lia
    · rw [Int.pow_succ, Int.mul_comm (2 ^ j) 2, ← Int.mul_assoc, Int.mul_comm l 2] at h3; exact h3
theorem LlOk.done {v l g : Int} (h : LlOk v l g) (hc : ¬ 1400000 < l) (hd : ¬ l < 700000) : g = llIt v 0 := by
  obtain ⟨⟨j, h1, h2, h3⟩, h4⟩ := h
  show g = llRun 64 v 0
  rw [← h1]
  cases j with
  | zero => rfl
  | succ j => show _ = if l > 1400000 then _ else if l < 700000 then _ else _; rw [if_neg hc, if_neg hd]
theorem ll_less_up {l : Int} (hc : 1400000 < l) : (l.fdiv 2).toNat < l.toNat := by rw [Int.fdiv_eq_ediv_of_nonneg _ (by decide)]; lia
theorem ll_less_dn {l : Int} (h : 0 < l) (hc : l < 700000) : (1400000 - 2 * l).toNat < (1400000 - l).toNat := by lia
/-- the state ahead of turn i -/
structure LlAt (v : Int) (i : Nat) (g : Int) : Prop where
  is : g = llIt v i
theorem llGoal_facts {v : Int} (h1 : 1 ≤ v) (h2 : v ≤ 2 ^ 60) : 0 < llGoal v ∧ intBits (llGoal v) ≤ 300 := by
  refine ⟨?_, bits_fdiv (Nat.le_trans (bits_mul (show intBits v ≤ 64 from intBits_le_64 (by lia) (by lia)) bits_S50) (by decide))⟩
  unfold llGoal
  rw [Int.fdiv_eq_ediv_of_nonneg _ (by decide)]
  lia
theorem ll_floordiv {prog : Program} {w : World} {A : Around} {E : Value → Shared → Prop} {s : Shared} {v g th : Int} {i : Nat} {t u : Tok} {Q : Value → Shared → Prop} (h1 : 1 ≤ v) (h2 : v ≤ 2 ^ 60) (hok : LlFine v) (h : LlAt v i g) (hi : i < 6) (ht : grown g = th)
    (hq : ∀ q, LlAt v (i + 1) (g + q) → Q (.int q s.toks) { s with toks := s.toks + 1 }) :
    wpAny (model prog w) A (binaryOp .FloorDiv (.int (2 * 100000000000000000000000000000000000000000000000000 * ((v * 100000000000000000000000000000000000000000000000000).fdiv 1000000 - th)) t) (.int ((v * 100000000000000000000000000000000000000000000000000).fdiv 1000000 + th) u)) Q E s := by
  have hg := llGoal_facts h1 h2
  have hb := hok i hi
  rw [← h.is] at hb
  have hf := grown_facts hb
  rw [ht] at hf
  refine floordiv_int ?_ (hq _ ⟨?_⟩) (Or.inl (py_of_bits (Nat.le_trans (bits_add hg.2 hf.2) (by decide)) (Nat.le_refl _)))
  · show llGoal v + th ≠ 0; lia
  · rw [h.is] at ht ⊢; rw [← ht]; rfl
theorem LlAt.small {v g : Int} {i : Nat} (h : LlAt v i g) (hok : LlFine v) (hi : i < 6) : g.natAbs ≤ 12800000000000000000000000000000000000000000000000000 := by rw [h.is]; exact hok i hi
theorem LlAt.thb {v g th : Int} {i : Nat} (h : LlAt v i g) (ht : grown g = th) (hok : LlFine v) (hi : i < 6) : intBits th ≤ 500 := by rw [← ht]; exact (grown_facts (h.small hok hi)).2
theorem left_bits {x : Int} (hx : x.natAbs ≤ 12800000000000000000000000000000000000000000000000000) : intBits ((if x < 0 then -x else x).fdiv 256) ≤ 200 := by
  refine bits_fdiv (intBits_le ?_)
  have : (if x < 0 then -x else x).natAbs = x.natAbs := by split <;> lia
  rw [this]
  exact Nat.lt_of_le_of_lt hx (by decide)
theorem LlAt.fin {v g : Int} {i : Nat} (h : LlAt v i g) (hi : i = 6) : g = llog v := by subst hi; exact h.is
end Mine
end
section
open PySem PySem.W PyProof.Rows
namespace Mine
open PySem.Builtin.Int (intBits)
theorem c_gw2 {w : World} {mean : ExcName → Option Value} {mg mb : Str → Option Value} (x : Int) (tx : Tok) (hx : x.natAbs ≤ 12800000000000000000000000000000000000000000000000000) : ClR w mean mg mb 145 6 [.int x tx] (fun t => .int (grown x) t) := c_gw x tx hx (left_bits hx)
section
set_option maxRecDepth 100000 in
set_option maxHeartbeats 8000000 in
theorem c_ll {w : World} {mean : ExcName → Option Value} {mg mb : Str → Option Value} (x : Int) (tx : Tok) (hx1 : 1 ≤ x) (hx2 : x ≤ 2 ^ 60) (hok : LlFine x) : ClR w mean mg mb 152 10 [.int x tx] (fun t => .int (llog x) t) := by
  unfold ClR
  k_with_none; w_top off
  k_with "@bits" => with_reducible assumption
  k_with "@bits" => ((with_reducible apply Mine.bits_divd); bits_by_make)
  k_with "@bits" => ((with_reducible apply Mine.bits_prod) <;> bits_by_make)
  k_with "@binaryOp FloorDiv int int" => (k_here; (with_reducible refine floordiv_int ?kbe ?_ (Or.inl ?kbp)); (case kbe => first | omega | (split <;> omega) | k_dflt (have q9 := Mine.GwOk.kb (by assumption); omega) | k_dflt (have q9 := Mine.SqOk.pos (by assumption); omega)); (case kbp => ((with_reducible apply Mine.py_of_bits); (bits_by_make); decide)))
  k_with "@callWith ref" => (k_here; k_dflt (first | (refine' callWith_K ?k1 ?k2 ?_; (case k1 => with_reducible assumption); (case k2 => k_is); k_whole) | (refine' callWith_K0 ?k1 ?k2 ?_; (case k1 => exact Frag.In.keeps (by with_reducible assumption) (Fr.keep (by with_reducible assumption))); (case k2 => k_is); k_whole)))
  k_with "@execs nil" => (with_reducible refine wpAny_execs_nil ?_)
  k_with "@bits_fit" => ((with_reducible apply Mine.bits_le'); (bits_by_make); decide)
  k_with "@bits" => with_reducible exact Mine.bits_F36
  k_with "@bits" => with_reducible exact Mine.bits_S50
  k_with "@call ref" => (k_here; (with_reducible show wpAny _ _ (PySem.call (Value.ref 117) _) _ _ _); k_dflt (show wpAny _ _ (PySem.call (Value.ref 117) []) _ _ _); k_dflt (refine' ClR.use (c_sc) ?k1 ?k2 ?k3 ?k4 ?k5 ?kK ?kd ?ku ?_; (case k1 => k_asm); (case k2 => k_asm); (case k3 => k_asm); (case k4 => k_asm); (case k5 => k_asm); (case kK => first | exact rfl | assumption); (case kd => ktr_room); (case ku => ktr_units)); intro t9 h9 tk9 F9 N9; (try dsimp only); (try k_fold))
  k_with "@bits" => k_dflt (exact LlAt.thb (by assumption) (by assumption) (by assumption) (by decide))
  k_with "@bits" => k_dflt (exact LlAt.thb (Mine.LlAt.mk (Mine.LlOk.done (by assumption) (by omega) (by omega))) (by assumption) (by assumption) (by decide))
  k_with "@bits" => k_dflt (exact (llGoal_facts (by assumption) (by assumption)).2)
  k_with "@bits" => with_reducible assumption
  k_with "@bits" => k_dflt (exact LlAt.thb (by assumption) (by assumption) (by assumption) (by omega))
  k_with "@binaryOp FloorDiv int int" => (k_here; (with_reducible show wpAny _ _ (binaryOp Operator.FloorDiv (Value.int (_ * _) _) (Value.int (_ + _) _)) _ _ _); k_dflt (refine' Mine.ll_floordiv ?q0 ?q00 ?q1 ?q2 ?q3 ?q4 ?_; (case q0 => assumption); (case q00 => assumption); (case q1 => assumption); (case q4 => assumption); (case q2 => assumption); (case q3 => omega); k_whole); intro q9 hq9)
  k_with "@call ref" => (k_here; (with_reducible show wpAny _ _ (PySem.call (Value.ref 145) [Value.int _ _]) _ _ _); k_dflt (refine' ClR.use (c_gw2 _ _ ?c1) ?k1 ?k2 ?k3 ?k4 ?k5 ?kK ?kd ?ku ?_; (case c1 => first | assumption | k_dflt (exact Mine.LlAt.small (by assumption) (by assumption) (by omega))); (case k1 => k_asm); (case k2 => k_asm); (case k3 => k_asm); (case k4 => k_asm); (case k5 => k_asm); (case kK => first | exact rfl | assumption); (case kd => ktr_room); (case ku => ktr_units)); intro t9 h9 tk9 F9 N9; (try dsimp only); (try k_fold); generalize hgr9 : grown _ = th9)
  k_fill
  intro dp un gd cn cs a ccd cl outer A₀ base h₀ L m news s Q E B F X N T hk hdp hun hret
  have hstart := LlOk.start hx1 hx2
  refine wpAny_call ?_
  k_dflt cell_enter
  k_with "exec While Compare cons nil" => (k_while (fun _ l g => LlOk x l g) (fun _ l g => l.toNat) "left" "guess")
  k_with "exec While Compare cons nil" => (k_while (fun _ l g => LlOk x l g ∧ l ≤ 1400000) (fun _ l g => (1400000 - l).toNat) "left" "guess")
  k_with "@exec For Name Call cons nil" => kpr_for
  k_with "@pyIter ref" => k_state_short (fun pre g => LlAt x pre.length g) "guess"
  k_with "state" => first | assumption | k_dflt (exact Mine.LlAt.mk (Mine.LlOk.done (by assumption) (by omega) (by omega))) | k_dflt (rw [List.length_append]; assumption) | exact LlOk.up (by assumption) (by assumption) | exact LlOk.dn (by assumption) (by assumption) | exact ⟨by assumption, by omega⟩ | exact LlOk.dn ⟨by assumption, by assumption⟩ (by assumption)
  k_with "measure" => first | exact ll_less_up (by assumption) | exact ll_less_dn (LlOk.pos (by assumption)) (by assumption)
  k_with "tree" => exact LlAt.fin (by assumption) rfl
  k_steps
  all_goals cb_end hret
end
end Mine
end
section
open PySem PySem.W PyProof.Rows
namespace Mine
open PySem.Builtin.Int (intBits)
/-! what is due -/
noncomputable def duM (part : Int) : Int := if part < 0 - 40 * 100000000000000000000000000000000000000000000000000 then 0 else grown part * 1000000
noncomputable def duW (part : Int) : Int := (duM part).fdiv 100000000000000000000000000000000000000000000000000
noncomputable def duR (part : Int) : Int := (duM part).fmod 100000000000000000000000000000000000000000000000000
noncomputable def duN (part : Int) : Int := duW part + (if 100000000000000000000000000000000000000000000000000 ≤ 2 * duR part then 1 else 0)
/-- limitcheck is due -/
noncomputable def DueX (part : Int) : Prop := 40 * 100000000000000000000000000000000000000000000000000 < part ∨ 1000000000000000000000 < duN part
/-- this int is due -/
structure DueI (k part : Int) : Prop where
  a : ¬ 40 * 100000000000000000000000000000000000000000000000000 < part
  b : ¬ 1000000000000000000000 < duN part
  c : (2 * duR part - 100000000000000000000000000000000000000000000000000).natAbs < 100000000000000000000000000000000000000000000000 → k = duW part ∨ k = duW part + 1
  d : ¬ (2 * duR part - 100000000000000000000000000000000000000000000000000).natAbs < 100000000000000000000000000000000000000000000000 → k = duN part
theorem duN_lo {x : Int} (h : x < 0 - 40 * 100000000000000000000000000000000000000000000000000) : duN x = Int.fdiv 0 100000000000000000000000000000000000000000000000000 + if decide (100000000000000000000000000000000000000000000000000 ≤ 2 * Int.fmod 0 100000000000000000000000000000000000000000000000000) = true then 1 else 0 := by
  unfold duN duW duR duM; rw [if_pos h]; simp only [decide_eq_true_eq]
theorem duN_hi {x : Int} (h : ¬ x < 0 - 40 * 100000000000000000000000000000000000000000000000000) : duN x = (grown x * 1000000).fdiv 100000000000000000000000000000000000000000000000000 + if decide (100000000000000000000000000000000000000000000000000 ≤ 2 * (grown x * 1000000).fmod 100000000000000000000000000000000000000000000000000) = true then 1 else 0 := by
  unfold duN duW duR duM; rw [if_neg h]; simp only [decide_eq_true_eq]
theorem duR_lo {x : Int} (h : x < 0 - 40 * 100000000000000000000000000000000000000000000000000) : duR x = Int.fmod 0 100000000000000000000000000000000000000000000000000 := by
  unfold duR duM; rw [if_pos h]
theorem duR_hi {x : Int} (h : ¬ x < 0 - 40 * 100000000000000000000000000000000000000000000000000) : duR x = (grown x * 1000000).fmod 100000000000000000000000000000000000000000000000000 := by
  unfold duR duM; rw [if_neg h]
theorem duW_hi {x : Int} (h : ¬ x < 0 - 40 * 100000000000000000000000000000000000000000000000000) : duW x = (grown x * 1000000).fdiv 100000000000000000000000000000000000000000000000000 := by
  unfold duW duM; rw [if_neg h]
theorem DueX.not_lo {x : Int} (hx : DueX x) (h1 : ¬ 40 * 100000000000000000000000000000000000000000000000000 < x) (h : x < 0 - 40 * 100000000000000000000000000000000000000000000000000) (h2 : ¬ 1000000000000000000000 < Int.fdiv 0 100000000000000000000000000000000000000000000000000 + if decide (100000000000000000000000000000000000000000000000000 ≤ 2 * Int.fmod 0 100000000000000000000000000000000000000000000000000) = true then 1 else 0) : False := by
  rcases hx with z | z
  · exact h1 z
  · rw [duN_lo h] at z; exact h2 z
theorem DueX.not_hi {x : Int} (hx : DueX x) (h1 : ¬ 40 * 100000000000000000000000000000000000000000000000000 < x) (h : ¬ x < 0 - 40 * 100000000000000000000000000000000000000000000000000) (h2 : ¬ 1000000000000000000000 < (grown x * 1000000).fdiv 100000000000000000000000000000000000000000000000000 + if decide (100000000000000000000000000000000000000000000000000 ≤ 2 * (grown x * 1000000).fmod 100000000000000000000000000000000000000000000000000) = true then 1 else 0) : False := by
  rcases hx with z | z
  · exact h1 z
  · rw [duN_hi h] at z; exact h2 z
theorem du0 : Int.fdiv 0 100000000000000000000000000000000000000000000000000 = 0 ∧ Int.fmod 0 100000000000000000000000000000000000000000000000000 = 0 := by decide
theorem DueX.not_lo2 {x : Int} (hx : DueX x) (h1 : ¬ 40 * 100000000000000000000000000000000000000000000000000 < x) (h : x < 0 - 40 * 100000000000000000000000000000000000000000000000000) : False :=
  hx.not_lo h1 h (by rw [du0.1, du0.2]; decide)
theorem DueI.dead {k x : Int} (hx : DueI k x) (h : ¬ x < 0 - 40 * 100000000000000000000000000000000000000000000000000) (h2 : 1000000000000000000000 < (grown x * 1000000).fdiv 100000000000000000000000000000000000000000000000000 + if decide (100000000000000000000000000000000000000000000000000 ≤ 2 * (grown x * 1000000).fmod 100000000000000000000000000000000000000000000000000) = true then 1 else 0) : False := by
  have := hx.b; rw [duN_hi h] at this; exact this h2
theorem DueI.lo {k x : Int} (hx : DueI k x) (h : x < 0 - 40 * 100000000000000000000000000000000000000000000000000) : (k == Int.fdiv 0 100000000000000000000000000000000000000000000000000 + if decide (100000000000000000000000000000000000000000000000000 ≤ 2 * Int.fmod 0 100000000000000000000000000000000000000000000000000) = true then 1 else 0) = true := by
  have h1 := hx.d (by rw [duR_lo h, du0.2]; decide)
  rw [duN_lo h] at h1
  rw [h1]; simp
theorem du_abs (a : Int) : (if a < 0 then -a else a) = (a.natAbs : Int) := by split <;> omega
theorem DueI.hi_d {k x : Int} (hx : DueI k x) (h : ¬ x < 0 - 40 * 100000000000000000000000000000000000000000000000000) (hc : ¬ (if 2 * (grown x * 1000000).fmod 100000000000000000000000000000000000000000000000000 - 100000000000000000000000000000000000000000000000000 < 0 then -(2 * (grown x * 1000000).fmod 100000000000000000000000000000000000000000000000000 - 100000000000000000000000000000000000000000000000000) else 2 * (grown x * 1000000).fmod 100000000000000000000000000000000000000000000000000 - 100000000000000000000000000000000000000000000000000) < Int.fdiv 100000000000000000000000000000000000000000000000000 1000) : (k == (grown x * 1000000).fdiv 100000000000000000000000000000000000000000000000000 + if decide (100000000000000000000000000000000000000000000000000 ≤ 2 * (grown x * 1000000).fmod 100000000000000000000000000000000000000000000000000) = true then 1 else 0) = true := by
  have e : Int.fdiv 100000000000000000000000000000000000000000000000000 1000 = 100000000000000000000000000000000000000000000000 := by decide
  rw [du_abs, e] at hc
  have h1 := hx.d (by rw [duR_hi h]; omega)
  rw [duN_hi h] at h1
  rw [h1]; simp
theorem DueI.hi_c {k x : Int} (hx : DueI k x) (h : ¬ x < 0 - 40 * 100000000000000000000000000000000000000000000000000) (hc : (if 2 * (grown x * 1000000).fmod 100000000000000000000000000000000000000000000000000 - 100000000000000000000000000000000000000000000000000 < 0 then -(2 * (grown x * 1000000).fmod 100000000000000000000000000000000000000000000000000 - 100000000000000000000000000000000000000000000000000) else 2 * (grown x * 1000000).fmod 100000000000000000000000000000000000000000000000000 - 100000000000000000000000000000000000000000000000000) < Int.fdiv 100000000000000000000000000000000000000000000000000 1000) : ([(grown x * 1000000).fdiv 100000000000000000000000000000000000000000000000000, (grown x * 1000000).fdiv 100000000000000000000000000000000000000000000000000 + 1].any fun x => x == k) = true := by
  have e : Int.fdiv 100000000000000000000000000000000000000000000000000 1000 = 100000000000000000000000000000000000000000000000 := by decide
  rw [du_abs, e] at hc
  have h1 := hx.c (by rw [duR_hi h]; omega)
  rw [duW_hi h] at h1
  rcases h1 with z | z <;> rw [z] <;> simp
end Mine
end
section
open PySem PySem.W PyProof.Rows
namespace Mine
open PySem.Builtin.Int (intBits)
set_option maxRecDepth 100000 in
set_option maxHeartbeats 8000000 in
theorem c_due_x {w : World} {mean : ExcName → Option Value} {mg mb : Str → Option Value} (x : Int) (tb tx : Tok) (hx : DueX x) : ClR w mean mg mb 166 10 [.bytes #[108, 105, 109, 105, 116, 99, 104, 101, 99, 107] tb, .int x tx] (fun _ => .bool true) := by
  unfold ClR
  k_with_none; w_top off
  k_with "@bits" => with_reducible assumption
  k_with "@bits" => ((with_reducible apply Mine.bits_divd); bits_by_make)
  k_with "@bits" => ((with_reducible apply Mine.bits_prod) <;> bits_by_make)
  k_with "@binaryOp FloorDiv int int" => (k_here; (with_reducible refine floordiv_int ?kbe ?_ (Or.inl ?kbp)); (case kbe => first | omega | (split <;> omega) | k_dflt (have q9 := Mine.GwOk.kb (by assumption); omega) | k_dflt (have q9 := Mine.SqOk.pos (by assumption); omega)); (case kbp => ((with_reducible apply Mine.py_of_bits); (bits_by_make); decide)))
  k_with "@callWith ref" => (k_here; k_dflt (first | (refine' callWith_K ?k1 ?k2 ?_; (case k1 => with_reducible assumption); (case k2 => k_is); k_whole) | (refine' callWith_K0 ?k1 ?k2 ?_; (case k1 => exact Frag.In.keeps (by with_reducible assumption) (Fr.keep (by with_reducible assumption))); (case k2 => k_is); k_whole)))
  k_with "@execs nil" => (with_reducible refine wpAny_execs_nil ?_)
  k_with "@execs cons" => k_dflt (first | (exfalso; exact hx.not_lo2 (by assumption) (by assumption)) | (exfalso; exact hx.not_hi (by assumption) (by assumption) (by assumption)))
  k_with "@bits_fit" => ((with_reducible apply Mine.bits_le'); (bits_by_make); decide)
  k_with "@bits" => with_reducible exact Mine.bits_F36
  k_with "@bits" => with_reducible exact Mine.bits_S50
  k_with "@call ref" => (k_here; (with_reducible show wpAny _ _ (PySem.call (Value.ref 117) _) _ _ _); k_dflt (show wpAny _ _ (PySem.call (Value.ref 117) []) _ _ _); k_dflt (refine' ClR.use (c_sc) ?k1 ?k2 ?k3 ?k4 ?k5 ?kK ?kd ?ku ?_; (case k1 => k_asm); (case k2 => k_asm); (case k3 => k_asm); (case k4 => k_asm); (case k5 => k_asm); (case kK => first | exact rfl | assumption); (case kd => ktr_room); (case ku => ktr_units)); intro t9 h9 tk9 F9 N9; (try dsimp only); (try k_fold))
  k_with "@call ref" => (k_here; (with_reducible show wpAny _ _ (PySem.call (Value.ref 145) [Value.int _ _]) _ _ _); k_dflt (refine' ClR.use (c_gw2 _ _ ?c1) ?k1 ?k2 ?k3 ?k4 ?k5 ?kK ?kd ?ku ?_; (case c1 => first | with_reducible assumption | k_dflt omega); (case k1 => k_asm); (case k2 => k_asm); (case k3 => k_asm); (case k4 => k_asm); (case k5 => k_asm); (case kK => first | exact rfl | assumption); (case kd => ktr_room); (case ku => ktr_units)); intro t9 h9 tk9 F9 N9; (try dsimp only); (try k_fold))
  k_fill
  intro dp un gd cn cs a ccd cl outer A₀ base h₀ L m news s Q E B F X N T hk hdp hun hret
  refine wpAny_call ?_
  k_dflt cell_enter
  k_steps
  all_goals first
    | (exfalso; exact hx.not_lo2 (by assumption) (by assumption))
    | (exfalso; exact hx.not_hi (by assumption) (by assumption) (by assumption))
    | cb_end hret
set_option maxRecDepth 100000 in
set_option maxHeartbeats 8000000 in
theorem c_due_i {w : World} {mean : ExcName → Option Value} {mg mb : Str → Option Value} (k x : Int) (tb tx : Tok) (hx : DueI k x) : ClR w mean mg mb 166 10 [.int k tb, .int x tx] (fun _ => .bool true) := by
  unfold ClR
  k_with_none; w_top off
  k_with "@bits" => with_reducible assumption
  k_with "@bits" => ((with_reducible apply Mine.bits_divd); bits_by_make)
  k_with "@bits" => ((with_reducible apply Mine.bits_prod) <;> bits_by_make)
  k_with "@binaryOp FloorDiv int int" => (k_here; (with_reducible refine floordiv_int ?kbe ?_ (Or.inl ?kbp)); (case kbe => first | omega | (split <;> omega) | k_dflt (have q9 := Mine.GwOk.kb (by assumption); omega) | k_dflt (have q9 := Mine.SqOk.pos (by assumption); omega)); (case kbp => ((with_reducible apply Mine.py_of_bits); (bits_by_make); decide)))
  k_with "@callWith ref" => (k_here; k_dflt (first | (refine' callWith_K ?k1 ?k2 ?_; (case k1 => with_reducible assumption); (case k2 => k_is); k_whole) | (refine' callWith_K0 ?k1 ?k2 ?_; (case k1 => exact Frag.In.keeps (by with_reducible assumption) (Fr.keep (by with_reducible assumption))); (case k2 => k_is); k_whole)))
  k_with "@execs nil" => (with_reducible refine wpAny_execs_nil ?_)
  k_with "@execs cons" => k_dflt (first | (exfalso; omega) | (exfalso; exact hx.dead (by assumption) (by assumption)))
  k_with "@bits_fit" => ((with_reducible apply Mine.bits_le'); (bits_by_make); decide)
  k_with "@bits" => with_reducible exact Mine.bits_F36
  k_with "@bits" => with_reducible exact Mine.bits_S50
  k_with "@call ref" => (k_here; (with_reducible show wpAny _ _ (PySem.call (Value.ref 117) _) _ _ _); k_dflt (show wpAny _ _ (PySem.call (Value.ref 117) []) _ _ _); k_dflt (refine' ClR.use (c_sc) ?k1 ?k2 ?k3 ?k4 ?k5 ?kK ?kd ?ku ?_; (case k1 => k_asm); (case k2 => k_asm); (case k3 => k_asm); (case k4 => k_asm); (case k5 => k_asm); (case kK => first | exact rfl | assumption); (case kd => ktr_room); (case ku => ktr_units)); intro t9 h9 tk9 F9 N9; (try dsimp only); (try k_fold))
  k_with "@call ref" => (k_here; (with_reducible show wpAny _ _ (PySem.call (Value.ref 145) [Value.int _ _]) _ _ _); k_dflt (refine' ClR.use (c_gw2 _ _ ?c1) ?k1 ?k2 ?k3 ?k4 ?k5 ?kK ?kd ?ku ?_; (case c1 => first | with_reducible assumption | k_dflt omega); (case k1 => k_asm); (case k2 => k_asm); (case k3 => k_asm); (case k4 => k_asm); (case k5 => k_asm); (case kK => first | exact rfl | assumption); (case kd => ktr_room); (case ku => ktr_units)); intro t9 h9 tk9 F9 N9; (try dsimp only); (try k_fold))
  k_fill
  intro dp un gd cn cs a ccd cl outer A₀ base h₀ L m news s Q E B F X N T hk hdp hun hret
  refine wpAny_call ?_
  k_dflt cell_enter
  have hxa := hx.a
  k_with "tree" => first | exact hx.lo (by assumption) | exact hx.hi_d (by assumption) (by assumption) | exact hx.hi_c (by assumption) (by assumption)
  k_steps
  all_goals first
    | (exfalso; omega)
    | (exfalso; exact hx.dead (by assumption) (by assumption))
    | cb_end hret
end Mine
end
section
open PySem PySem.W PyProof.Rows
namespace Mine
open PySem.Builtin.Int (intBits)
open PySem.Calls PySem.Builtin PySem.Builtin.ObjectAttr
noncomputable abbrev bmP : List Value := [.ref 32, .type "Exception", .type "BaseException", .type "object"]
/-- what is asked of the class -/
structure PsCls (M : Model) (h : Heap) : Prop where
  obj : ∃ nm q bs sn sub ab col dd k0 k1 k2 k3 k5, h.get? 45 = some (excClassObj nm q 45 44 bs bmP true sn sub ab col dd k0 k1 k2 k3 k5 "Exception.__new__")
  init : Looks M h (typeLookup (.ref 45) "__init__") (some (.ref 29))
  bind : ∀ self, Looks M h (bindSpecial (.ref 29) self) (.ref 29, [self])
set_option maxRecDepth 100000 in
theorem PsCls.of {w : World} {M : Model} {h : Heap} (X : (hd.heap_39 w.params).In h) : PsCls M h where
  obj := ⟨_, _, _, _, _, _, _, _, _, _, _, _, _, X 45 _ rfl⟩
  init := looks_findIn X (by kernel_rfl)
  bind := fun self => bind_fn X self (by kernel_rfl)
theorem PsCls.keeps {M : Model} {h h' : Heap} (x : PsCls M h) (k : ∀ b o, h.get? b = some o → h'.get? b = some o) : PsCls M h' where
  obj := by
    obtain ⟨a1, a2, a3, a4, a5, a6, a7, a8, a9, a10, a11, a12, a13, e⟩ := x.obj
    exact ⟨a1, a2, a3, a4, a5, a6, a7, a8, a9, a10, a11, a12, a13, k _ _ e⟩
  init := x.init.keeps k
  bind := fun self => (x.bind self).keeps k

noncomputable abbrev excObj (t : Addr) : Obj := { cls := .ref 45, data := .fields #[.ref t, .none, .none, .none, .bool false, .none] }
noncomputable abbrev tupObj (vs : List Value) : Obj := { cls := .type "tuple", data := .seq vs.toArray }

section
variable {prog : Program} {w : World} {A : Around} {E : Value → Shared → Prop} {h : Heap} {g : Array GenState} {d : Drawn} {t : Nat} {os : OsState}
theorem ps_check_new {M : Model} {rest : List Value} {Q : Unit → Shared → Prop} (Y : PsCls M h) (hq : Q () ⟨h, g, d, t, os⟩) :
    wpAny M A (checkBuiltinCall "Exception.__new__" ⟨.ref 45 :: rest, []⟩) Q E ⟨h, g, d, t, os⟩ := by
  obtain ⟨nm, q, bs, sn, sub, ab, col, dd, k0, k1, k2, k3, k5, hC⟩ := Y.obj
  have F := PySem.F.excBase_Exception
  have hstar := F.noStar
  simp only [checkBuiltinCall, F.newKind, F.newSplit, F.newRow]
  repeat (first | refine wpAny_loadPart_at hC ?_ | (refine wpAny_isSubtype_exc hC ?_; rw [show (Value.ref 45 :: bmP).contains (.type "Exception") = true from by decide +kernel]) | refine wpAny_staticBase_exc hC ?_ | refine wpAny_madeBy_exc hC ?_ | simp only [bne_self_eq_false, Bool.false_eq_true, if_false] | wp_step)
  exact hq
theorem ps_new {R : Result → Shared → Prop} {rest : List Value} (Y : PsCls (model prog w) h)
    (hq : R (.ok (.ret (.ref (h.objs.size + 1)))) ⟨(h.push (tupObj rest)).push (excObj h.objs.size), g, d, t, os⟩) (hrest : rest.length ≤ sizeLine) :
    codeAny (model prog w) A (.builtin "Exception.__new__" ⟨.ref 45 :: rest, []⟩) R ⟨h, g, d, t, os⟩ := by
  obtain ⟨nm, q, bs, sn, sub, ab, col, dd, k0, k1, k2, k3, k5, hC⟩ := Y.obj
  have F := PySem.F.excBase_Exception
  have hends := F.ends
  have hcB : (Value.ref 45 :: bmP).contains (.type "Exception") = true := by decide +kernel
  have hcA : (Value.ref 45 :: bmP).contains (.type "AttributeError") = false := by decide +kernel
  have hcN : (Value.ref 45 :: bmP).contains (.type "NameError") = false := by decide +kernel
  refine codeAny_builtinAt F.entry ?_
  unfold Builtin.«BaseException.__new__»
  refine PySem.wpAt_bind ?_
  show PySem.wpAt _ _ _ (stack >>= _) _ _ _
  refine PySem.wpAt_bind (PySem.wpAt_stack fun p below => PySem.wpAt_of_wpAny ?_)
  wp_walk
  refine PySem.wpAt_of_wpAny ?_
  rw [F.owner]
  repeat (first | with_reducible refine wpAny_madeHere_exc F.canon hC ?_ | with_reducible refine wpAny_loadPart_at hC ?_ | (with_reducible refine wpAny_isSubtype_exc hC ?_; first | rw [hcB] | rw [hcA] | rw [hcN]) | wp_step)
  show R _ _
  rw [Heap.size_push]
  exact hq
theorem ps_type_call {rest : List Value} {Q : Fin → Shared → Prop} (Y : PsCls (model prog w) h)
    (hq : wpAny (model prog w) A (call (.ref 29) (.ref (h.objs.size + 1) :: rest)) (fun r s' => r = .none ∧ Q (.done (.ret (.ref (h.objs.size + 1)))) s') E ⟨(h.push (tupObj rest)).push (excObj h.objs.size), g, d, t, os⟩) (hrest : rest.length ≤ sizeLine) :
    wpAny (model prog w) A (Builtin.«type.__call__» ⟨.ref 45 :: rest, []⟩) Q E ⟨h, g, d, t, os⟩ := by
  obtain ⟨nm, q, bs, sn, sub, ab, col, dd, k0, k1, k2, k3, k5, hC⟩ := Y.obj
  have F := PySem.F.excBase_Exception
  repeat (first | with_reducible refine wpAny_loadPart_at hC ?_ | with_reducible refine wpAny_madeBy_exc hC ?_ | wp_step)
  refine codeAny_call_builtin_code (Code.quiet_builtin _ F.quiet) (ps_check_new Y ?_)
  refine ps_new Y ?_ hrest
  show wpAny _ _ _ _ _ _
  have k : ∀ b o, h.get? b = some o → ((h.push (tupObj rest)).push (excObj h.objs.size)).get? b = some o := fun b o e => Heap.get?_push_of_some _ (Heap.get?_push_of_some _ e)
  have Y₁ := Y.keeps k
  have hC₁ := k _ _ hC
  have hget : ((h.push (tupObj rest)).push (excObj h.objs.size)).get? (h.objs.size + 1) = some (excObj h.objs.size) := by heap_get
  have hcC : (Value.ref 45 :: bmP).contains (.ref 45) = true := by decide +kernel
  unfold isInstance
  repeat (first | with_reducible refine wpAny_loadPart_at hget ?_ | (with_reducible refine wpAny_isSubtype_exc hC₁ ?_; rw [hcC]) | wp_step)
  show wpAny _ _ (typeLookup (.ref 45) _) _ _ _
  refine Y₁.init.at ?_
  refine wpAny_holding (wpAny_bind ?_)
  refine (Y₁.bind _).at ?_
  refine wpAny_bind (wpAny_mono hq (fun r s' hr => ?_) fun _ _ x => x)
  obtain ⟨rfl, hQ⟩ := hr
  wp_walk
  exact hQ
theorem ps_call {rest : List Value} {Q : Value → Shared → Prop} (Y : PsCls (model prog w) h)
    (hq : wpAny (model prog w) (A.under (.builtin "type.__call__" ⟨.ref 45 :: rest, []⟩)) (call (.ref 29) (.ref (h.objs.size + 1) :: rest)) (fun r s' => r = .none ∧ Q (.ref (h.objs.size + 1)) s') E ⟨(h.push (tupObj rest)).push (excObj h.objs.size), g, d, t, os⟩) (hrest : rest.length ≤ sizeLine) :
    wpAny (model prog w) A (call (.ref 45) rest) Q E ⟨h, g, d, t, os⟩ := by
  obtain ⟨nm, q, bs, sn, sub, ab, col, dd, k0, k1, k2, k3, k5, hC⟩ := Y.obj
  have f1 := tc_lookup
  have f2 := tc_bind (.ref 45)
  have hT : (⟨h, g, d, t, os⟩ : Shared).TypeIs (.ref 45) "type" := ⟨_, hC, rfl⟩
  refine wpAny_call (codeAny_of_tree ?_)
  show wpAny _ _ (callAny (.ref 45) _) _ _ _
  repeat (any_goals (first | assumption | with_reducible refine wpAny_loadPart_at hC ?_ | wp_step))
  refine ⟨rfl, ?_⟩
  exact codeAny_call_builtin_at (Code.quiet_builtin _ (by decide +kernel)) entry_typeCall (wpAny_check_type_call_sub hC (ps_type_call Y hq hrest))
end
end Mine
end
section
open PySem PySem.W PyProof.Rows
namespace Mine
open PySem.Builtin.Int (intBits)
open PySem.Calls PySem.Builtin PySem.Builtin.ObjectAttr
theorem ps_refuse (self : Value) : refuseLoop self "__setattr__" (.ref 45 :: bmP) = pure () := by
  rw [refuseLoop_ref, refuseLoop_ref]
  exact PySem.F.store_Exception.passes self
/-- a field set on an exception that has no dict yet -/
noncomputable def Stored (h h' : Heap) (e t : Addr) (name : Str) (v : Value) : Prop :=
  ∃ d', h'.get? e = some { excObj t with dict := some d' } ∧ h'.Ns d' (fun y => if y = name then some v else none) ∧ d' ≠ e ∧ h.get? d' = none ∧ ∀ b o, b ≠ e → h.get? b = some o → h'.get? b = some o
section
variable {prog : Program} {w : World} {A : Around} {E : Value → Shared → Prop} {h : Heap} {g : Array GenState} {d : Drawn} {t : Nat} {os : OsState}
set_option maxRecDepth 100000 in
theorem ps_store {e te : Addr} {v : Value} {tk : Tok} {Q : Fin → Shared → Prop} (X : (hd.heap_39 w.params).In h) (he : h.get? e = some (excObj te))
    (hq : ∀ h' tk', Stored h h' e te "told" v → Q (.done (.ret .none)) ⟨h', g, d, tk', os⟩) :
    wpAny (model prog w) A (Builtin.«object.__setattr__» ⟨[.ref e, .str "told" tk, v], []⟩) Q E ⟨h, g, d, t, os⟩ := by
  have I : InstAt h e (excObj te) 45 none := ⟨he, rfl, rfl, trivial⟩
  have hc : clsIn (hd.heap_39 w.params) 45 = some _ := rfl
  have hm : Looks (model prog w) h (mroOf (.ref 45)) (Value.ref 45 :: bmP) := (looks_clsIn X hc).andThen .now
  have ne : e ≠ 45 := fun q => by
    have := X 45 _ rfl
    rw [← q, he] at this
    cases this
  rw [osa_eq, refuse_eq]
  refine wpAny_bind (wpAny_bind (I.type.at (wpAny_bind (hm.at ?_))))
  rw [show refuseLoop (.ref e) "__setattr__" _ = pure () from ps_refuse (.ref e)]
  refine wpAny_pure (wpAny_bind (I.type.at (wpAny_bind ((looks_findIn X (r := none) (by kernel_rfl)).at (wpAny_bind ?_)))))
  refine wpAny_pure ?_
  show wpAny _ _ (storeInOwnDict (.ref e) (.ref 45) (.str "told" tk) "told" v false) _ _ _
  refine wpAny_bind (wpAny_pure (wpAny_bind ?_))
  show wpAny _ _ (instanceDict e true) _ _ _
  unfold instanceDict
  refine wpAny_bind (wpAny_loadPart_at he ?_)
  dsimp only
  refine wpAny_bind ((looks_clsIn X hc).at ?_)
  show wpAny _ _ (alloc _ >>= _) _ _ _
  have hxs : e ≠ h.objs.size := Nat.ne_of_lt (Heap.lt_size he)
  have hx₁ : (h.push emptyDict).get? e = some (excObj te) := Heap.get?_push_of_some _ he
  refine wpAny_bind (wpAny_alloc' ?_)
  refine wpAny_bind (wpAny_update' hx₁ ?_)
  refine wpAny_pure ?_
  have hgd : ((h.push emptyDict).update e fun o => { cls := o.cls, dict := some h.objs.size, data := o.data, slots := o.slots }).get? h.objs.size = some emptyDict :=
    (Heap.get?_update_ne _ _ _ _ hxs.symm).trans (Heap.get?_push_at rfl rfl)
  have hnd : ((h.push emptyDict).update e fun o => { cls := o.cls, dict := some h.objs.size, data := o.data, slots := o.slots }).Ns h.objs.size (fun _ => none) :=
    ⟨_, #[], _, hgd, rfl, fun e he => absurd he (by simp), fun _ => rfl⟩
  show wpAny _ _ (storeInDict h.objs.size (.str "told" tk) "told" v) _ _ _
  unfold storeInDict newKeyGuard
  refine wpAny_bind (wpAny_pure (wpAny_bind (wpAny_nsSet1 (Heap.Ns1.of_empty hnd) fun h' hn' hs => ?_)))
  obtain ⟨oD, esD, epD, hoD, hdD, hcD⟩ := hn'.count (Within.cons "told" v Within.nil)
  refine wpAny_bind (wpAny_lookBehind hoD (by rw [hdD]; exact pastItsLine_dict (Nat.le_trans hcD (by rw [List.length_cons, List.length_nil, sizeLine_eq]; lia))) ?_)
  wp_walk
  refine hq h' _ ⟨h.objs.size, (hs.2 e hxs).trans (Heap.get?_update_self _ hx₁ rfl), hn'.ns, hxs.symm, Heap.get?_none_of_le (Nat.le_refl _), fun b o hbe hb => ?_⟩
  exact (hs.2 b (Nat.ne_of_lt (Heap.lt_size hb))).trans ((Heap.get?_update_ne _ _ _ _ hbe).trans (Heap.get?_push_of_some _ hb))
/-- self.told = v in an exception just made -/
theorem ps_set {e te : Addr} {v : Value} {Q : Unit → Shared → Prop} (X : (hd.heap_39 w.params).In h) (he : h.get? e = some (excObj te))
    (hq : ∀ h' tk', Stored h h' e te "told" v → Q () ⟨h', g, d, tk', os⟩) : wpAny (model prog w) A (setAttr (.ref e) "told" v) Q E ⟨h, g, d, t, os⟩ := by
  have I : InstAt h e (excObj te) 45 none := ⟨he, rfl, rfl, trivial⟩
  have sub : Looks (model prog w) h (isInstance (.ref e) (.type "object")) true := I.type.andThen (looks_mroIn X (by kernel_rfl))
  have SF := PySem.F.store_object
  refine set_plain (s := ⟨h, g, d, t, os⟩) X I (by kernel_rfl) ?_
  refine codeAny_call_builtin SF.slot.plain SF.entry (@check_slot (model prog w) _ _ _ "object.__setattr__" "object" "__setattr__" (.ref e) [.str "told" t, v] [] _ SF.kind SF.split sub (SF.args (.ref e) (.str "told" t) v) ?_)
  exact ps_store X he (fun h' tk' S => hq h' tk' S)
end
end Mine
end
section
open PySem PySem.W PyProof.Rows
namespace Mine
open PySem.Builtin.Int (intBits)
open PySem.Calls
/-! an exception in flight, its class and its dict kept -/
noncomputable def IsPs (d : Addr) (o : Obj) : Prop := o.cls = .ref 45 ∧ o.dict = some d
theorem IsPs.map {d : Addr} {o : Obj} (x : IsPs d o) (f : Array Value → Array Value) : IsPs d (Obj.mapFields f o) := by
  refine ⟨(Obj.cls_mapFields _ _).trans x.1, ?_⟩
  obtain ⟨c, dd, dt, sl⟩ := o
  cases dt <;> exact x.2
noncomputable def TrD (h base : Heap) (e d : Addr) (fl : Value) : Prop :=
  ∃ oe vs T oT ts, h.get? e = some oe ∧ IsPs d oe ∧ oe.data = .fields vs ∧ vs[1]? = some (.ref T) ∧ base.get? T = none ∧ T ≠ e ∧ h.get? T = some oT ∧ oT.data = .fields ts ∧ ts[3]? = some fl
noncomputable def UpS (h h' : Heap) : Prop := ∀ b o, h.get? b = some o → (∀ vs, o.data ≠ .fields vs) → ∃ sl, h'.get? b = some { o with slots := sl }
noncomputable def FlD (base : Heap) (l : List Env) (e d : Addr) (fl : Value) (h : Heap) : Prop := base.StaysIn h ∧ base.get? e = none ∧ h.FunFrames base l ∧ TrD h base e d fl
theorem FlD.obj {base : Heap} {l : List Env} {e d : Addr} {fl : Value} {h : Heap} (x : FlD base l e d fl h) : ∃ o, h.get? e = some o ∧ IsPs d o ∧ ∃ vs, o.data = .fields vs := by
  obtain ⟨_, _, _, o, vs, _, _, _, a, b, c, _⟩ := x
  exact ⟨o, a, b, vs, c⟩
section
variable {M : Model} {A : Around} {E : Value → Shared → Prop} {s : Shared}
/-- the entry of a frame into the trace -/
theorem d_entry {base : Heap} {env : Env} {outer : List Env} {L e d : Addr} {oe : Obj} {vs : Array Value} {head : Value} {hadNext : Bool} {Q : Unit → Shared → Prop}
    (hfr : A.frames = some (env :: outer)) (hl : s.heap.FunFrames base (env :: outer)) (hf : env.frame = some L)
    (he : s.heap.get? e = some oe) (hP : IsPs d oe) (hkb : base.StaysIn s.heap) (hen : base.get? e = none) (hd : oe.data = .fields vs) (hsz : 1 < vs.size)
    (h : ∀ h', FlD base (env :: outer) e d (rawInt L) h' → UpS s.heap h' → Q () { s with heap := h' }) :
    wpAny M A (do let a ← frameOf env; let pl ← entryPlaceOf L hadNext; let b ← EntryCells.newEntry head a .none (rawInt L) .none pl; setField (.ref e) 1 b) Q E s := by
  have hene : e ∉ (env :: outer).filterMap (·.frame) := fun hm => by
    obtain ⟨_, o, ho, hnf⟩ := hl.mem hm
    rw [he] at ho; cases ho; exact hnf vs hd
  refine wpAny_bind (wpAny_frameOf_fun hfr hl hf fun h₁ hs₁ => ?_)
  refine wpAny_bind (wpAny_entryPlaceOf fun pl hpl => ?_)
  unfold EntryCells.newEntry newFields
  refine wpAny_bind (wpAny_newObj_type ?_ (hpl.sizeOk5 _ _ _ _ _))
  generalize hX : ({ cls := .type "traceback", dict := none, data := .fields ([head, .ref L, .none, rawInt L, .none] ++ (if pl.isEmpty then List.replicate 6 Value.none else pl)).toArray } : Obj) = X
  have hXd : X.data = .fields ([head, .ref L, .none, rawInt L, .none] ++ (if pl.isEmpty then List.replicate 6 Value.none else pl)).toArray := by rw [← hX]
  have hXf : X.isFreed = false := by rw [← hX]; rfl
  have he₁ : h₁.get? e = some oe := (hs₁.2.1 e hene).trans he
  have kb₁ : base.StaysIn h₁ := fun b o hbo => (hs₁.2.1 b fun hm => by rw [(hl.mem hm).1] at hbo; cases hbo).trans (hkb b o hbo)
  have he₂ := Heap.get?_push_of_some (h := h₁) X he₁
  have hTe : h₁.objs.size ≠ e := Nat.ne_of_gt (Heap.lt_size he₁)
  have hd₃ := Obj.data_mapFields hd (·.setIfInBounds 1 (Value.ref h₁.objs.size))
  have he₃ := Heap.get?_update_self (Obj.mapFields (·.setIfInBounds 1 (Value.ref h₁.objs.size))) he₂ (Obj.isFreed_of_fields hd₃)
  have hT₃ := (Heap.get?_update_other (h₁.push X) (Obj.mapFields (·.setIfInBounds 1 (Value.ref h₁.objs.size))) (Ne.symm hTe)).trans (Heap.get?_push_size h₁ hXf)
  have keep : ∀ b o, b ≠ e → h₁.get? b = some o → ((h₁.push X).update e (Obj.mapFields (·.setIfInBounds 1 (Value.ref h₁.objs.size)))).get? b = some o := fun b o hbe hb => by
    rw [Heap.get?_update_other _ _ (Ne.symm hbe)]
    exact Heap.get?_push_of_some _ hb
  have noRecord : ∀ b o, s.heap.get? b = some o → (∀ vs, o.data ≠ .fields vs) → b ≠ e := fun b o hb hnf q => by
    rw [q, he] at hb; cases hb; exact hnf vs hd
  refine wpAny_setField he₂ hd hsz (h _ ⟨fun b o hbo => keep b o (fun q => by rw [q, hen] at hbo; cases hbo) (kb₁ b o hbo), hen, hl.of_keeps fun b o hb hnf => ?_, ?_⟩ fun b o hb hnf => ?_)
  · obtain ⟨sl, hs⟩ := hs₁.2.2 b o hb
    exact ⟨_, keep b _ (noRecord b o hb hnf) hs, rfl⟩
  · refine ⟨_, _, h₁.objs.size, _, _, he₃, hP.map _, hd₃, by simp [hsz], kb₁.fresh, hTe, hT₃, hXd, ?_⟩
    first | (simp; done) | (rcases hpl with rfl | ⟨_, _, _, _, _, _, _, rfl⟩ <;> simp)
  · obtain ⟨sl, hs⟩ := hs₁.2.2 b o hb
    exact ⟨sl, keep b _ (noRecord b o hb hnf) hs⟩
theorem UpS.trans {h₁ h₂ h₃ : Heap} (x : UpS h₁ h₂) (y : UpS h₂ h₃) : UpS h₁ h₃ := fun b o e hn =>
  let ⟨_, e₁⟩ := x b o e hn; let ⟨sl, e₂⟩ := y b _ e₁ hn; ⟨sl, e₂⟩
/-- the flight's mark is taken off -/
theorem d_lands {base : Heap} {l : List Env} {e d : Addr} {fl : Value} {Q : Unit → Shared → Prop} (x : FlD base l e d fl s.heap)
    (h : ∀ h', FlD base l e d .none h' → UpS s.heap h' → Q () { s with heap := h' }) : wpAny M A (setFlight (.ref e) none) Q E s := by
  obtain ⟨hkb, hen, hl, oe, vs, T, oT, ts, he, hP, hd, h1, hnT, hTe, hT, hdT, h3⟩ := x
  have hsz3 : 3 < ts.size := (Array.getElem?_eq_some_iff.mp h3).1
  have other : ∀ b, b ≠ T → (s.heap.update T (Obj.mapFields (·.setIfInBounds 3 ((none : Option Addr).elim Value.none fun f => rawInt f)))).get? b = s.heap.get? b :=
    fun b hb => Heap.get?_update_other _ _ (Ne.symm hb)
  have noRecord : ∀ b o, s.heap.get? b = some o → (∀ vs, o.data ≠ .fields vs) → b ≠ T := fun b o hb hnf q => by
    rw [q, hT] at hb; cases hb; exact hnf ts hdT
  unfold setFlight
  refine wpAny_bind (wpAny_field he hd h1 ?_)
  rw [if_pos (show (Value.ref T != Value.none) = true from by simp)]
  refine wpAny_setField hT hdT hsz3 (h _ ⟨fun b o hbo => (other b fun q => by rw [q, hnT] at hbo; cases hbo).trans (hkb b o hbo), hen,
    hl.of_keeps fun b o hb hnf => ⟨o, (other b (noRecord b o hb hnf)).trans hb, rfl⟩, ?_⟩ fun b o hb hnf => ⟨o.slots, (other b (noRecord b o hb hnf)).trans hb⟩)
  exact ⟨oe, vs, T, _, _, (other e (Ne.symm hTe)).trans he, hP, hd, h1, hnT, hTe, Heap.get?_update_self _ hT (Obj.isFreed_of_fields (Obj.data_mapFields hdT _)), Obj.data_mapFields hdT _, by simp [hsz3]⟩
/-- the first frame's note -/
theorem d_note_first {base : Heap} {env : Env} {outer : List Env} {L e d : Addr} {oe : Obj} {vs : Array Value} {Q : Unit → Shared → Prop}
    (hfr : A.frames = some (env :: outer)) (hl : s.heap.FunFrames base (env :: outer)) (hf : env.frame = some L)
    (he : s.heap.get? e = some oe) (hP : IsPs d oe) (hkb : base.StaysIn s.heap) (hen : base.get? e = none) (hd : oe.data = .fields vs) (h1 : vs[1]? = some .none)
    (h : ∀ h', FlD base (env :: outer) e d (rawInt L) h' → UpS s.heap h' → Q () { s with heap := h' }) : wpAny M A (noteFrame (.ref e) env) Q E s := by
  unfold noteFrame
  simp only [hf]
  refine wpAny_bind (wpAny_field he hd h1 ?_)
  rw [if_neg (by decide)]
  exact d_entry hfr hl hf he hP hkb hen hd (Array.getElem?_eq_some_iff.mp h1).1 h
/-- a further frame's note -/
theorem d_note_next {base : Heap} {env : Env} {outer : List Env} {L e d : Addr} {Q : Unit → Shared → Prop}
    (hfr : A.frames = some (env :: outer)) (hf : env.frame = some L) (x : FlD base (env :: outer) e d .none s.heap)
    (h : ∀ h', FlD base (env :: outer) e d (rawInt L) h' → UpS s.heap h' → Q () { s with heap := h' }) : wpAny M A (noteFrame (.ref e) env) Q E s := by
  obtain ⟨hkb, hen, hl, oe, vs, T, oT, ts, he, hP, hd, h1, hnT, hTe, hT, hdT, h3⟩ := x
  unfold noteFrame
  simp only [hf]
  refine wpAny_bind (wpAny_field he hd h1 ?_)
  rw [if_pos (show (Value.ref T != Value.none) = true from by simp)]
  refine wpAny_bind (wpAny_field hT hdT h3 ?_)
  rw [if_neg (show ¬ ((Value.none == rawInt L) = true) from by simp [rawInt])]
  refine wpAny_bind (wpAny_setField hT hdT (Array.getElem?_eq_some_iff.mp h3).1 ?_)
  have other : ∀ b, b ≠ T → (s.heap.update T (Obj.mapFields (·.setIfInBounds 3 Value.none))).get? b = s.heap.get? b := fun b hb => Heap.get?_update_other _ _ (Ne.symm hb)
  have noRecord : ∀ b o, s.heap.get? b = some o → (∀ vs, o.data ≠ .fields vs) → b ≠ T := fun b o hb hnf q => by
    rw [q, hT] at hb; cases hb; exact hnf ts hdT
  refine d_entry hfr (hl.of_keeps fun b o hb hnf => ⟨o, (other b (noRecord b o hb hnf)).trans hb, rfl⟩) hf ((other e (Ne.symm hTe)).trans he) hP
    (fun b o hbo => (other b fun q => by rw [q, hnT] at hbo; cases hbo).trans (hkb b o hbo)) hen hd (Array.getElem?_eq_some_iff.mp h1).1
    fun h' x1 x2 => h h' x1 (UpS.trans (fun b o hb hnf => ⟨o.slots, (other b (noRecord b o hb hnf)).trans hb⟩) x2)
theorem d_leave_first {base : Heap} {env : Env} {outer : List Env} {L e d : Addr} {oe : Obj} {vs : Array Value} {Q : Unit → Shared → Prop}
    (hfr : A.frames = some (env :: outer)) (hl : s.heap.FunFrames base (env :: outer)) (hf : env.frame = some L)
    (he : s.heap.get? e = some oe) (hP : IsPs d oe) (hkb : base.StaysIn s.heap) (hen : base.get? e = none) (hd : oe.data = .fields vs) (h1 : vs[1]? = some .none)
    (h : ∀ h', FlD base outer e d .none h' → UpS s.heap h' → Q () { s with heap := h' }) : wpAny M A (leaving env (.ref e)) Q E s := by
  unfold leaving
  refine wpAny_bind (d_note_first hfr hl hf he hP hkb hen hd h1 fun h₁ x u => d_lands x fun h₂ y u' => ?_)
  obtain ⟨k1, k2, ⟨_, _, k3⟩, k4⟩ := y
  exact h h₂ ⟨k1, k2, k3, k4⟩ (u.trans u')
theorem d_leave_next {base : Heap} {env : Env} {outer : List Env} {L e d : Addr} {Q : Unit → Shared → Prop}
    (hfr : A.frames = some (env :: outer)) (hf : env.frame = some L) (x : FlD base (env :: outer) e d .none s.heap)
    (h : ∀ h', FlD base outer e d .none h' → UpS s.heap h' → Q () { s with heap := h' }) : wpAny M A (leaving env (.ref e)) Q E s := by
  unfold leaving
  refine wpAny_bind (d_note_next hfr hf x fun h₁ x u => d_lands x fun h₂ y u' => ?_)
  obtain ⟨k1, k2, ⟨_, _, k3⟩, k4⟩ := y
  exact h h₂ ⟨k1, k2, k3, k4⟩ (u.trans u')
end
end Mine
end
section
open PySem PySem.W PyProof.Rows
namespace Mine
open PySem.Builtin.Int (intBits)
open PySem.Calls
noncomputable def HasTold (od : Obj) (v : Value) : Prop := lookIn "told" od = some (some v)
theorem told_of_ns {h : Heap} {d : Addr} {v : Value} (x : h.Ns d (fun y => if y = ("told" : Str) then some v else none)) : ∃ od, h.get? d = some od ∧ HasTold od v := by
  obtain ⟨o, es, ep, ho, hd, _, hf⟩ := x
  refine ⟨o, ho, ?_⟩
  have z : nsFind es "told" = some v := (hf "told").trans (if_pos rfl)

  unfold nsFind findBy at z
  rw [← Array.find?_toList] at z
  unfold HasTold lookIn
  rw [hd]
  dsimp only
  split
  · rename_i e he
    rw [he] at z
    simpa using z
  · rename_i he
    rw [he] at z
    cases z
theorem ps_setN {prog : Program} {w : World} {A : Around} {E : Value → Shared → Prop} {Q : Unit → Shared → Prop} {s : Shared} {h₀ : Heap} {L e t : Addr} {m : Str → Option Value} {news : List (Addr × Obj)} {v : Value}
    (X : (hd.heap_39 w.params).In h₀) (F : Fr h₀ L s.heap m) (N : News h₀ L s.heap ((e, excObj t) :: news)) (hne : ∀ p ∈ news, p.1 ≠ e)
    (h : ∀ h' d od tk', Fr h₀ L h' m → News h₀ L h' ((d, od) :: (e, { excObj t with dict := some d }) :: news) → HasTold od v → (∀ p ∈ news, p.1 ≠ d) → d ≠ e → Q () { s with heap := h', toks := tk' }) :
    wpAny (model prog w) A (setAttr (.ref e) "told" v) Q E s := by
  obtain ⟨hh, g, dr, tk, os⟩ := s
  have he := N _ (.head _)
  refine ps_set (X.keeps F.keep) he.1 fun h' tk' S => ?_
  obtain ⟨d, e1, e2, e3, e4, e5⟩ := S
  obtain ⟨od, o1, o2⟩ := told_of_ns e2
  have dL : d ≠ L := fun q => by obtain ⟨oL, _, _, z, _⟩ := F.ns; rw [q] at e4; rw [z] at e4; cases e4
  have fr0 : ∀ b, hh.get? b = none → h₀.get? b = none := fun b q => by
    cases z : h₀.get? b with
    | none => rfl
    | some o => rw [F.keep b o z] at q; cases q
  refine h h' d od tk' ⟨?_, fun b o q => e5 b o (fun z => by rw [z, he.2.2] at q; cases q) (F.keep b o q), F.above⟩ ?_ o2 (fun p hp q => ?_) e3
  · obtain ⟨oL, es, ep, z, r⟩ := F.ns
    exact ⟨oL, es, ep, e5 L oL (fun q => he.2.1 q.symm) z, r⟩
  · intro p hp
    rcases List.mem_cons.mp hp with rfl | hp
    · exact ⟨o1, dL, fr0 _ e4⟩
    · rcases List.mem_cons.mp hp with rfl | hp
      · exact ⟨e1, he.2.1, he.2.2⟩
      · have q := N p (.tail _ hp)
        exact ⟨e5 _ _ (hne p hp) q.1, q.2.1, q.2.2⟩
  · have z := (N p (.tail _ hp)).1
    rw [q, e4] at z; cases z
set_option maxRecDepth 100000 in
set_option maxHeartbeats 8000000 in
theorem ps_made {w : World} {mean : ExcName → Option Value} {mg mb : Str → Option Value} (b : Array UInt8) (tb : Tok) (dp un : Nat) (gd : Option (List Code)) (cn : Str) (cs : Scope) (a : Addr) (ccd : Value) (cl : List (Str × Addr)) (outer : List Env) (A₀ : Around) (base h₀ : Heap) (L : Addr) (m : Str → Option Value) (news : List (Addr × Obj)) (s : Shared) (Q E : Value → Shared → Prop)
    (B : Below A₀ base outer h₀) (F : Fr h₀ L s.heap m) (X : (hd.heap_39 w.params).In h₀) (N : News h₀ L s.heap news) (T : Top topProg LS mean mg mb h₀) (hk : cs.kind = .function)
    (hdp : dp + 4 < recursionLimit) (hun : un + 8 * 4 < cLine)
    (hret : ∀ e te d od h' tk', Fr h₀ L h' m → News h₀ L h' ((d, od) :: news) → HasTold od (.bytes b tb) → h'.get? e = some { excObj te with dict := some d } → h₀.get? e = none → e ≠ L → (∀ p ∈ (d, od) :: news, p.1 ≠ e) → (hd.heap_39 w.params).In h' → Q (.ref e) { s with heap := h', toks := tk' }) :
    wpAny (model PySem.Challenge.rw_pq0913_01.row.prog w) (ktrTop dp un gd cn cs L a ccd cl outer) (call (.ref 45) [.bytes b tb]) Q E s := by
  k_with_none; w_top off
  k_with "@bits" => with_reducible assumption
  k_with "@bits" => ((with_reducible apply Mine.bits_divd); bits_by_make)
  k_with "@bits" => ((with_reducible apply Mine.bits_prod) <;> bits_by_make)
  k_with "@binaryOp FloorDiv int int" => (k_here; (with_reducible refine floordiv_int ?kbe ?_ (Or.inl ?kbp)); (case kbe => first | omega | (split <;> omega) | k_dflt (have q9 := Mine.GwOk.kb (by assumption); omega) | k_dflt (have q9 := Mine.SqOk.pos (by assumption); omega)); (case kbp => ((with_reducible apply Mine.py_of_bits); (bits_by_make); decide)))
  k_with "@callWith ref" => (k_here; k_dflt (first | (refine' callWith_K ?k1 ?k2 ?_; (case k1 => with_reducible assumption); (case k2 => k_is); k_whole) | (refine' callWith_K0 ?k1 ?k2 ?_; (case k1 => exact Frag.In.keeps (by with_reducible assumption) (Fr.keep (by with_reducible assumption))); (case k2 => k_is); k_whole)))
  k_with "@execs nil" => (with_reducible refine wpAny_execs_nil ?_)
  k_with "@bits_fit" => ((with_reducible apply Mine.bits_le'); (bits_by_make); decide)
  k_with "@bits" => with_reducible exact Mine.bits_F36
  k_with "@bits" => with_reducible exact Mine.bits_S50
  revert X; k_fill; intro X
  obtain ⟨hh, g, dr, t, os⟩ := s
  refine ps_call (PsCls.of (X.keeps F.keep)) ?_ (by rw [sizeLine_eq]; simp)
  have F1 := (F.push (tupObj [.bytes b tb])).push (excObj hh.objs.size)
  have N1 := (N.push F (tupObj [.bytes b tb])).push (F.push _) (excObj hh.objs.size)
  rw [Heap.size_push] at N1
  have hlt : ∀ p ∈ news, p.1 < hh.objs.size := fun p hp => Heap.lt_size (N p hp).1
  have hnew : ∀ b o, h₀.get? b = some o → b < hh.objs.size := fun b o q => Heap.lt_size (F.keep b o q)
  have hL : L < hh.objs.size := by obtain ⟨oL, _, _, q, _⟩ := F.ns; exact Heap.lt_size q
  generalize hh.objs.size = z at *
  generalize (hh.push (tupObj [.bytes b tb])).push (excObj z) = h1 at *
  clear N F
  refine wpAny_call ?_
  k_dflt (refine' code_def ?k1 ?k2 ?k3 ?k4 ?k5 ?kA ?kF ?kK ?k6 ?k7 ?k8 ?k9 ?kB ?_ ?c2 ?c3 ?c4 ?c5; (case kA => exact rfl); (case kF => exact rfl); (case kK => assumption); (case k1 => k_asm); (case k2 => k_asm); (case k3 => k_asm); (case k4 => k_asm); (case k5 => k_asm); (case k6 => k_is); (case k7 => k_is); (case k8 => ktr_room); (case k9 => exact binds_K (by k_in) rfl (by k_is) rfl rfl rfl); (case c5 => decide); (case kB => exact locs rfl); (case c2 => exact rfl); (case c3 => exact rfl); (case c4 => exact rfl); k_whole; intro g' L' h' FG' F' N' B' X' T'; (try dsimp only); (try k_lift B'); (try k_fold))
  have hne1 : ∀ p ∈ (z, tupObj [.bytes b tb]) :: news, p.1 ≠ z + 1 := fun p hp => by
    rcases List.mem_cons.mp hp with rfl | hp
    · exact Nat.ne_of_lt (Nat.lt_succ_self _)
    · exact Nat.ne_of_lt (Nat.lt_succ_of_lt (hlt p hp))
  k_steps
  k_here
  refine ps_setN X' (by assumption) (by assumption) hne1 ?_
  intro h2 d od tk2 F2 N2 ht hd1 hd2
  dsimp only
  k_steps
  have N3 : News h₀ L h2 ((d, od) :: (z + 1, { excObj z with dict := some d }) :: (z, tupObj [.bytes b tb]) :: news) := by k_asm
  have F3 : Fr h₀ L h2 m := by k_asm
  refine hret (z + 1) z d od h2 tk2 F3 (fun p hp => N3 p ?_) ht (N3 _ (.tail _ (.head _))).1 (N3 _ (.tail _ (.head _))).2.2 (N3 _ (.tail _ (.head _))).2.1 (fun p hp => ?_) (X.keeps F3.keep)
  · rcases List.mem_cons.mp hp with rfl | hp
    · exact .head _
    · exact .tail _ (.tail _ (.tail _ hp))
  · rcases List.mem_cons.mp hp with rfl | hp
    · exact hd2
    · exact hne1 p (.tail _ hp)
end Mine
end
section
open PySem PySem.W PyProof.Rows
namespace Mine
open PySem.Builtin.Int (intBits)
open PySem.Calls
noncomputable def RaisedP (base G : Heap) (l : List Env) (e : Addr) (v : Value) (news : List (Addr × Obj)) (h : Heap) : Prop :=
  ∃ B d od, base.StaysIn B ∧ (∀ b o, G.get? b = some o → b ∉ l.filterMap (·.frame) → B.get? b = some o) ∧ (∀ q ∈ (d, od) :: news, B.get? q.1 = some q.2 ∧ G.get? q.1 = none ∧ base.get? q.1 = none) ∧ HasTold od v ∧ FlD B l e d .none h
section
variable {M : Model} {A : Around} {E : Value → Shared → Prop} {s' : Shared} {base g g₂ h : Heap} {outer : List Env} {L a e t d : Addr} {od : Obj} {m : Str → Option Value} {name : Str} {scope : Scope} {cd : Value} {Q : Unit → Shared → Prop} {news : List (Addr × Obj)} {v : Value}
theorem leave_firstP (K : Below A base outer g) (F : Fr g L s'.heap m) (N : News g L s'.heap ((d, od) :: news)) (ht : HasTold od v)
    (he : s'.heap.get? e = some { excObj t with dict := some d }) (hge : g.get? e = none) (heL : e ≠ L) (hne : ∀ p ∈ (d, od) :: news, p.1 ≠ e)
    (hQ : ∀ h', RaisedP base g outer e v news h' → g.UpToSlots h' → Q () { s' with heap := h' }) (hk : scope.kind = .function := by rfl) :
    wpAny M (A.deeper (envOf name scope L a cd)) (leaving (envOf name scope L a cd) (.ref e)) Q E s' := by
  have K' := K.push (name := name) (a := a) (cd := cd) F hk
  have hin : ∀ env ∈ (envOf name scope L a cd :: outer), ∀ b, env.frame = some b → b ∈ e :: (envOf name scope L a cd :: outer).filterMap (·.frame) := fun env he b hb => .tail _ (List.mem_filterMap.mpr ⟨env, he, hb⟩)
  have baseE : base.get? e = none := fresh_of_stays K.stays hge
  have st : base.StaysIn (hideAll s'.heap (e :: (envOf name scope L a cd :: outer).filterMap (·.frame))) := fun b o q => hideAll_get _ (K'.stays b o q) fun hm => by
    rcases List.mem_cons.mp hm with z | hm
    · rw [z, baseE] at q; cases q
    · rw [(K'.frames.mem hm).1] at q; cases q
  have sg : ∀ b o, g.get? b = some o → b ∉ outer.filterMap (·.frame) → (hideAll s'.heap (e :: (envOf name scope L a cd :: outer).filterMap (·.frame))).get? b = some o := fun b o q nm => hideAll_get _ (F.keep b o q) fun hm => by
    rcases List.mem_cons.mp hm with z | hm
    · rw [z, hge] at q; cases q
    · rcases kts_mem hm with z | z
      · rw [z, kts_self F] at q
        cases q
      · exact nm z
  have hl : ∀ q ∈ (d, od) :: news, (hideAll s'.heap (e :: (envOf name scope L a cd :: outer).filterMap (·.frame))).get? q.1 = some q.2 ∧ g.get? q.1 = none ∧ base.get? q.1 = none := fun q hq => by
    refine ⟨hideAll_get _ (N q hq).1 fun hm => ?_, (N q hq).2.2, fresh_of_stays K.stays (N q hq).2.2⟩
    rcases List.mem_cons.mp hm with z | hm
    · exact hne q hq z
    obtain ⟨env, he, hf⟩ := List.mem_filterMap.mp hm
    rcases List.mem_cons.mp he with rfl | he
    · exact (N q hq).2.1 (Option.some.inj hf).symm
    · obtain ⟨o, ho, _⟩ := (K.frames.mem (List.mem_filterMap.mpr ⟨env, he, hf⟩)).2
      rw [(N q hq).2.2] at ho; cases ho
  have hidE : (hideAll s'.heap (e :: (envOf name scope L a cd :: outer).filterMap (·.frame))).get? e = none := hideAll_none _ (.head _)
  refine d_leave_first K'.stack (funFrames_hide K'.frames hin) rfl he ⟨rfl, rfl⟩ (fun b o q => of_hideAll _ q) hidE rfl rfl fun h' x u => hQ h' ⟨_, d, od, st, sg, hl, ht, x⟩ ?_
  exact (Heap.UpToSlots.of_keeps F.keep).trans u
theorem leave_nextP (K : Below A base outer g) (F : Fr g L g₂ m) (R : RaisedP base g₂ (envOf name scope L a cd :: outer) e v news s'.heap) (hsm : g₂.UpToSlots s'.heap)
    (hQ : ∀ h', RaisedP base g outer e v news h' → g.UpToSlots h' → Q () { s' with heap := h' }) :
    wpAny M (A.deeper (envOf name scope L a cd)) (leaving (envOf name scope L a cd) (.ref e)) Q E s' := by
  obtain ⟨B, d, od, hB, hBG, hl, ht, hfl⟩ := R
  exact d_leave_next (Around.frames_deeper K.stack) rfl hfl fun h' x u =>
    hQ h' ⟨B, d, od, hB, fun b o q nm => hBG b o (F.keep b o q) (fun hm => by
      rcases kts_mem hm with z | z
      · rw [z, kts_self F] at q
        cases q
      · exact nm z), fun q hq => ⟨(hl q hq).1, kts_none F.keep (hl q hq).2.1, (hl q hq).2.2⟩, ht, x⟩ ((Heap.UpToSlots.of_keeps F.keep).trans (hsm.trans u))
theorem RaisedP.drop {l : List Env} {news' : List (Addr × Obj)} (R : RaisedP base g l e v news h) (hs : ∀ p ∈ news', p ∈ news) : RaisedP base g l e v news' h := by
  obtain ⟨B, d, od, hB, hBG, hl, ht, hfl⟩ := R
  refine ⟨B, d, od, hB, hBG, fun q hq => ?_, ht, hfl⟩
  rcases List.mem_cons.mp hq with rfl | hq
  · exact hl _ (.head _)
  · exact hl _ (.tail _ (hs q hq))
end
/-- a call that raises PsError with these octets -/
noncomputable def ClX (w : World) (mean : ExcName → Option Value) (mg mb : Str → Option Value) (f : Addr) (dep : Nat) (vs : List Value) (b : Array UInt8) : Prop :=
  ∀ (dp un : Nat) (gd : Option (List Code)) (cn : Str) (cs : Scope) (a : Addr) (ccd : Value) (cl : List (Str × Addr)) (outer : List Env) (A₀ : Around) (base h₀ : Heap) (L : Addr) (m : Str → Option Value) (news : List (Addr × Obj)) (s : Shared) (Q E : Value → Shared → Prop),
    Below A₀ base outer h₀ → Fr h₀ L s.heap m → (hd.heap_39 w.params).In h₀ → News h₀ L s.heap news → Top topProg LS mean mg mb h₀ → cs.kind = .function →
    dp + dep < recursionLimit → un + 8 * dep < cLine →
    (∀ e tb g h' tk', Fr h₀ L g m → RaisedP base g (envX cn cs L a ccd cl :: outer) e (.bytes b tb) news h' → g.UpToSlots h' → E (.ref e) { s with heap := h', toks := tk' }) →
      wpAny (model PySem.Challenge.rw_pq0913_01.row.prog w) (ktrTop dp un gd cn cs L a ccd cl outer) (call (.ref f) vs) Q E s
theorem ClX.use {w : World} {mean : ExcName → Option Value} {mg mb : Str → Option Value} {f : Addr} {dep : Nat} {vs : List Value} {b : Array UInt8}
    {dp un : Nat} {gd : Option (List Code)} {cn : Str} {cs : Scope} {a : Addr} {ccd : Value} {cl : List (Str × Addr)} {outer : List Env} {A₀ : Around} {base h₀ : Heap} {L : Addr} {m : Str → Option Value} {news : List (Addr × Obj)} {s : Shared} {Q E : Value → Shared → Prop}
    (C : ClX w mean mg mb f dep vs b) (B : Below A₀ base outer h₀) (F : Fr h₀ L s.heap m) (X : (hd.heap_39 w.params).In h₀) (N : News h₀ L s.heap news) (T : Top topProg LS mean mg mb h₀) (hk : cs.kind = .function)
    (hd : dp + dep < recursionLimit) (hu : un + 8 * dep < cLine) (ret : ∀ e tb g h' tk', Fr h₀ L g m → RaisedP base g (envX cn cs L a ccd cl :: outer) e (.bytes b tb) news h' → g.UpToSlots h' → E (.ref e) { s with heap := h', toks := tk' }) :
    wpAny (model PySem.Challenge.rw_pq0913_01.row.prog w) (ktrTop dp un gd cn cs L a ccd cl outer) (call (.ref f) vs) Q E s :=
  C _ _ _ _ _ _ _ _ _ _ _ _ _ _ _ _ _ _ B F X N T hk hd hu ret
end Mine
end
section
open PySem PySem.W PyProof.Rows
namespace Mine
open PySem.Builtin.Int (intBits)
open PySem.Calls
noncomputable def RaisablePs (w : World) (E : Value → Shared → Prop) (v : Value) (s₁ : Shared) : Prop :=
  ∃ e te d, v = .ref e ∧ (hd.heap_39 w.params).In s₁.heap ∧ s₁.heap.get? e = some { excObj te with dict := some d } ∧ E (.ref e) s₁
theorem Raise_ps {prog : Program} {w : World} {A : Around} {E : Value → Shared → Prop} {s : Shared} {env : Env} {e : Expr} {pos : Pos} {Q : Flow → Shared → Prop} (hh : A.handled = none)
    (h : wpAny (model prog w) A (eval e env) (RaisablePs w E) E s) : wpAny (model prog w) A (exec (.Raise (some e) none pos) env) Q E s := by
  show wpAny (model prog w) A (do standAt pos; raiseStmt env (some (do let v ← eval e env; standAt pos; pure v)) none) Q E s
  refine wpAny_bind (wpAny_standAt ?_)
  unfold raiseStmt
  dsimp only
  refine wpAny_bind (wpAny_bind (wpAny_mono h (fun v s₁ h₁ => wpAny_bind (wpAny_standAt (wpAny_pure ?_))) fun _ _ x => x))
  obtain ⟨x, te, d, rfl, X, he, hE⟩ := h₁
  obtain ⟨nm, q, bs, sn, sub, ab, col, dd, k0, k1, k2, k3, k5, hC⟩ := (PsCls.of (M := model prog w) X).obj
  have hcB : (Value.ref 45 :: bmP).contains (.type "BaseException") = true := by decide +kernel
  obtain ⟨hp, g, dr, tk, os⟩ := s₁
  repeat (first | with_reducible refine wpAny_loadPart_at he ?_ | with_reducible refine wpAny_loadPart_at hC ?_ | (with_reducible refine wpAny_isSubtype_exc hC ?_; rw [hcB]) | wp_step)
  exact wpAny_raiseNew_none hh hE
end Mine
end
section
open PySem PySem.W PyProof.Rows
namespace Mine
open PySem.Builtin.Int (intBits)
open PySem.Calls PySem.Builtin PySem.Builtin.ObjectAttr
section
variable {prog : Program} {w : World} {A : Around} {E : Value → Shared → Prop} {h : Heap} {g : Array GenState} {dr : Drawn} {t : Nat} {os : OsState} {e d : Addr} {oe od : Obj} {v : Value}
set_option maxRecDepth 100000 in
theorem told_find (ht : HasTold od v) : findObj (hd.heap_39 w.params) 45 (some od) "told" = some (.value v) := by
  have hc : clsIn (hd.heap_39 w.params) 45 = some _ := rfl
  have hn : findIn (hd.heap_39 w.params) (.ref 45) "told" = some none := by kernel_rfl
  have ho : ∀ cd : ClassData, cd.hasDict = true → PySem.W.ownOf cd (some od) "told" = some (some v) := fun cd q => by
    unfold PySem.W.ownOf; rw [q]; exact ht
  unfold findObj
  rw [hc, Option.bind_some, hn, Option.bind_some]
  dsimp only [Option.bind_some]
  rw [ho _ rfl]
  rfl
theorem ps_get {expr : Bool} {Q : Value → Shared → Prop} (X : (hd.heap_39 w.params).In h) (he : h.get? e = some oe) (hP : IsPs d oe) (hno : notCls oe = true) (hod : h.get? d = some od) (ht : HasTold od v) (hv : handedIn v = true)
    (hq : Q v ⟨h, g, dr, t + 1, os⟩) : wpAny (model prog w) A (getAttr (.ref e) "told" expr) Q E ⟨h, g, dr, t, os⟩ := by
  have I : InstAt h e oe 45 (some od) := ⟨he, hP.1, hno, by rw [hP.2]; exact hod⟩
  have L0 := I.type (M := model prog w)
  have L1 : Looks (model prog w) h (typeLookup (.ref 45) "__getattribute__") (some (.builtin "BaseException.__getattribute__")) := looks_findIn X (by kernel_rfl)
  have L2 : Looks (model prog w) h (typeLookup (.ref 45) "__getattr__") none := looks_findIn X (by kernel_rfl)
  have L3 := looks_find (M := model prog w) X I (told_find ht)
  have sub : Looks (model prog w) h (isInstance (.ref e) (.type "BaseException")) true := I.type.andThen (looks_mroIn X (by kernel_rfl))
  have FB := PySem.F.attr_Exception
  have f3 := FB.ga.bind (.ref e)
  have hx0 : (expr && onTheHeap (Value.builtin "BaseException.__getattribute__")) = false := by cases expr <;> rfl
  have hk : builtinKind "BaseException.__getattribute__" = some .slot := by decide +kernel
  have hsplit : splitId "BaseException.__getattribute__" = some ("BaseException", "__getattribute__") := by decide +kernel
  have hh := handedOut_of hv
  unfold getAttr getAttrBy
  refine wpAny_bind (wpAny_mkText (wpAny_holding (wpAny_bind (L0.at (wpAny_bind (L1.at ?_))))))
  show wpAny _ _ (getAttrByItsOwn _ _ _ _ _ _) _ _ _
  unfold getAttrByItsOwn hookBefore
  rw [if_pos (show onTheHeap (Value.ref 45) = true from rfl)]
  refine wpAny_bind (L2.at (wpAny_bind ?_))
  unfold callGetattribute
  rw [hx0]
  simp only [Bool.false_eq_true, if_false]
  unfold boundAndCalled
  refine wpAny_attempt (wpAny_holding ?_)
  rw [f3]
  refine wpAny_bind (wpAny_pure (wpAny_call ?_))
  refine codeAny_call_builtin FB.ga.plain F.entry_bexc_ga (@check_slot (model prog w) _ _ _ "BaseException.__getattribute__" "BaseException" "__getattribute__" (.ref e) [.str "told" t] [] _ hk hsplit sub (F.args_bexc_ga (.ref e) (.str ("told" : Str) t)) ?_)
  unfold Builtin.«object.__getattribute__»
  repeat lk
  show wpAny _ _ (handedOut v) _ _ _
  rw [hh]
  exact wpAny_pure hq
end
end Mine
end
section
open PySem PySem.W PyProof.Rows
namespace Mine
open PySem.Builtin.Int (intBits)
open PySem.Calls
section
variable {prog : Program} {w : World} {A₀ : Around} {E : Value → Shared → Prop} {s' : Shared} {base g G : Heap} {outer : List Env} {L a e : Addr} {m : Str → Option Value} {name : Str} {scope : Scope} {cd : Value}
  {v : Value} {n : Str} {b₀ : Stmt} {suite : List Stmt} {pos np : Pos} {rest : List ExceptHandler} {Q : Flow → Shared → Prop} {news : List (Addr × Obj)}
  {p : Program} {loose : List Str} {mean : ExcName → Option Value} {mg mb : Str → Option Value}
/-- the exception is caught by its class's name, its told at hand -/
theorem caught_P (R : RaisedP base G (envOf name scope L a cd :: outer) e v news s'.heap) (F : Fr g L G m) (K : Below A₀ base outer g) (hsm : G.UpToSlots s'.heap) (XB : (hd.heap_39 w.params).In base) (TB : Top p loose mean mg mb base)
    (D : KtsDicts (outer.filterMap (·.frame)) g)
    (ex : nsIn (hd.heap_39 w.params) mainGlobals "PsError" = some (some (.ref 45)))
    (k : ∀ h' g' d od oe ws tk, KtsTurn (outer.filterMap (·.frame)) g g' → Fr g' L h' (fun y => if y = n then some (.ref e) else m y) → News g' L h' ((e, oe) :: (d, od) :: news) → IsPs d oe → oe.data = .fields ws → HasTold od v → Below A₀ base outer g' → (hd.heap_39 w.params).In g' → Top p loose mean mg mb g' → KtsDicts (outer.filterMap (·.frame)) g' →
      wpAny (model prog w) ((A₀.deeper (envOf name scope L a cd)).mark (some (.ref e))) (execs (b₀ :: suite) (envOf name scope L a cd))
        (fun f s₄ => wpAny (model prog w) (A₀.deeper (envOf name scope L a cd)) (do bindName (envOf name scope L a cd) n .none; unbindBehindTheSuite (envOf name scope L a cd) n pos) (fun _ s₅ => Q f s₅) E s₄)
        (AsSuiteRaised (model prog w) ((A₀.deeper (envOf name scope L a cd)).mark (some (.ref e))) (envOf name scope L a cd) n pos (notedBy (model prog w) ((A₀.deeper (envOf name scope L a cd)).mark (some (.ref e))) (envOf name scope L a cd) (cameBackBy (model prog w) (A₀.deeper (envOf name scope L a cd)) (envOf name scope L a cd) E)))
        { s' with heap := h', toks := tk })
    (hk : scope.kind = .function := by rfl) (hlo : (envOf name scope L a cd).kindOf n = some .local := by rfl) (hx : (envOf name scope L a cd).kindOf "PsError" = some .globalImplicit := by rfl) (hdbg : (("PsError" : Str) == ("__debug__" : Str)) = false := by decide) :
    wpAny (model prog w) (A₀.deeper (envOf name scope L a cd)) (noteFrame (.ref e) (envOf name scope L a cd))
      (fun _ s₂ => wpAny (model prog w) (A₀.deeper (envOf name scope L a cd)) (setFlight (.ref e) none) (fun _ s₃ =>
        wpAny (model prog w) (A₀.deeper (envOf name scope L a cd)) (handleBy (.ref e) (envOf name scope L a cd) (.ExceptHandler (some (.Name "PsError" np)) (some n) (b₀ :: suite) pos :: rest)) Q E s₃) E s₂) E s' := by
  obtain ⟨B, d, od, hB, hBG, hl, ht, hfl⟩ := R
  have hL : B.get? L = none := by
    obtain ⟨_, ⟨L', _, hf, hn', _⟩, _⟩ := hfl.2.2.1
    obtain rfl : L = L' := Option.some.inj hf
    exact hn'
  refine d_note_next (Around.frames_deeper K.stack) rfl hfl fun h₄ hheld₄ hsm₄ => ?_
  refine d_lands hheld₄ fun h₅ hheld hsm₅' => ?_
  have hsm₅ : s'.heap.UpToSlots h₅ := UpS.trans hsm₄ hsm₅'
  obtain ⟨g₅, T₅, F₅, K₅⟩ := kts_ground K F hBG hheld.1 (hsm.trans hsm₅)
  have X₅ : (hd.heap_39 w.params).In g₅ := XB.keeps K₅.stays
  have P₅ : TopRead p loose mg mb g₅ := topRead_of (TB.keeps K₅.stays)
  obtain ⟨ob, hob, hobP, _⟩ := hheld.obj
  obtain ⟨nm, q', bs, sn, sub, ab, col, dd, k0, k1, k2, k3, k5, hC⟩ := (PsCls.of (M := model prog w) X₅).obj
  have hC₅ := F₅.keep _ _ hC
  refine wpAny_handleBy_cons (codeAny_handlers_test (name_K F₅ X₅ P₅ ex ?_ hk hx hdbg)) (by intro q; cases q)
  refine wpAny_excMatches_sub_self hC₅ hob hobP.1 (by decide +kernel) (codeAny_handlers_suite_as ?_)
  refine d_lands hheld fun h₆ hfl₆ hsm₆ => ?_
  have hs6 : G.UpToSlots h₆ := (hsm.trans hsm₅).trans hsm₆
  obtain ⟨g₆, T₆, F₆, K₆⟩ := kts_ground K F hBG hfl₆.1 hs6
  obtain ⟨oe, hoe, hoeP, ws, hoed⟩ := hfl₆.obj
  have ne₆ : g₆.get? e = none := T₆.none_ _ (kts_fresh F hBG hfl₆.2.1 fun o ho m => by
    obtain ⟨_, o', ho', hdd⟩ := K.frames.mem m
    rw [ho] at ho'
    cases ho'
    obtain ⟨sl, hs⟩ := hs6 _ _ (F.keep _ _ ho) hdd
    rw [hoe] at hs
    cases hs
    exact hdd _ hoed)
  have eL : e ≠ L := fun q => by
    obtain ⟨oL, es, ep, z, zd, _⟩ := F₆.ns
    rw [q, z] at hoe
    cases hoe
    rw [zd] at hoed
    cases hoed
  have Nl : News g₆ L h₆ ((e, oe) :: (d, od) :: news) := fun q hq => by
    rcases List.mem_cons.mp hq with rfl | hq
    · exact ⟨hoe, eL, ne₆⟩
    · exact ⟨hfl₆.1 _ _ (hl q hq).1, (fun z => by have := (hl q hq).1; rw [z, hL] at this; cases this), T₆.none_ _ (kts_none F.keep (hl q hq).2.1)⟩
  have X₆ : (hd.heap_39 w.params).In g₆ := XB.keeps K₆.stays
  have P₆ : Top p loose mean mg mb g₆ := TB.keeps K₆.stays
  have D₆ : KtsDicts (outer.filterMap (·.frame)) g₆ := D.turn T₆
  refine stN F₆ Nl (fun h₇ F₇ N₇ => ?_) hk hlo
  exact k h₇ g₆ d od oe ws _ T₆ F₇ N₇ hoeP hoed ht K₆ X₆ P₆ D₆
end
/-- a call that gives back R, the frames below perhaps turned in their slots -/
noncomputable def ClT (w : World) (mean : ExcName → Option Value) (mg mb : Str → Option Value) (f : Addr) (dep : Nat) (vs : List Value) (news : List (Addr × Obj)) (R : Tok → Value) : Prop :=
  ∀ (dp un : Nat) (gd : Option (List Code)) (cn : Str) (cs : Scope) (a : Addr) (ccd : Value) (cl : List (Str × Addr)) (outer : List Env) (A₀ : Around) (base h₀ : Heap) (L : Addr) (m : Str → Option Value) (s : Shared) (Q E : Value → Shared → Prop),
    Below A₀ base outer h₀ → Fr h₀ L s.heap m → (hd.heap_39 w.params).In h₀ → News h₀ L s.heap news → Top topProg LS mean mg mb h₀ → cs.kind = .function →
    (hd.heap_39 w.params).In base → Top topProg LS mean mg mb base → KtsDicts (outer.filterMap (·.frame)) h₀ →
    dp + dep < recursionLimit → un + 8 * dep < cLine →
    (∀ t h₀' h' tk', KtsTurn (outer.filterMap (·.frame)) h₀ h₀' → Fr h₀' L h' m → News h₀' L h' news → Below A₀ base outer h₀' → (hd.heap_39 w.params).In h₀' → Top topProg LS mean mg mb h₀' → KtsDicts (outer.filterMap (·.frame)) h₀' → Q (R t) { s with heap := h', toks := tk' }) →
      wpAny (model PySem.Challenge.rw_pq0913_01.row.prog w) (ktrTop dp un gd cn cs L a ccd cl outer) (call (.ref f) vs) Q E s
end Mine
end
section
open PySem PySem.W PyProof.Rows
namespace Mine
open PySem.Builtin.Int (intBits)
open PySem.Calls
noncomputable def LeaveT (fs : List Addr) (w : World) (A₀ : Around) (base : Heap) (outer : List Env) (p : Program) (loose : List Str) (mean : ExcName → Option Value) (mg mb : Str → Option Value) (h₀ : Heap) (L : Addr) (m : Str → Option Value) (g : Heap) (R : Result → Shared → Prop) (v : Value) (s' : Shared) : Prop :=
  ∃ g' L' m' news', KtsTurn fs g g' ∧ Fr g' L' s'.heap m' ∧ News g' L' s'.heap news' ∧ ∀ h₀', KtsTurn (outer.filterMap (·.frame)) h₀ h₀' → Fr h₀' L s'.heap m → News h₀' L s'.heap news' → Below A₀ base outer h₀' → (hd.heap_39 w.params).In h₀' → Top p loose mean mg mb h₀' →
    KtsDicts (outer.filterMap (·.frame)) h₀' → R (.ok (.ret v)) s'
section
variable {prog : Program} {w : World} {A₀ A : Around} {s : Shared} {base h₀ : Heap} {outer : List Env} {env : Env} {L : Addr} {m : Str → Option Value} {news : List (Addr × Obj)} {p : Program} {loose : List Str} {mean : ExcName → Option Value} {mg mb : Str → Option Value}
    {R : Result → Shared → Prop} {name qual : Str} {params : Arguments} {body : List Stmt} {scope : Scope} {dV kV doc pm cdv ct oc : Value} {an od : Option Addr} {osl : Array (Option Value)} {f : Addr} {args : Args} {binds : List (Str × Value)}
theorem kts_memX (hf : env.frame = some L) {b : Addr} (hm : b ∈ (env :: outer).filterMap (·.frame)) : b = L ∨ b ∈ outer.filterMap (·.frame) := by
  obtain ⟨e, he, hfe⟩ := List.mem_filterMap.mp hm
  rcases List.mem_cons.mp he with rfl | he
  · exact .inl (Option.some.inj (hfe.symm.trans hf))
  · exact .inr (List.mem_filterMap.mpr ⟨e, he, hfe⟩)
theorem groundT (B : Below A₀ base outer h₀) (F : Fr h₀ L s.heap m) (X₀ : (hd.heap_39 w.params).In h₀) (N : News h₀ L s.heap news) (T : Top p loose mean mg mb h₀) (XB : (hd.heap_39 w.params).In base) (TB : Top p loose mean mg mb base) (D : KtsDicts (outer.filterMap (·.frame)) h₀)
    (hA : A.frames = some (env :: outer)) (hf : env.frame = some L) (hke : env.scope.kind = .function) :
    Fr h₀ L (hideAll s.heap (news.map (·.1))) m ∧ Below A base (env :: outer) (hideAll s.heap (news.map (·.1))) ∧ (hd.heap_39 w.params).In (hideAll s.heap (news.map (·.1))) ∧ Top p loose mean mg mb (hideAll s.heap (news.map (·.1))) ∧ KtsDicts ((env :: outer).filterMap (·.frame)) (hideAll s.heap (news.map (·.1))) ∧
      ∀ v s', LeaveT ((env :: outer).filterMap (·.frame)) w A₀ base outer p loose mean mg mb h₀ L m (hideAll s.heap (news.map (·.1))) R v s' → R (.ok (.ret v)) s' := by
  obtain ⟨FG, BG, st, _⟩ := groundX (R := R) B F N hA hf hke
  obtain ⟨oL, es, ep, hLg, hLd, hLk, hLf⟩ := id FG.ns
  have nL₀ : h₀.get? L = none := kts_self F
  refine ⟨FG, BG, X₀.keeps st, T.keeps st, fun b hb => ?_, fun v s' hl => ?_⟩
  · rcases kts_memX hf hb with rfl | hb
    · exact ⟨oL, es, ep, hLg, hLd⟩
    · obtain ⟨o, es', n', ho', hd'⟩ := D b hb
      exact ⟨o, es', n', st b o ho', hd'⟩
  obtain ⟨g', L', m', news', T', F', N', k⟩ := hl
  obtain ⟨sl, hs⟩ := T'.up hLg
  obtain ⟨T₁, S₁⟩ := kts_turn_at (h := s'.heap) (fs := outer.filterMap (·.frame)) (g := h₀)
    (fun b hb => by
      obtain ⟨_, o, ho', _⟩ := B.frames.mem hb
      exact ⟨o, ho'⟩)
    (fun b o e nmem => F'.keep b o (T'.other b o (st b o e) (fun q => by
      rcases kts_memX hf q with z | z
      · rw [z, nL₀] at e
        cases e
      · exact nmem z)))
    (fun b o e hm => by
      obtain ⟨sl', hs'⟩ := T'.up (st b o e)
      exact ⟨sl', F'.keep _ _ hs'⟩)
  have B₃ : Below A₀ base outer (ktsHeap s'.heap (outer.filterMap (·.frame)) h₀) := ⟨B.stack, fun b o e => T₁.other b o (B.stays b o e) (fun hm => by
    rw [(B.frames.mem hm).1] at e
    cases e), B.frames.of_keeps fun b o e _ => by
    obtain ⟨sl', hs'⟩ := T₁.up e
    exact ⟨_, hs', rfl⟩⟩
  refine k _ T₁ ⟨⟨_, es, ep, F'.keep _ _ hs, hLd, hLk, hLf⟩, S₁, by rw [T₁.size]; exact F.above⟩ (fun p hp => ⟨(N' p hp).1, fun q => ?_, ?_⟩) B₃ (XB.keeps B₃.stays) (TB.keeps B₃.stays) (D.turn T₁)
  · have := (N' p hp).2.2; rw [q, hs] at this; cases this
  · refine T₁.none_ _ ?_
    cases q : h₀.get? p.1 with
    | none => rfl
    | some o =>
      obtain ⟨sl', hs'⟩ := T'.up (st _ _ q)
      have := (N' p hp).2.2
      rw [hs'] at this
      cases this
theorem code_T (B : Below A₀ base outer h₀) (F : Fr h₀ L s.heap m) (X₀ : (hd.heap_39 w.params).In h₀) (N : News h₀ L s.heap news) (T : Top p loose mean mg mb h₀) (XB : (hd.heap_39 w.params).In base) (TB : Top p loose mean mg mb base) (D : KtsDicts (outer.filterMap (·.frame)) h₀)
    (hA : A.frames = some (env :: outer)) (hf : env.frame = some L) (hke : env.scope.kind = .function)
    (ho : (hd.heap_39 w.params).lookup f = some ⟨oc, od, .func (fnOf name qual params body scope dV kV doc pm an cdv ct), osl⟩) (hcd : codeIn (hd.heap_39 w.params) cdv qual = true) (hroom : A.depth < recursionLimit)
    (hbind : BindsTo s (fnOf name qual params body scope dV kV doc pm an cdv ct) args binds) (hloc : ∀ y ∈ binds, scope.names.lookup y.1 = some .local)
    (h : ∀ g L' h₁, Fr h₀ L g m → Fr g L' h₁ (fun y => binds.reverse.lookup y) → News g L' h₁ news → Below A base (env :: outer) g → (hd.heap_39 w.params).In g → Top p loose mean mg mb g → KtsDicts ((env :: outer).filterMap (·.frame)) g →
      wpAny (model prog w) (A.deeper (envOf qual scope L' f cdv)) (execs body (envOf qual scope L' f cdv))
        (fun fl s' => LeaveT ((env :: outer).filterMap (·.frame)) w A₀ base outer p loose mean mg mb h₀ L m g R (match fl with | .ret v => v | _ => .none) s')
        (fun e s' => wpAny (model prog w) (A.deeper (envOf qual scope L' f cdv)) (leaving (envOf qual scope L' f cdv) e) (fun _ s'' => R (.error e) s'') (fun e' s'' => R (.error e') s'') s')
        { s with heap := h₁, toks := s.toks + binds.length })
    (hco : scope.isCoroutine = false) (hgen : scope.isGenerator = false) (hk : scope.kind = .function)
    (hcell : ∀ x ∈ scope.names, x.2 ≠ .cell) : codeAny (model prog w) A (.call (.ref f) args) R s := by
  have X := X₀.keeps F.keep
  obtain ⟨FG, BG, XG, TG, DG, lv⟩ := groundT (R := R) B F X₀ N T XB TB D hA hf hke
  refine codeAny_call_def (fd := fnOf name qual params body scope dV kV doc pm an cdv ct) (body := body) (binds := binds) hroom (X _ _ ho) rfl (T.nolimit.keeps F.keep) (codeRec_of X hcd) rfl hbind hcell hloc (fun h₁ hns hk₁ => ?_) hco hgen hk
  exact wpAny_mono (h _ s.heap.objs.size h₁ FG ⟨hns, fun b o e => hk₁ b o (of_hideAll _ e), Nat.le_of_eq (hideAll_size _ _)⟩
    (fun p hp => ⟨hk₁ _ _ (N p hp).1, Nat.ne_of_lt (Heap.lt_size (N p hp).1), hideAll_none _ (List.mem_map_of_mem hp)⟩) BG XG TG DG) (fun fl s' hl => lv _ _ hl) fun _ _ y => y
/-- the same for a def whose names are captured -/
theorem code_TC (B : Below A₀ base outer h₀) (F : Fr h₀ L s.heap m) (X₀ : (hd.heap_39 w.params).In h₀) (N : News h₀ L s.heap news) (T : Top p loose mean mg mb h₀) (XB : (hd.heap_39 w.params).In base) (TB : Top p loose mean mg mb base) (D : KtsDicts (outer.filterMap (·.frame)) h₀)
    (hA : A.frames = some (env :: outer)) (hf : env.frame = some L) (hke : env.scope.kind = .function)
    (ho : (hd.heap_39 w.params).lookup f = some ⟨oc, od, .func (fnOf name qual params body scope dV kV doc pm an cdv ct), osl⟩) (hcd : codeIn (hd.heap_39 w.params) cdv qual = true) (hroom : A.depth < recursionLimit)
    (hbind : BindsTo s (fnOf name qual params body scope dV kV doc pm an cdv ct) args binds) (hkind : (binds.all fun y => scope.names.lookup y.1 == some .local || scope.names.lookup y.1 == some .cell) = true)
    (hnd : ((cellsFrom 0 scope.names []).map (·.1)).Nodup)
    (h : ∀ g L' h₁ tk cells, Fr h₀ L g m → Fr g L' h₁ (bindL (envOfC qual scope L' f cdv).kindOf binds fun _ => none) → News g L' h₁ (cells ++ news) →
      CellsAre (bindC (envOfC qual scope L' f cdv).kindOf binds fun _ => none) (cellsFrom (L' + 1) scope.names []) cells → Below A base (env :: outer) g → (hd.heap_39 w.params).In g → Top p loose mean mg mb g → KtsDicts ((env :: outer).filterMap (·.frame)) g → (∀ p ∈ news, p.1 < L') →
      wpAny (model prog w) (A.deeper (envOfC qual scope L' f cdv)) (execs body (envOfC qual scope L' f cdv))
        (fun fl s' => LeaveT ((env :: outer).filterMap (·.frame)) w A₀ base outer p loose mean mg mb h₀ L m g R (match fl with | .ret v => v | _ => .none) s')
        (fun e s' => wpAny (model prog w) (A.deeper (envOfC qual scope L' f cdv)) (leaving (envOfC qual scope L' f cdv) e) (fun _ s'' => R (.error e) s'') (fun e' s'' => R (.error e') s'') s')
        { s with heap := h₁, toks := tk })
    (hco : scope.isCoroutine = false) (hgen : scope.isGenerator = false) (hk : scope.kind = .function) : codeAny (model prog w) A (.call (.ref f) args) R s := by
  have X := X₀.keeps F.keep
  obtain ⟨FG, BG, XG, TG, DG, lv⟩ := groundT (R := R) B F X₀ N T XB TB D hA hf hke
  refine codeAny_call_function hroom (X _ _ ho) rfl hco hgen rfl (codeRec_of X hcd) (hbind _ _ _ _ ?_)
  refine wpAny_newFunctionEnv_cells hk (fun x hx => kindsX hkind _ x hx) fun env' he s' x => ?_
  subst he
  refine ⟨(T.nolimit.keeps F.keep).keeps x.toInCall.keep, codeAny_func ?_⟩
  obtain ⟨h₁, tk, rfl, _⟩ := x.done
  have hk₁ := x.toInCall.keep
  obtain ⟨cells, NC, Y⟩ := Cl.news (h₀ := s.heap) (Nat.le_refl _) fun n c hm => ⟨x.cell n c (lookup_of_mem_nodup (cellsFrom_names scope.names 0 (s.heap.objs.size + 1) [] [] rfl ▸ hnd) hm), x.above n c hm⟩
  refine wpAny_mono (h _ s.heap.objs.size h₁ tk cells FG ⟨x.toInCall.ns, fun b o e => hk₁ b o (of_hideAll _ e), Nat.le_of_eq (hideAll_size _ _)⟩ (fun p hp => ?_) Y BG XG TG DG (fun p hp => Heap.lt_size (N p hp).1)) (fun fl s' hl => lv _ _ hl) fun _ _ y => y
  rcases List.mem_append.mp hp with hp | hp
  · refine ⟨(NC p hp).1, (NC p hp).2.1, ?_⟩
    cases q : (hideAll s.heap (news.map (·.1))).get? p.1 with
    | none => rfl
    | some o => have := of_hideAll _ q; rw [(NC p hp).2.2] at this; cases this
  · exact ⟨hk₁ _ _ (N p hp).1, Nat.ne_of_lt (Heap.lt_size (N p hp).1), hideAll_none _ (List.mem_map_of_mem hp)⟩
end
theorem ps_getN {prog : Program} {w : World} {A : Around} {E : Value → Shared → Prop} {s : Shared} {h₀ : Heap} {L e d : Addr} {m : Str → Option Value} {oe od : Obj} {ws : Array Value} {news : List (Addr × Obj)} {v : Value} {expr : Bool} {Q : Value → Shared → Prop}
    (X : (hd.heap_39 w.params).In h₀) (F : Fr h₀ L s.heap m) (N : News h₀ L s.heap ((e, oe) :: (d, od) :: news)) (hP : IsPs d oe) (hw : oe.data = .fields ws) (ht : HasTold od v) (hv : handedIn v = true) (hq : Q v { s with toks := s.toks + 1 }) :
    wpAny (model prog w) A (getAttr (.ref e) "told" expr) Q E s := by
  obtain ⟨hh, g, dr, t, os⟩ := s
  exact ps_get (X.keeps F.keep) (N _ (.head _)).1 hP (by unfold notCls; rw [hw]) (N _ (.tail _ (.head _))).1 ht hv hq
end Mine
end
section
open PySem PySem.W PyProof.Rows
namespace Mine
open PySem.Builtin.Int (intBits)
noncomputable def ClRN (w : World) (mean : ExcName → Option Value) (mg mb : Str → Option Value) (f : Addr) (dep : Nat) (vs : List Value) (news : List (Addr × Obj)) (R : Tok → Value) : Prop :=
  ∀ (dp un : Nat) (gd : Option (List Code)) (cn : Str) (cs : Scope) (a : Addr) (ccd : Value) (cl : List (Str × Addr)) (outer : List Env) (A₀ : Around) (base h₀ : Heap) (L : Addr) (m : Str → Option Value) (s : Shared) (Q E : Value → Shared → Prop),
    Below A₀ base outer h₀ → Fr h₀ L s.heap m → (hd.heap_39 w.params).In h₀ → News h₀ L s.heap news → Top topProg LS mean mg mb h₀ → cs.kind = .function →
    dp + dep < recursionLimit → un + 8 * dep < cLine → CbRet h₀ L m news s Q R →
      wpAny (model PySem.Challenge.rw_pq0913_01.row.prog w) (ktrTop dp un gd cn cs L a ccd cl outer) (call (.ref f) vs) Q E s
noncomputable def ClXN (w : World) (mean : ExcName → Option Value) (mg mb : Str → Option Value) (f : Addr) (dep : Nat) (vs : List Value) (news : List (Addr × Obj)) (b : Array UInt8) : Prop :=
  ∀ (dp un : Nat) (gd : Option (List Code)) (cn : Str) (cs : Scope) (a : Addr) (ccd : Value) (cl : List (Str × Addr)) (outer : List Env) (A₀ : Around) (base h₀ : Heap) (L : Addr) (m : Str → Option Value) (s : Shared) (Q E : Value → Shared → Prop),
    Below A₀ base outer h₀ → Fr h₀ L s.heap m → (hd.heap_39 w.params).In h₀ → News h₀ L s.heap news → Top topProg LS mean mg mb h₀ → cs.kind = .function →
    dp + dep < recursionLimit → un + 8 * dep < cLine →
    (∀ e tb g h' tk', Fr h₀ L g m → RaisedP base g (envX cn cs L a ccd cl :: outer) e (.bytes b tb) news h' → g.UpToSlots h' → E (.ref e) { s with heap := h', toks := tk' }) →
      wpAny (model PySem.Challenge.rw_pq0913_01.row.prog w) (ktrTop dp un gd cn cs L a ccd cl outer) (call (.ref f) vs) Q E s
theorem ClRN.use {w : World} {mean : ExcName → Option Value} {mg mb : Str → Option Value} {f : Addr} {dep : Nat} {vs : List Value} {R : Tok → Value}
    {dp un : Nat} {gd : Option (List Code)} {cn : Str} {cs : Scope} {a : Addr} {ccd : Value} {cl : List (Str × Addr)} {outer : List Env} {A₀ : Around} {base h₀ : Heap} {L : Addr} {m : Str → Option Value} {news : List (Addr × Obj)} {s : Shared} {Q E : Value → Shared → Prop}
    (C : ClRN w mean mg mb f dep vs news R) (B : Below A₀ base outer h₀) (F : Fr h₀ L s.heap m) (X : (hd.heap_39 w.params).In h₀) (N : News h₀ L s.heap news) (T : Top topProg LS mean mg mb h₀) (hk : cs.kind = .function)
    (hd : dp + dep < recursionLimit) (hu : un + 8 * dep < cLine) (ret : CbRet h₀ L m news s Q R) :
    wpAny (model PySem.Challenge.rw_pq0913_01.row.prog w) (ktrTop dp un gd cn cs L a ccd cl outer) (call (.ref f) vs) Q E s :=
  C _ _ _ _ _ _ _ _ _ _ _ _ _ _ _ _ _ B F X N T hk hd hu ret
theorem ClXN.use {w : World} {mean : ExcName → Option Value} {mg mb : Str → Option Value} {f : Addr} {dep : Nat} {vs : List Value} {b : Array UInt8}
    {dp un : Nat} {gd : Option (List Code)} {cn : Str} {cs : Scope} {a : Addr} {ccd : Value} {cl : List (Str × Addr)} {outer : List Env} {A₀ : Around} {base h₀ : Heap} {L : Addr} {m : Str → Option Value} {news : List (Addr × Obj)} {s : Shared} {Q E : Value → Shared → Prop}
    (C : ClXN w mean mg mb f dep vs news b) (B : Below A₀ base outer h₀) (F : Fr h₀ L s.heap m) (X : (hd.heap_39 w.params).In h₀) (N : News h₀ L s.heap news) (T : Top topProg LS mean mg mb h₀) (hk : cs.kind = .function)
    (hd : dp + dep < recursionLimit) (hu : un + 8 * dep < cLine) (ret : ∀ e tb g h' tk', Fr h₀ L g m → RaisedP base g (envX cn cs L a ccd cl :: outer) e (.bytes b tb) news h' → g.UpToSlots h' → E (.ref e) { s with heap := h', toks := tk' }) :
    wpAny (model PySem.Challenge.rw_pq0913_01.row.prog w) (ktrTop dp un gd cn cs L a ccd cl outer) (call (.ref f) vs) Q E s :=
  C _ _ _ _ _ _ _ _ _ _ _ _ _ _ _ _ _ B F X N T hk hd hu ret
section
set_option maxRecDepth 100000 in
set_option maxHeartbeats 8000000 in
theorem c_done_r {w : World} {mean : ExcName → Option Value} {mg mb : Str → Option Value} (f : Addr) (nm qual : Str) (params : Arguments) (body : PySem.Expr) (scope : Scope) (clos : List (Str × Addr)) (pm : Value) (c' : Addr) (ctv : Value) (rest : List (Addr × Obj)) (x : Int)
    (hC : ClRN w mean mg mb f 20 [] ((f, kla_obj nm qual params body scope clos pm c' ctv) :: rest) (fun t => .int x t)) : ClRN w mean mg mb 159 24 [.ref f] ((f, kla_obj nm qual params body scope clos pm c' ctv) :: rest) (fun t => .int x t) := by
  unfold ClRN
  k_with_none; w_top off
  k_with "@bits" => with_reducible assumption
  k_with "@bits" => ((with_reducible apply Mine.bits_divd); bits_by_make)
  k_with "@bits" => ((with_reducible apply Mine.bits_prod) <;> bits_by_make)
  k_with "@binaryOp FloorDiv int int" => (k_here; (with_reducible refine floordiv_int ?kbe ?_ (Or.inl ?kbp)); (case kbe => first | omega | (split <;> omega) | k_dflt (have q9 := Mine.GwOk.kb (by assumption); omega) | k_dflt (have q9 := Mine.SqOk.pos (by assumption); omega)); (case kbp => ((with_reducible apply Mine.py_of_bits); (bits_by_make); decide)))
  k_with "@callWith ref" => (k_here; k_dflt (first | (refine' callWith_K ?k1 ?k2 ?_; (case k1 => with_reducible assumption); (case k2 => k_is); k_whole) | (refine' callWith_K0 ?k1 ?k2 ?_; (case k1 => exact Frag.In.keeps (by with_reducible assumption) (Fr.keep (by with_reducible assumption))); (case k2 => k_is); k_whole)))
  k_with "@execs nil" => (with_reducible refine wpAny_execs_nil ?_)
  k_with "@bits_fit" => ((with_reducible apply Mine.bits_le'); (bits_by_make); decide)
  k_with "@bits" => with_reducible exact Mine.bits_F36
  k_with "@bits" => with_reducible exact Mine.bits_S50
  k_with "@call ref" => (k_here; (rename Mine.ClRN _ _ _ _ _ _ _ _ _ => hC9); k_dflt (refine' Mine.ClRN.use hC9 ?k1 ?k2 ?k3 ?k4 ?k5 ?kK ?kd ?ku ?_; (case k1 => k_asm); (case k2 => k_asm); (case k3 => k_asm); (case k4 => k_asm); (case k5 => k_asm); (case kK => first | exact rfl | assumption); (case kd => ktr_room); (case ku => ktr_units)); intro t9 h9 tk9 F9 N9; (try dsimp only); (try k_fold))
  k_with "@callWith ref" => (k_here; k_dflt (refine' callWith_F0 ?k1 ?_; (case k1 => exact FnAt.of (by k_asm) (by k_mem)); k_whole; try dsimp only [List.nil_append, List.cons_append]))
  k_fill
  intro dp un gd cn cs a ccd cl outer A₀ base h₀ L m s Q E B F X N T hk hdp hun hret
  refine wpAny_call ?_
  k_dflt cell_enter
  k_steps
  all_goals cb_end hret
end
section
set_option maxRecDepth 100000 in
set_option maxHeartbeats 8000000 in
theorem c_done_x {w : World} {mean : ExcName → Option Value} {mg mb : Str → Option Value} (f : Addr) (nm qual : Str) (params : Arguments) (body : PySem.Expr) (scope : Scope) (clos : List (Str × Addr)) (pm : Value) (c' : Addr) (ctv : Value) (rest : List (Addr × Obj)) (b : Array UInt8)
    (hC : ClXN w mean mg mb f 20 [] ((f, kla_obj nm qual params body scope clos pm c' ctv) :: rest) b) : ClT w mean mg mb 159 24 [.ref f] ((f, kla_obj nm qual params body scope clos pm c' ctv) :: rest) (fun t => .bytes b t) := by
  unfold ClT
  k_with_none; w_top off
  k_with "@bits" => with_reducible assumption
  k_with "@bits" => ((with_reducible apply Mine.bits_divd); bits_by_make)
  k_with "@bits" => ((with_reducible apply Mine.bits_prod) <;> bits_by_make)
  k_with "@binaryOp FloorDiv int int" => (k_here; (with_reducible refine floordiv_int ?kbe ?_ (Or.inl ?kbp)); (case kbe => first | omega | (split <;> omega) | k_dflt (have q9 := Mine.GwOk.kb (by assumption); omega) | k_dflt (have q9 := Mine.SqOk.pos (by assumption); omega)); (case kbp => ((with_reducible apply Mine.py_of_bits); (bits_by_make); decide)))
  k_with "@callWith ref" => (k_here; k_dflt (first | (refine' callWith_K ?k1 ?k2 ?_; (case k1 => with_reducible assumption); (case k2 => k_is); k_whole) | (refine' callWith_K0 ?k1 ?k2 ?_; (case k1 => exact Frag.In.keeps (by with_reducible assumption) (Fr.keep (by with_reducible assumption))); (case k2 => k_is); k_whole)))
  k_with "@execs nil" => (with_reducible refine wpAny_execs_nil ?_)
  k_with "@bits_fit" => ((with_reducible apply Mine.bits_le'); (bits_by_make); decide)
  k_with "@bits" => with_reducible exact Mine.bits_F36
  k_with "@bits" => with_reducible exact Mine.bits_S50
  k_with "@call ref" => (k_here; (rename Mine.ClXN _ _ _ _ _ _ _ _ _ => hC9); k_dflt (refine' Mine.ClXN.use hC9 ?k1 ?k2 ?k3 ?k4 ?k5 ?kK ?kd ?ku ?_; (case k1 => k_asm); (case k2 => k_asm); (case k3 => k_asm); (case k4 => k_asm); (case k5 => k_asm); (case kK => first | exact rfl | assumption); (case kd => ktr_room); (case ku => ktr_units)); intro e9 tb9 g9 h9 tk9 F9 R9 U9; (try dsimp only); (try k_fold))
  k_with "@callWith ref" => (k_here; k_dflt (refine' callWith_F0 ?k1 ?_; (case k1 => exact FnAt.of (by k_asm) (by k_mem)); k_whole; try dsimp only [List.nil_append, List.cons_append]))
  k_fill
  intro dp un gd cn cs a ccd cl outer A₀ base h₀ L m s Q E B F X N T hk XB TB D hdp hun hret
  refine wpAny_call ?_
  k_dflt (refine' code_T ?k1 ?k2 ?k3 ?k4 ?k5 ?XB ?TB ?D ?kA ?kF ?kK ?k6 ?k7 ?k8 ?k9 ?kB ?_ ?c2 ?c3 ?c4 ?c5; (case kA => exact rfl); (case kF => exact rfl); (case kK => assumption); (case k2 => k_asm); (case k1 => k_asm); (case XB => assumption); (case TB => assumption); (case D => assumption); (case k3 => k_asm); (case k4 => k_asm); (case k5 => k_asm); (case k6 => k_is); (case k7 => k_is); (case k8 => ktr_room); (case k9 => exact BindsTo.of_eq rfl); (case c5 => decide); (case kB => exact locs rfl); (case c2 => exact rfl); (case c3 => exact rfl); (case c4 => exact rfl); k_whole; intro g' L' h' FG' F' N' B' X' T' D'; (try dsimp only); (try k_lift B'); (try k_fold))
  k_steps
  k_dflt (refine' caught_P ?R ?F ?K ?U ?XB ?TB ?D ?ex ?_; (case R => assumption); (case F => assumption); (case K => assumption); (case U => assumption); (case XB => assumption); (case TB => assumption); (case D => assumption); (case ex => k_is); k_whole)
  intro h2 g2 d2 od2 oe2 ws2 tk2 T2 F2 N2 hP2 hw2 ht2 B2 X2 P2 D2
  (try dsimp only)
  (try k_fold)
  k_steps
  k_here
  refine ps_getN X2 (by assumption) (by assumption) hP2 hw2 ht2 rfl ?_
  k_steps
  refine ⟨g2, _, _, _, T2, by k_asm, by k_asm, fun h₀' kT kF kN kB kX kP kD => ?_⟩
  exact hret _ h₀' _ _ kT kF (fun p hp => kN p (.tail _ (.tail _ hp))) kB kX kP kD
end
end Mine
end
section
open PySem PySem.W PyProof.Rows
namespace Mine
open PySem.Builtin.Int (intBits)
theorem ite_abs (n : Int) : (if n < 0 then -n else n) = (n.natAbs : Int) := by split <;> lia
theorem divd_core {n d : Int} (hd0 : d ≠ 0) : ((2 * (if n < 0 then -n else n)) + (if d < 0 then -d else d)).fdiv (2 * (if d < 0 then -d else d)) = (2 * (n.natAbs : Int) + d.natAbs) / (2 * (d.natAbs : Int)) := by
  rw [ite_abs, ite_abs, Int.fdiv_eq_ediv_of_nonneg _ (by lia)]
theorem divd_t {n d : Int} (hd0 : d ≠ 0) (h : (decide (n < 0) == decide (d < 0)) = true) : ((2 * (if n < 0 then -n else n)) + (if d < 0 then -d else d)).fdiv (2 * (if d < 0 then -d else d)) = divd n d := by
  have h2 : (n < 0) = (d < 0) := by
    have := beq_iff_eq.mp h
    exact propext (decide_eq_decide.mp this)
  rw [divd_core hd0, divd, if_pos h2]
theorem divd_f {n d : Int} (hd0 : d ≠ 0) (h : (decide (n < 0) == decide (d < 0)) = false) : -((2 * (if n < 0 then -n else n)) + (if d < 0 then -d else d)).fdiv (2 * (if d < 0 then -d else d)) = divd n d := by
  have h2 : ¬ ((n < 0) = (d < 0)) := by
    intro e
    rw [beq_eq_false_iff_ne] at h
    exact h (decide_eq_decide.mpr (by rw [e]))
  rw [divd_core hd0, divd, if_neg h2]
set_option maxRecDepth 100000 in
set_option maxHeartbeats 8000000 in
theorem c_divided {w : World} {mean : ExcName → Option Value} {mg mb : Str → Option Value} (n d : Int) (tn td : Tok) (hd0 : d ≠ 0) (hdb : intBits d ≤ 8000) : ClR w mean mg mb 54 2 [.int n tn, .int d td] (fun t => .int (divd n d) t) := by
  unfold ClR
  k_with_none; w_top off
  k_with "@bits" => with_reducible assumption
  k_with "@binaryOp FloorDiv int int" => (k_here; (with_reducible refine floordiv_int ?kbe ?_ (Or.inl ?kbp)); (case kbe => first | omega | (split <;> omega)); (case kbp => ((with_reducible apply Mine.py_of_bits); (bits_by_make); decide)))
  k_with "@callWith ref" => (k_here; k_dflt (first | (refine' callWith_K ?k1 ?k2 ?_; (case k1 => with_reducible assumption); (case k2 => k_is); k_whole) | (refine' callWith_K0 ?k1 ?k2 ?_; (case k1 => exact Frag.In.keeps (by with_reducible assumption) (Fr.keep (by with_reducible assumption))); (case k2 => k_is); k_whole)))
  k_with "@execs nil" => (with_reducible refine wpAny_execs_nil ?_)
  k_fill
  intro dp un gd cn cs a ccd cl outer A₀ base h₀ L m news s Q E B F X N T hk hdp hun hret
  refine wpAny_call ?_
  k_dflt cell_enter
  k_steps
  k_with "tree" => first | exact divd_t hd0 (by assumption) | exact divd_f hd0 (by assumption)
  all_goals cb_end hret
end Mine
end
section
open PySem PySem.W PyProof.Rows
namespace Mine
open PySem.Builtin.Int (intBits)
set_option maxRecDepth 100000 in
set_option maxHeartbeats 8000000 in
theorem c_prod {w : World} {mean : ExcName → Option Value} {mg mb : Str → Option Value} (x y : Int) (tx ty : Tok) (hx : intBits x ≤ 8000) (hy : intBits y ≤ 8000) : ClR w mean mg mb 68 4 [.int x tx, .int y ty] (fun t => .int (prod x y) t) := by
  unfold ClR
  k_with_none; w_top off
  k_with "@bits" => with_reducible assumption
  k_with "@bits" => ((with_reducible apply Mine.bits_divd); bits_by_make)
  k_with "@bits" => ((with_reducible apply Mine.bits_prod) <;> bits_by_make)
  k_with "@binaryOp FloorDiv int int" => (k_here; (with_reducible refine floordiv_int ?kbe ?_ (Or.inl ?kbp)); (case kbe => first | omega | (split <;> omega)); (case kbp => ((with_reducible apply Mine.py_of_bits); (bits_by_make); decide)))
  k_with "@callWith ref" => (k_here; k_dflt (first | (refine' callWith_K ?k1 ?k2 ?_; (case k1 => with_reducible assumption); (case k2 => k_is); k_whole) | (refine' callWith_K0 ?k1 ?k2 ?_; (case k1 => exact Frag.In.keeps (by with_reducible assumption) (Fr.keep (by with_reducible assumption))); (case k2 => k_is); k_whole)))
  k_with "@execs nil" => (with_reducible refine wpAny_execs_nil ?_)
  k_with "@bits_fit" => ((with_reducible apply Mine.bits_le'); (bits_by_make); decide)
  k_with "@bits" => with_reducible exact Mine.bits_F36
  k_with "@bits" => with_reducible exact Mine.bits_S50
  k_with "@call ref" => (k_here; (with_reducible show wpAny _ _ (PySem.call (Value.ref 54) [Value.int _ _, Value.int _ _]) _ _ _); k_dflt (refine' ClR.use (c_divided _ _ _ _ ?c1 ?c2) ?k1 ?k2 ?k3 ?k4 ?k5 ?kK ?kd ?ku ?_; (case c1 => first | assumption | omega | decide | k_dflt (have q9 := Mine.OdOk.npos (by assumption); omega)); (case c2 => first | with_reducible assumption | decide | bits_fit); (case k1 => k_asm); (case k2 => k_asm); (case k3 => k_asm); (case k4 => k_asm); (case k5 => k_asm); (case kK => first | exact rfl | assumption); (case kd => ktr_room); (case ku => ktr_units)); intro t9 h9 tk9 F9 N9; (try dsimp only); (try k_fold))
  k_fill
  intro dp un gd cn cs a ccd cl outer A₀ base h₀ L m news s Q E B F X N T hk hdp hun hret
  refine wpAny_call ?_
  k_dflt cell_enter
  k_steps
  all_goals cb_end hret
end Mine
end
section
open PySem PySem.W PyProof.Rows
namespace Mine
open PySem.Builtin.Int (intBits)
section
set_option maxRecDepth 100000 in
set_option maxHeartbeats 8000000 in
theorem c_od {w : World} {mean : ExcName → Option Value} {mg mb : Str → Option Value} (x : Int) (tx : Tok) (hx : 2 * x.natAbs ≤ 1000000000000000000000000000000000000) (hxb : intBits x ≤ 4000) : ClR w mean mg mb 75 6 [.int x tx, .bool false] (fun t => .int (odSer x) t) := by
  unfold ClR
  k_with_none; w_top off
  k_with "@bits" => with_reducible assumption
  k_with "@bits" => ((with_reducible apply Mine.bits_divd); bits_by_make)
  k_with "@bits" => ((with_reducible apply Mine.bits_prod) <;> bits_by_make)
  k_with "@binaryOp FloorDiv int int" => (k_here; (with_reducible refine floordiv_int ?kbe ?_ (Or.inl ?kbp)); (case kbe => first | omega | (split <;> omega)); (case kbp => ((with_reducible apply Mine.py_of_bits); (bits_by_make); decide)))
  k_with "@callWith ref" => (k_here; k_dflt (first | (refine' callWith_K ?k1 ?k2 ?_; (case k1 => with_reducible assumption); (case k2 => k_is); k_whole) | (refine' callWith_K0 ?k1 ?k2 ?_; (case k1 => exact Frag.In.keeps (by with_reducible assumption) (Fr.keep (by with_reducible assumption))); (case k2 => k_is); k_whole)))
  k_with "@execs nil" => (with_reducible refine wpAny_execs_nil ?_)
  k_with "@bits_fit" => ((with_reducible apply Mine.bits_le'); (bits_by_make); decide)
  k_with "@bits" => with_reducible exact Mine.bits_F36
  k_with "@bits" => with_reducible exact Mine.bits_S50
  k_with "@call ref" => (k_here; (with_reducible show wpAny _ _ (PySem.call (Value.ref 54) [Value.int _ _, Value.int _ _]) _ _ _); k_dflt (refine' ClR.use (c_divided _ _ _ _ ?c1 ?c2) ?k1 ?k2 ?k3 ?k4 ?k5 ?kK ?kd ?ku ?_; (case c1 => first | assumption | omega | decide | k_dflt (have q9 := Mine.OdOk.npos (by assumption); omega)); (case c2 => first | with_reducible assumption | decide | bits_fit); (case k1 => k_asm); (case k2 => k_asm); (case k3 => k_asm); (case k4 => k_asm); (case k5 => k_asm); (case kK => first | exact rfl | assumption); (case kd => ktr_room); (case ku => ktr_units)); intro t9 h9 tk9 F9 N9; (try dsimp only); (try k_fold))
  k_with "@call ref" => (k_here; (with_reducible show wpAny _ _ (PySem.call (Value.ref 68) [Value.int _ _, Value.int _ _]) _ _ _); k_dflt (refine' ClR.use (c_prod _ _ _ _ ?c1 ?c2) ?k1 ?k2 ?k3 ?k4 ?k5 ?kK ?kd ?ku ?_; (case c1 => first | with_reducible assumption | decide | bits_fit); (case c2 => first | with_reducible assumption | decide | bits_fit); (case k1 => k_asm); (case k2 => k_asm); (case k3 => k_asm); (case k4 => k_asm); (case k5 => k_asm); (case kK => first | exact rfl | assumption); (case kd => ktr_room); (case ku => ktr_units)); intro t9 h9 tk9 F9 N9; (try dsimp only); (try k_fold))
  k_with "@bits" => k_dflt (exact OdOk.bits (by assumption))
  k_with "@bits" => k_dflt (have q9 := OdOk.npos (by assumption); exact PySem.intBits_le_64 (by omega) (by omega))
  k_with "@bits" => with_reducible assumption
  k_fill
  intro dp un gd cn cs a ccd cl outer A₀ base h₀ L m news s Q E B F X N T hk hdp hun hret
  have hstart := OdOk.start hx
  refine wpAny_call ?_
  k_dflt cell_enter
  k_with "exec While Compare cons nil" => k_while (fun _ f p n => OdOk x f p n) (fun _ f p n => p.natAbs) "found" "power" "number"
  k_with "state" => first | assumption | exact OdOk.step hx (by assumption) (by assumption)
  k_with "measure" => exact od_less hx (by assumption)
  k_with "tree" => exact OdOk.done (by assumption) (by assumption)
  k_steps
  all_goals cb_end hret
end
end Mine
end
section
open PySem PySem.W PyProof.Rows
namespace Mine
open PySem.Builtin.Int (intBits)
set_option maxRecDepth 100000 in
set_option maxHeartbeats 8000000 in
theorem c_lt {w : World} {mean : ExcName → Option Value} {mg mb : Str → Option Value} : ClR w mean mg mb 82 8 [] (fun t => .int lnTwo t) := by
  unfold ClR
  k_with_none; w_top off
  k_with "@bits" => with_reducible assumption
  k_with "@bits" => ((with_reducible apply Mine.bits_divd); bits_by_make)
  k_with "@bits" => ((with_reducible apply Mine.bits_prod) <;> bits_by_make)
  k_with "@binaryOp FloorDiv int int" => (k_here; (with_reducible refine floordiv_int ?kbe ?_ (Or.inl ?kbp)); (case kbe => first | omega | (split <;> omega)); (case kbp => ((with_reducible apply Mine.py_of_bits); (bits_by_make); decide)))
  k_with "@callWith ref" => (k_here; k_dflt (first | (refine' callWith_K ?k1 ?k2 ?_; (case k1 => with_reducible assumption); (case k2 => k_is); k_whole) | (refine' callWith_K0 ?k1 ?k2 ?_; (case k1 => exact Frag.In.keeps (by with_reducible assumption) (Fr.keep (by with_reducible assumption))); (case k2 => k_is); k_whole)))
  k_with "@execs nil" => (with_reducible refine wpAny_execs_nil ?_)
  k_with "@bits_fit" => ((with_reducible apply Mine.bits_le'); (bits_by_make); decide)
  k_with "@bits" => with_reducible exact Mine.bits_F36
  k_with "@bits" => with_reducible exact Mine.bits_S50
  k_with "@call ref" => (k_here; (with_reducible show wpAny _ _ (PySem.call (Value.ref 54) [Value.int _ _, Value.int _ _]) _ _ _); k_dflt (refine' ClR.use (c_divided _ _ _ _ ?c1 ?c2) ?k1 ?k2 ?k3 ?k4 ?k5 ?kK ?kd ?ku ?_; (case c1 => first | assumption | omega | decide | k_dflt (have q9 := Mine.OdOk.npos (by assumption); omega)); (case c2 => first | with_reducible assumption | decide | bits_fit); (case k1 => k_asm); (case k2 => k_asm); (case k3 => k_asm); (case k4 => k_asm); (case k5 => k_asm); (case kK => first | exact rfl | assumption); (case kd => ktr_room); (case ku => ktr_units)); intro t9 h9 tk9 F9 N9; (try dsimp only); (try k_fold))
  k_with "@call ref" => (k_here; (with_reducible show wpAny _ _ (PySem.call (Value.ref 68) [Value.int _ _, Value.int _ _]) _ _ _); k_dflt (refine' ClR.use (c_prod _ _ _ _ ?c1 ?c2) ?k1 ?k2 ?k3 ?k4 ?k5 ?kK ?kd ?ku ?_; (case c1 => first | with_reducible assumption | decide | bits_fit); (case c2 => first | with_reducible assumption | decide | bits_fit); (case k1 => k_asm); (case k2 => k_asm); (case k3 => k_asm); (case k4 => k_asm); (case k5 => k_asm); (case kK => first | exact rfl | assumption); (case kd => ktr_room); (case ku => ktr_units)); intro t9 h9 tk9 F9 N9; (try dsimp only); (try k_fold))
  k_with "@call ref" => (k_here; (with_reducible show wpAny _ _ (PySem.call (Value.ref 75) [Value.int _ _, Value.bool false]) _ _ _); k_dflt (refine' ClR.use (c_od _ _ ?c1 ?c2) ?k1 ?k2 ?k3 ?k4 ?k5 ?kK ?kd ?ku ?_; (case c1 => first | with_reducible assumption | decide | k_dflt (exact LgOk.part (by assumption) (by assumption) (by assumption))); (case c2 => first | with_reducible assumption | decide | bits_fit); (case k1 => k_asm); (case k2 => k_asm); (case k3 => k_asm); (case k4 => k_asm); (case k5 => k_asm); (case kK => first | exact rfl | assumption); (case kd => ktr_room); (case ku => ktr_units)); intro t9 h9 tk9 F9 N9; (try dsimp only); (try k_fold))
  k_fill
  intro dp un gd cn cs a ccd cl outer A₀ base h₀ L m news s Q E B F X N T hk hdp hun hret
  refine wpAny_call ?_
  k_dflt cell_enter
  k_steps
  all_goals cb_end hret
end Mine
end
section
open PySem PySem.W PyProof.Rows
namespace Mine
open PySem.Builtin.Int (intBits)
section
set_option maxRecDepth 100000 in
set_option maxHeartbeats 8000000 in
theorem c_lg {w : World} {mean : ExcName → Option Value} {mg mb : Str → Option Value} (v : Int) (tv : Tok) (hv1 : 1 ≤ v) (hv2 : v ≤ 2 ^ 60) : ClR w mean mg mb 89 10 [.int v tv] (fun t => .int (flog v) t) := by
  unfold ClR
  k_with_none; w_top off
  k_with "@bits" => with_reducible assumption
  k_with "@bits" => ((with_reducible apply Mine.bits_divd); bits_by_make)
  k_with "@bits" => ((with_reducible apply Mine.bits_prod) <;> bits_by_make)
  k_with "@binaryOp FloorDiv int int" => (k_here; (with_reducible refine floordiv_int ?kbe ?_ (Or.inl ?kbp)); (case kbe => first | omega | (split <;> omega)); (case kbp => ((with_reducible apply Mine.py_of_bits); (bits_by_make); decide)))
  k_with "@callWith ref" => (k_here; k_dflt (first | (refine' callWith_K ?k1 ?k2 ?_; (case k1 => with_reducible assumption); (case k2 => k_is); k_whole) | (refine' callWith_K0 ?k1 ?k2 ?_; (case k1 => exact Frag.In.keeps (by with_reducible assumption) (Fr.keep (by with_reducible assumption))); (case k2 => k_is); k_whole)))
  k_with "@execs nil" => (with_reducible refine wpAny_execs_nil ?_)
  k_with "@bits_fit" => ((with_reducible apply Mine.bits_le'); (bits_by_make); decide)
  k_with "@bits" => with_reducible exact Mine.bits_F36
  k_with "@bits" => with_reducible exact Mine.bits_S50
  k_with "@call ref" => (k_here; (with_reducible show wpAny _ _ (PySem.call (Value.ref 54) [Value.int _ _, Value.int _ _]) _ _ _); k_dflt (refine' ClR.use (c_divided _ _ _ _ ?c1 ?c2) ?k1 ?k2 ?k3 ?k4 ?k5 ?kK ?kd ?ku ?_; (case c1 => first | assumption | omega | decide | k_dflt (have q9 := Mine.OdOk.npos (by assumption); omega) | k_dflt (have q9 := Mine.LgOk.bt (by assumption); omega)); (case c2 => first | with_reducible assumption | decide | bits_fit); (case k1 => k_asm); (case k2 => k_asm); (case k3 => k_asm); (case k4 => k_asm); (case k5 => k_asm); (case kK => first | exact rfl | assumption); (case kd => ktr_room); (case ku => ktr_units)); intro t9 h9 tk9 F9 N9; (try dsimp only); (try k_fold))
  k_with "@call ref" => (k_here; (with_reducible show wpAny _ _ (PySem.call (Value.ref 68) [Value.int _ _, Value.int _ _]) _ _ _); k_dflt (refine' ClR.use (c_prod _ _ _ _ ?c1 ?c2) ?k1 ?k2 ?k3 ?k4 ?k5 ?kK ?kd ?ku ?_; (case c1 => first | with_reducible assumption | decide | bits_fit); (case c2 => first | with_reducible assumption | decide | bits_fit); (case k1 => k_asm); (case k2 => k_asm); (case k3 => k_asm); (case k4 => k_asm); (case k5 => k_asm); (case kK => first | exact rfl | assumption); (case kd => ktr_room); (case ku => ktr_units)); intro t9 h9 tk9 F9 N9; (try dsimp only); (try k_fold))
  k_with "@call ref" => (k_here; (with_reducible show wpAny _ _ (PySem.call (Value.ref 75) [Value.int _ _, Value.bool false]) _ _ _); k_dflt (refine' ClR.use (c_od _ _ ?c1 ?c2) ?k1 ?k2 ?k3 ?k4 ?k5 ?kK ?kd ?ku ?_; (case c1 => first | with_reducible assumption | decide | k_dflt (exact LgOk.part (by assumption) (by assumption) (by assumption))); (case c2 => first | with_reducible assumption | decide | bits_fit); (case k1 => k_asm); (case k2 => k_asm); (case k3 => k_asm); (case k4 => k_asm); (case k5 => k_asm); (case kK => first | exact rfl | assumption); (case kd => ktr_room); (case ku => ktr_units)); intro t9 h9 tk9 F9 N9; (try dsimp only); (try k_fold))
  k_with "@call ref" => (k_here; (with_reducible show wpAny _ _ (PySem.call (Value.ref 82) _) _ _ _); (show wpAny _ _ (PySem.call (Value.ref 82) []) _ _ _); k_dflt (refine' ClR.use (c_lt) ?k1 ?k2 ?k3 ?k4 ?k5 ?kK ?kd ?ku ?_; (case k1 => k_asm); (case k2 => k_asm); (case k3 => k_asm); (case k4 => k_asm); (case k5 => k_asm); (case kK => first | exact rfl | assumption); (case kd => ktr_room); (case ku => ktr_units)); intro t9 h9 tk9 F9 N9; (try dsimp only); (try k_fold))
  k_with "@bits" => k_dflt (have q9 := LgOk.bt (by assumption); exact PySem.intBits_le_64 (by omega) (by omega))
  k_with "@bits" => k_dflt (exact LgOk.bn (by assumption))
  k_with "@bits" => k_dflt (exact LgOk.bu (by assumption))
  k_with "@bits" => with_reducible exact bits_lnTwo
  k_with "@bits" => with_reducible assumption
  k_fill
  intro dp un gd cn cs a ccd cl outer A₀ base h₀ L m news s Q E B F X N T hk hdp hun hret
  have hstart := LgOk.start hv1 hv2
  refine wpAny_call ?_
  k_dflt cell_enter
  k_with "exec While Compare cons nil" => k_while (fun _ u t => LgOk v v u t) (fun _ u t => (3 * v - 4 * u).toNat + (2 * u - 3 * v).toNat) "under" "twos"
  k_with "exec While Compare cons nil" => k_while_given ["under"] (fun u _ n t => LgOk v n u t ∧ ¬ 4 * u < 3 * n) (fun u _ n t => (3 * n - 4 * u).toNat + (2 * u - 3 * n).toNat) "number" "twos"
  k_with "state" => first | assumption | exact LgOk.up (by assumption) (by assumption) | exact ⟨by assumption, by assumption⟩ | exact LgOk.dn2 (by assumption) (by assumption) (by assumption)
  k_with "measure" => first | exact lg_less_up (LgOk.bt (by assumption)).2.2.2 (by assumption) | exact lg_less_dn (LgOk.bt (by assumption)).2.2.1 (by assumption)
  k_with "tree" => first | exact LgOk.res0 (by assumption) (by assumption) (by assumption) (by assumption) | exact LgOk.res1 (by assumption) (by assumption) (by assumption) (by assumption)
  k_steps
  all_goals cb_end hret
end
end Mine
end
section
open PySem PySem.W PyProof.Rows
namespace Mine
open PySem.Builtin.Int (intBits)
set_option maxRecDepth 100000 in
set_option maxHeartbeats 8000000 in
theorem c_chk {w : World} {mean : ExcName → Option Value} {mg mb : Str → Option Value} (x : Int) (tx : Tok) (hx : x.natAbs ≤ 1000000000000000000000) : ClR w mean mg mb 61 4 [.int x tx] (fun t => .int x t) := by
  unfold ClR
  k_with_none; w_top off
  k_with "@bits" => with_reducible assumption
  k_with "@bits" => ((with_reducible apply Mine.bits_divd); bits_by_make)
  k_with "@bits" => ((with_reducible apply Mine.bits_prod) <;> bits_by_make)
  k_with "@binaryOp FloorDiv int int" => (k_here; (with_reducible refine floordiv_int ?kbe ?_ (Or.inl ?kbp)); (case kbe => first | omega | (split <;> omega)); (case kbp => ((with_reducible apply Mine.py_of_bits); (bits_by_make); decide)))
  k_with "@callWith ref" => (k_here; k_dflt (first | (refine' callWith_K ?k1 ?k2 ?_; (case k1 => with_reducible assumption); (case k2 => k_is); k_whole) | (refine' callWith_K0 ?k1 ?k2 ?_; (case k1 => exact Frag.In.keeps (by with_reducible assumption) (Fr.keep (by with_reducible assumption))); (case k2 => k_is); k_whole)))
  k_with "@execs nil" => (with_reducible refine wpAny_execs_nil ?_)
  k_with "@bits_fit" => ((with_reducible apply Mine.bits_le'); (bits_by_make); decide)
  k_with "@bits" => with_reducible exact Mine.bits_F36
  k_with "@bits" => with_reducible exact Mine.bits_S50
  k_with "@call ref" => (k_here; (with_reducible show wpAny _ _ (PySem.call (Value.ref 54) [Value.int _ _, Value.int _ _]) _ _ _); k_dflt (refine' ClR.use (c_divided _ _ _ _ ?c1 ?c2) ?k1 ?k2 ?k3 ?k4 ?k5 ?kK ?kd ?ku ?_; (case c1 => first | assumption | omega | decide | k_dflt (have q9 := Mine.OdOk.npos (by assumption); omega) | k_dflt (have q9 := Mine.LgOk.bt (by assumption); omega) | k_dflt (have q9 := Mine.FpOk.cpos (by assumption); omega) | k_dflt (exact Mine.scale_ne _)); (case c2 => first | with_reducible assumption | decide | bits_fit | k_dflt (exact Mine.bits_scale (by omega))); (case k1 => k_asm); (case k2 => k_asm); (case k3 => k_asm); (case k4 => k_asm); (case k5 => k_asm); (case kK => first | exact rfl | assumption); (case kd => ktr_room); (case ku => ktr_units)); intro t9 h9 tk9 F9 N9; (try dsimp only); (try k_fold))
  k_fill
  intro dp un gd cn cs a ccd cl outer A₀ base h₀ L m news s Q E B F X N T hk hdp hun hret
  refine wpAny_call ?_
  k_dflt cell_enter
  k_steps
  all_goals cb_end hret
end Mine
end
section
open PySem PySem.W PyProof.Rows
namespace Mine
open PySem.Builtin.Int (intBits)
section
set_option maxRecDepth 100000 in
set_option maxHeartbeats 8000000 in
theorem c_fp0 {w : World} {mean : ExcName → Option Value} {mg mb : Str → Option Value} (n : Int) (tn : Tok) (hn : intBits n ≤ 4000) (ht : divd n lnTwo < -60) (z1 z2 : True) : ClR w mean mg mb 96 12 [.int n tn] (fun t => .int 0 t) := by
  unfold ClR
  k_with_none; w_top off
  k_with "@bits" => with_reducible assumption
  k_with "@bits" => ((with_reducible apply Mine.bits_divd); bits_by_make)
  k_with "@bits" => ((with_reducible apply Mine.bits_prod) <;> bits_by_make)
  k_with "@binaryOp FloorDiv int int" => (k_here; (with_reducible refine floordiv_int ?kbe ?_ (Or.inl ?kbp)); (case kbe => first | omega | (split <;> omega)); (case kbp => ((with_reducible apply Mine.py_of_bits); (bits_by_make); decide)))
  k_with "@callWith ref" => (k_here; k_dflt (first | (refine' callWith_K ?k1 ?k2 ?_; (case k1 => with_reducible assumption); (case k2 => k_is); k_whole) | (refine' callWith_K0 ?k1 ?k2 ?_; (case k1 => exact Frag.In.keeps (by with_reducible assumption) (Fr.keep (by with_reducible assumption))); (case k2 => k_is); k_whole)))
  k_with "@execs nil" => (with_reducible refine wpAny_execs_nil ?_)
  k_with "@bits_fit" => ((with_reducible apply Mine.bits_le'); (bits_by_make); decide)
  k_with "@bits" => with_reducible exact Mine.bits_F36
  k_with "@bits" => with_reducible exact Mine.bits_S50
  k_with "@call ref" => (k_here; (with_reducible show wpAny _ _ (PySem.call (Value.ref 54) [Value.int _ _, Value.int _ _]) _ _ _); k_dflt (refine' ClR.use (c_divided _ _ _ _ ?c1 ?c2) ?k1 ?k2 ?k3 ?k4 ?k5 ?kK ?kd ?ku ?_; (case c1 => first | assumption | omega | decide | k_dflt (have q9 := Mine.OdOk.npos (by assumption); omega) | k_dflt (have q9 := Mine.LgOk.bt (by assumption); omega) | k_dflt (have q9 := Mine.FpOk.cpos (by assumption); omega) | k_dflt (exact Mine.scale_ne _)); (case c2 => first | with_reducible assumption | decide | bits_fit | k_dflt (exact Mine.bits_scale (by omega))); (case k1 => k_asm); (case k2 => k_asm); (case k3 => k_asm); (case k4 => k_asm); (case k5 => k_asm); (case kK => first | exact rfl | assumption); (case kd => ktr_room); (case ku => ktr_units)); intro t9 h9 tk9 F9 N9; (try dsimp only); (try k_fold))
  k_with "@call ref" => (k_here; (with_reducible show wpAny _ _ (PySem.call (Value.ref 68) [Value.int _ _, Value.int _ _]) _ _ _); k_dflt (refine' ClR.use (c_prod _ _ _ _ ?c1 ?c2) ?k1 ?k2 ?k3 ?k4 ?k5 ?kK ?kd ?ku ?_; (case c1 => first | with_reducible assumption | decide | bits_fit); (case c2 => first | with_reducible assumption | decide | bits_fit); (case k1 => k_asm); (case k2 => k_asm); (case k3 => k_asm); (case k4 => k_asm); (case k5 => k_asm); (case kK => first | exact rfl | assumption); (case kd => ktr_room); (case ku => ktr_units)); intro t9 h9 tk9 F9 N9; (try dsimp only); (try k_fold))
  k_with "@call ref" => (k_here; (with_reducible show wpAny _ _ (PySem.call (Value.ref 75) [Value.int _ _, Value.bool false]) _ _ _); k_dflt (refine' ClR.use (c_od _ _ ?c1 ?c2) ?k1 ?k2 ?k3 ?k4 ?k5 ?kK ?kd ?ku ?_; (case c1 => first | with_reducible assumption | decide | k_dflt (exact LgOk.part (by assumption) (by assumption) (by assumption))); (case c2 => first | with_reducible assumption | decide | bits_fit); (case k1 => k_asm); (case k2 => k_asm); (case k3 => k_asm); (case k4 => k_asm); (case k5 => k_asm); (case kK => first | exact rfl | assumption); (case kd => ktr_room); (case ku => ktr_units)); intro t9 h9 tk9 F9 N9; (try dsimp only); (try k_fold))
  k_with "@call ref" => (k_here; (with_reducible show wpAny _ _ (PySem.call (Value.ref 82) _) _ _ _); (show wpAny _ _ (PySem.call (Value.ref 82) []) _ _ _); k_dflt (refine' ClR.use (c_lt) ?k1 ?k2 ?k3 ?k4 ?k5 ?kK ?kd ?ku ?_; (case k1 => k_asm); (case k2 => k_asm); (case k3 => k_asm); (case k4 => k_asm); (case k5 => k_asm); (case kK => first | exact rfl | assumption); (case kd => ktr_room); (case ku => ktr_units)); intro t9 h9 tk9 F9 N9; (try dsimp only); (try k_fold))
  k_with "@call ref" => (k_here; (with_reducible show wpAny _ _ (PySem.call (Value.ref 61) [Value.int _ _]) _ _ _); k_dflt (refine' ClR.use (c_chk _ _ ?c1) ?k1 ?k2 ?k3 ?k4 ?k5 ?kK ?kd ?ku ?_; (case c1 => first | with_reducible assumption | k_dflt (rw [Mine.fp_up (by assumption) (by assumption) (by assumption)]; assumption) | k_dflt (rw [Mine.fp_dn (by assumption) (by assumption) (by assumption)]; assumption)); (case k1 => k_asm); (case k2 => k_asm); (case k3 => k_asm); (case k4 => k_asm); (case k5 => k_asm); (case kK => first | exact rfl | assumption); (case kd => ktr_room); (case ku => ktr_units)); intro t9 h9 tk9 F9 N9; (try dsimp only); (try k_fold))
  k_with "@bits" => k_dflt (have q9 := FpOk.cpos (by assumption); exact PySem.intBits_le_64 (by omega) (by omega))
  k_with "@bits" => k_dflt (exact FpOk.bf (by assumption))
  k_with "@bits" => k_dflt (exact FpOk.bp (by assumption))
  k_with "@bits" => with_reducible exact bits_lnTwo
  k_with "@bits" => k_dflt (exact bits_fpRest _)
  k_with "@bits" => with_reducible assumption
  k_fill
  intro dp un gd cn cs a ccd cl outer A₀ base h₀ L m news s Q E B F X N T hk hdp hun hret
  have hrs : 2 * (n - divd n lnTwo * lnTwo).natAbs ≤ 693147180559945309417232121458176564 := fpRest_small n
  have hstart := FpOk.start (n - divd n lnTwo * lnTwo)
  refine wpAny_call ?_
  k_dflt cell_enter
  k_with "exec While Compare cons nil" => k_while (fun _ f p c => FpOk (n - divd n lnTwo * lnTwo) f p c) (fun _ f p c => p.natAbs) "found" "part" "count"
  k_with "state" => first | assumption | exact FpOk.step hrs (by assumption) (by assumption)
  k_with "measure" => exact fp_less hrs (by assumption) (by assumption)
  k_with "tree" => first | exact fp_up (by assumption) (by assumption) (by assumption) | exact fp_dn (by assumption) (by assumption) (by assumption)
  k_steps
  all_goals cb_end hret
set_option maxRecDepth 100000 in
set_option maxHeartbeats 8000000 in
theorem c_fpv {w : World} {mean : ExcName → Option Value} {mg mb : Str → Option Value} (n : Int) (tn : Tok) (hn : intBits n ≤ 4000) (ht1 : -60 ≤ divd n lnTwo) (ht2 : divd n lnTwo ≤ 60) (hV : (fpVal n).natAbs ≤ 1000000000000000000000) : ClR w mean mg mb 96 12 [.int n tn] (fun t => .int (fpVal n) t) := by
  unfold ClR
  k_with_none; w_top off
  k_with "@bits" => with_reducible assumption
  k_with "@bits" => ((with_reducible apply Mine.bits_divd); bits_by_make)
  k_with "@bits" => ((with_reducible apply Mine.bits_prod) <;> bits_by_make)
  k_with "@binaryOp FloorDiv int int" => (k_here; (with_reducible refine floordiv_int ?kbe ?_ (Or.inl ?kbp)); (case kbe => first | omega | (split <;> omega)); (case kbp => ((with_reducible apply Mine.py_of_bits); (bits_by_make); decide)))
  k_with "@callWith ref" => (k_here; k_dflt (first | (refine' callWith_K ?k1 ?k2 ?_; (case k1 => with_reducible assumption); (case k2 => k_is); k_whole) | (refine' callWith_K0 ?k1 ?k2 ?_; (case k1 => exact Frag.In.keeps (by with_reducible assumption) (Fr.keep (by with_reducible assumption))); (case k2 => k_is); k_whole)))
  k_with "@execs nil" => (with_reducible refine wpAny_execs_nil ?_)
  k_with "@bits_fit" => ((with_reducible apply Mine.bits_le'); (bits_by_make); decide)
  k_with "@bits" => with_reducible exact Mine.bits_F36
  k_with "@bits" => with_reducible exact Mine.bits_S50
  k_with "@call ref" => (k_here; (with_reducible show wpAny _ _ (PySem.call (Value.ref 54) [Value.int _ _, Value.int _ _]) _ _ _); k_dflt (refine' ClR.use (c_divided _ _ _ _ ?c1 ?c2) ?k1 ?k2 ?k3 ?k4 ?k5 ?kK ?kd ?ku ?_; (case c1 => first | assumption | omega | decide | k_dflt (have q9 := Mine.OdOk.npos (by assumption); omega) | k_dflt (have q9 := Mine.LgOk.bt (by assumption); omega) | k_dflt (have q9 := Mine.FpOk.cpos (by assumption); omega) | k_dflt (exact Mine.scale_ne _)); (case c2 => first | with_reducible assumption | decide | bits_fit | k_dflt (exact Mine.bits_scale (by omega))); (case k1 => k_asm); (case k2 => k_asm); (case k3 => k_asm); (case k4 => k_asm); (case k5 => k_asm); (case kK => first | exact rfl | assumption); (case kd => ktr_room); (case ku => ktr_units)); intro t9 h9 tk9 F9 N9; (try dsimp only); (try k_fold))
  k_with "@call ref" => (k_here; (with_reducible show wpAny _ _ (PySem.call (Value.ref 68) [Value.int _ _, Value.int _ _]) _ _ _); k_dflt (refine' ClR.use (c_prod _ _ _ _ ?c1 ?c2) ?k1 ?k2 ?k3 ?k4 ?k5 ?kK ?kd ?ku ?_; (case c1 => first | with_reducible assumption | decide | bits_fit); (case c2 => first | with_reducible assumption | decide | bits_fit); (case k1 => k_asm); (case k2 => k_asm); (case k3 => k_asm); (case k4 => k_asm); (case k5 => k_asm); (case kK => first | exact rfl | assumption); (case kd => ktr_room); (case ku => ktr_units)); intro t9 h9 tk9 F9 N9; (try dsimp only); (try k_fold))
  k_with "@call ref" => (k_here; (with_reducible show wpAny _ _ (PySem.call (Value.ref 75) [Value.int _ _, Value.bool false]) _ _ _); k_dflt (refine' ClR.use (c_od _ _ ?c1 ?c2) ?k1 ?k2 ?k3 ?k4 ?k5 ?kK ?kd ?ku ?_; (case c1 => first | with_reducible assumption | decide | k_dflt (exact LgOk.part (by assumption) (by assumption) (by assumption))); (case c2 => first | with_reducible assumption | decide | bits_fit); (case k1 => k_asm); (case k2 => k_asm); (case k3 => k_asm); (case k4 => k_asm); (case k5 => k_asm); (case kK => first | exact rfl | assumption); (case kd => ktr_room); (case ku => ktr_units)); intro t9 h9 tk9 F9 N9; (try dsimp only); (try k_fold))
  k_with "@call ref" => (k_here; (with_reducible show wpAny _ _ (PySem.call (Value.ref 82) _) _ _ _); (show wpAny _ _ (PySem.call (Value.ref 82) []) _ _ _); k_dflt (refine' ClR.use (c_lt) ?k1 ?k2 ?k3 ?k4 ?k5 ?kK ?kd ?ku ?_; (case k1 => k_asm); (case k2 => k_asm); (case k3 => k_asm); (case k4 => k_asm); (case k5 => k_asm); (case kK => first | exact rfl | assumption); (case kd => ktr_room); (case ku => ktr_units)); intro t9 h9 tk9 F9 N9; (try dsimp only); (try k_fold))
  k_with "@call ref" => (k_here; (with_reducible show wpAny _ _ (PySem.call (Value.ref 61) [Value.int _ _]) _ _ _); k_dflt (refine' ClR.use (c_chk _ _ ?c1) ?k1 ?k2 ?k3 ?k4 ?k5 ?kK ?kd ?ku ?_; (case c1 => first | with_reducible assumption | k_dflt (rw [Mine.fp_up (by assumption) (by assumption) (by assumption)]; assumption) | k_dflt (rw [Mine.fp_dn (by assumption) (by assumption) (by assumption)]; assumption)); (case k1 => k_asm); (case k2 => k_asm); (case k3 => k_asm); (case k4 => k_asm); (case k5 => k_asm); (case kK => first | exact rfl | assumption); (case kd => ktr_room); (case ku => ktr_units)); intro t9 h9 tk9 F9 N9; (try dsimp only); (try k_fold))
  k_with "@bits" => k_dflt (have q9 := FpOk.cpos (by assumption); exact PySem.intBits_le_64 (by omega) (by omega))
  k_with "@bits" => k_dflt (exact FpOk.bf (by assumption))
  k_with "@bits" => k_dflt (exact FpOk.bp (by assumption))
  k_with "@bits" => with_reducible exact bits_lnTwo
  k_with "@bits" => k_dflt (exact bits_fpRest _)
  k_with "@bits" => with_reducible assumption
  k_fill
  intro dp un gd cn cs a ccd cl outer A₀ base h₀ L m news s Q E B F X N T hk hdp hun hret
  have hrs : 2 * (n - divd n lnTwo * lnTwo).natAbs ≤ 693147180559945309417232121458176564 := fpRest_small n
  have hstart := FpOk.start (n - divd n lnTwo * lnTwo)
  refine wpAny_call ?_
  k_dflt cell_enter
  k_with "exec While Compare cons nil" => k_while (fun _ f p c => FpOk (n - divd n lnTwo * lnTwo) f p c) (fun _ f p c => p.natAbs) "found" "part" "count"
  k_with "state" => first | assumption | exact FpOk.step hrs (by assumption) (by assumption)
  k_with "measure" => exact fp_less hrs (by assumption) (by assumption)
  k_with "tree" => first | exact fp_up (by assumption) (by assumption) (by assumption) | exact fp_dn (by assumption) (by assumption) (by assumption)
  k_steps
  all_goals cb_end hret
end
end Mine
end
section
open PySem PySem.W PyProof.Rows
namespace Mine
open PySem.Builtin.Int (intBits)
set_option maxRecDepth 100000 in
set_option maxHeartbeats 8000000 in
theorem c_chkr {w : World} {mean : ExcName → Option Value} {mg mb : Str → Option Value} (x : Int) (tx : Tok) (hx : 1000000000000000000000 < x.natAbs) : ClX w mean mg mb 61 8 [.int x tx] #[108, 105, 109, 105, 116, 99, 104, 101, 99, 107] := by
  unfold ClX
  k_with_none; w_top off
  k_with "@bits" => with_reducible assumption
  k_with "@bits" => ((with_reducible apply Mine.bits_divd); bits_by_make)
  k_with "@bits" => ((with_reducible apply Mine.bits_prod) <;> bits_by_make)
  k_with "@binaryOp FloorDiv int int" => (k_here; (with_reducible refine floordiv_int ?kbe ?_ (Or.inl ?kbp)); (case kbe => first | omega | (split <;> omega)); (case kbp => ((with_reducible apply Mine.py_of_bits); (bits_by_make); decide)))
  k_with "@callWith ref" => (k_here; k_dflt (first | (refine' callWith_K ?k1 ?k2 ?_; (case k1 => with_reducible assumption); (case k2 => k_is); k_whole) | (refine' callWith_K0 ?k1 ?k2 ?_; (case k1 => exact Frag.In.keeps (by with_reducible assumption) (Fr.keep (by with_reducible assumption))); (case k2 => k_is); k_whole)))
  k_with "@execs nil" => (with_reducible refine wpAny_execs_nil ?_)
  k_with "@bits_fit" => ((with_reducible apply Mine.bits_le'); (bits_by_make); decide)
  k_with "@call ref" => (k_here; (with_reducible show wpAny _ _ (PySem.call (Value.ref 54) [Value.int _ _, Value.int _ _]) _ _ _); k_dflt (refine' ClR.use (c_divided _ _ _ _ ?c1 ?c2) ?k1 ?k2 ?k3 ?k4 ?k5 ?kK ?kd ?ku ?_; (case c1 => first | assumption | omega | decide | k_dflt (have q9 := Mine.OdOk.npos (by assumption); omega)); (case c2 => first | with_reducible assumption | decide | bits_fit); (case k1 => k_asm); (case k2 => k_asm); (case k3 => k_asm); (case k4 => k_asm); (case k5 => k_asm); (case kK => first | exact rfl | assumption); (case kd => ktr_room); (case ku => ktr_units)); intro t9 h9 tk9 F9 N9; (try dsimp only); (try k_fold))
  k_with "@call ref" => (k_here; (with_reducible show wpAny _ _ (PySem.call (Value.ref 68) [Value.int _ _, Value.int _ _]) _ _ _); k_dflt (refine' ClR.use (c_prod _ _ _ _ ?c1 ?c2) ?k1 ?k2 ?k3 ?k4 ?k5 ?kK ?kd ?ku ?_; (case c1 => first | with_reducible assumption | decide | bits_fit); (case c2 => first | with_reducible assumption | decide | bits_fit); (case k1 => k_asm); (case k2 => k_asm); (case k3 => k_asm); (case k4 => k_asm); (case k5 => k_asm); (case kK => first | exact rfl | assumption); (case kd => ktr_room); (case ku => ktr_units)); intro t9 h9 tk9 F9 N9; (try dsimp only); (try k_fold))
  k_with "@call ref" => (k_here; (with_reducible show wpAny _ _ (PySem.call (Value.ref 45) [Value.bytes _ _]) _ _ _); k_dflt (refine' Mine.ps_made _ _ _ _ _ _ _ _ _ _ _ _ _ _ _ _ _ _ _ _ ?k1 ?k2 ?k3 ?k4 ?k5 ?kK ?kd ?ku ?_; (case k1 => k_asm); (case k2 => k_asm); (case k3 => k_asm); (case k4 => k_asm); (case k5 => k_asm); (case kK => first | exact rfl | assumption); (case kd => ktr_room); (case ku => ktr_units)); intro e9 te9 d9 od9 h9 tk9 F9 N9 ht9 he9 hg9 hl9 hn9 hx9; (try dsimp only); (try k_fold))
  k_with "@exec Raise some none" => (k_here; (with_reducible show wpAny _ _ (exec (Stmt.Raise (some (Expr.Call (Expr.Name _ _) (_ :: _) [] _)) none _) _) _ _ _); k_dflt (refine' Mine.Raise_ps ?qh ?_; (case qh => first | rfl | assumption); k_whole))
  k_fill
  intro dp un gd cn cs a ccd cl outer A₀ base h₀ L m news s Q E B F X N T hk hdp hun hret
  refine wpAny_call ?_
  k_dflt cell_enter
  k_steps
  refine ⟨_, _, _, rfl, by assumption, by assumption, ?_⟩
  refine leave_firstP (by assumption) (by assumption) (by assumption) (by assumption) (by assumption) (by assumption) (by assumption) (by assumption) ?_
  intro h2 R2 U2
  exact hret _ _ _ _ _ (by assumption) R2 U2
end Mine
end
section
open PySem PySem.W PyProof.Rows
namespace Mine
open PySem.Builtin.Int (intBits)
section
set_option maxRecDepth 100000 in
set_option maxHeartbeats 8000000 in
theorem c_fpx1 {w : World} {mean : ExcName → Option Value} {mg mb : Str → Option Value} (n : Int) (tn : Tok) (hn : intBits n ≤ 4000) (ht : 60 < divd n lnTwo) (z1 z2 : True) : ClX w mean mg mb 96 14 [.int n tn] #[108, 105, 109, 105, 116, 99, 104, 101, 99, 107] := by
  unfold ClX
  k_with_none; w_top off
  k_with "@bits" => with_reducible assumption
  k_with "@bits" => ((with_reducible apply Mine.bits_divd); bits_by_make)
  k_with "@bits" => ((with_reducible apply Mine.bits_prod) <;> bits_by_make)
  k_with "@binaryOp FloorDiv int int" => (k_here; (with_reducible refine floordiv_int ?kbe ?_ (Or.inl ?kbp)); (case kbe => first | omega | (split <;> omega)); (case kbp => ((with_reducible apply Mine.py_of_bits); (bits_by_make); decide)))
  k_with "@callWith ref" => (k_here; k_dflt (first | (refine' callWith_K ?k1 ?k2 ?_; (case k1 => with_reducible assumption); (case k2 => k_is); k_whole) | (refine' callWith_K0 ?k1 ?k2 ?_; (case k1 => exact Frag.In.keeps (by with_reducible assumption) (Fr.keep (by with_reducible assumption))); (case k2 => k_is); k_whole)))
  k_with "@execs nil" => (with_reducible refine wpAny_execs_nil ?_)
  k_with "@bits_fit" => ((with_reducible apply Mine.bits_le'); (bits_by_make); decide)
  k_with "@bits" => with_reducible exact Mine.bits_F36
  k_with "@bits" => with_reducible exact Mine.bits_S50
  k_with "@call ref" => (k_here; (with_reducible show wpAny _ _ (PySem.call (Value.ref 54) [Value.int _ _, Value.int _ _]) _ _ _); k_dflt (refine' ClR.use (c_divided _ _ _ _ ?c1 ?c2) ?k1 ?k2 ?k3 ?k4 ?k5 ?kK ?kd ?ku ?_; (case c1 => first | assumption | omega | decide | k_dflt (have q9 := Mine.OdOk.npos (by assumption); omega) | k_dflt (have q9 := Mine.LgOk.bt (by assumption); omega) | k_dflt (have q9 := Mine.FpOk.cpos (by assumption); omega) | k_dflt (exact Mine.scale_ne _)); (case c2 => first | with_reducible assumption | decide | bits_fit | k_dflt (exact Mine.bits_scale (by omega))); (case k1 => k_asm); (case k2 => k_asm); (case k3 => k_asm); (case k4 => k_asm); (case k5 => k_asm); (case kK => first | exact rfl | assumption); (case kd => ktr_room); (case ku => ktr_units)); intro t9 h9 tk9 F9 N9; (try dsimp only); (try k_fold))
  k_with "@call ref" => (k_here; (with_reducible show wpAny _ _ (PySem.call (Value.ref 68) [Value.int _ _, Value.int _ _]) _ _ _); k_dflt (refine' ClR.use (c_prod _ _ _ _ ?c1 ?c2) ?k1 ?k2 ?k3 ?k4 ?k5 ?kK ?kd ?ku ?_; (case c1 => first | with_reducible assumption | decide | bits_fit); (case c2 => first | with_reducible assumption | decide | bits_fit); (case k1 => k_asm); (case k2 => k_asm); (case k3 => k_asm); (case k4 => k_asm); (case k5 => k_asm); (case kK => first | exact rfl | assumption); (case kd => ktr_room); (case ku => ktr_units)); intro t9 h9 tk9 F9 N9; (try dsimp only); (try k_fold))
  k_with "@call ref" => (k_here; (with_reducible show wpAny _ _ (PySem.call (Value.ref 75) [Value.int _ _, Value.bool false]) _ _ _); k_dflt (refine' ClR.use (c_od _ _ ?c1 ?c2) ?k1 ?k2 ?k3 ?k4 ?k5 ?kK ?kd ?ku ?_; (case c1 => first | with_reducible assumption | decide | k_dflt (exact LgOk.part (by assumption) (by assumption) (by assumption))); (case c2 => first | with_reducible assumption | decide | bits_fit); (case k1 => k_asm); (case k2 => k_asm); (case k3 => k_asm); (case k4 => k_asm); (case k5 => k_asm); (case kK => first | exact rfl | assumption); (case kd => ktr_room); (case ku => ktr_units)); intro t9 h9 tk9 F9 N9; (try dsimp only); (try k_fold))
  k_with "@call ref" => (k_here; (with_reducible show wpAny _ _ (PySem.call (Value.ref 82) _) _ _ _); (show wpAny _ _ (PySem.call (Value.ref 82) []) _ _ _); k_dflt (refine' ClR.use (c_lt) ?k1 ?k2 ?k3 ?k4 ?k5 ?kK ?kd ?ku ?_; (case k1 => k_asm); (case k2 => k_asm); (case k3 => k_asm); (case k4 => k_asm); (case k5 => k_asm); (case kK => first | exact rfl | assumption); (case kd => ktr_room); (case ku => ktr_units)); intro t9 h9 tk9 F9 N9; (try dsimp only); (try k_fold))
  k_with "@call ref" => (k_here; (with_reducible show wpAny _ _ (PySem.call (Value.ref 61) [Value.int _ _]) _ _ _); k_dflt (refine' ClX.use (c_chkr _ _ ?c1) ?k1 ?k2 ?k3 ?k4 ?k5 ?kK ?kd ?ku ?_; (case c1 => first | with_reducible assumption | k_dflt (rw [Mine.fp_up (by assumption) (by assumption) (by assumption)]; assumption) | k_dflt (rw [Mine.fp_dn (by assumption) (by assumption) (by assumption)]; assumption)); (case k1 => k_asm); (case k2 => k_asm); (case k3 => k_asm); (case k4 => k_asm); (case k5 => k_asm); (case kK => first | exact rfl | assumption); (case kd => ktr_room); (case ku => ktr_units)); intro e9 t9 g9 h9 tk9 F9 R9 U9; (try dsimp only))
  k_with "@call ref" => (k_here; (with_reducible show wpAny _ _ (PySem.call (Value.ref 45) [Value.bytes _ _]) _ _ _); k_dflt (refine' Mine.ps_made _ _ _ _ _ _ _ _ _ _ _ _ _ _ _ _ _ _ _ _ ?k1 ?k2 ?k3 ?k4 ?k5 ?kK ?kd ?ku ?_; (case k1 => k_asm); (case k2 => k_asm); (case k3 => k_asm); (case k4 => k_asm); (case k5 => k_asm); (case kK => first | exact rfl | assumption); (case kd => ktr_room); (case ku => ktr_units)); intro e9 te9 d9 od9 h9 tk9 F9 N9 ht9 he9 hg9 hl9 hn9 hx9; (try dsimp only); (try k_fold))
  k_with "@exec Raise some none" => (k_here; (with_reducible show wpAny _ _ (exec (Stmt.Raise (some (Expr.Call (Expr.Name _ _) (_ :: _) [] _)) none _) _) _ _ _); k_dflt (refine' Mine.Raise_ps ?qh ?_; (case qh => first | rfl | assumption); k_whole))
  k_with "@bits" => k_dflt (have q9 := FpOk.cpos (by assumption); exact PySem.intBits_le_64 (by omega) (by omega))
  k_with "@bits" => k_dflt (exact FpOk.bf (by assumption))
  k_with "@bits" => k_dflt (exact FpOk.bp (by assumption))
  k_with "@bits" => with_reducible exact bits_lnTwo
  k_with "@bits" => k_dflt (exact bits_fpRest _)
  k_with "@bits" => with_reducible assumption
  k_fill
  intro dp un gd cn cs a ccd cl outer A₀ base h₀ L m news s Q E B F X N T hk hdp hun hret
  have hrs : 2 * (n - divd n lnTwo * lnTwo).natAbs ≤ 693147180559945309417232121458176564 := fpRest_small n
  have hstart := FpOk.start (n - divd n lnTwo * lnTwo)
  refine wpAny_call ?_
  k_dflt cell_enter
  k_with "exec While Compare cons nil" => k_while (fun _ f p c => FpOk (n - divd n lnTwo * lnTwo) f p c) (fun _ f p c => p.natAbs) "found" "part" "count"
  k_with "state" => first | assumption | exact FpOk.step hrs (by assumption) (by assumption)
  k_with "measure" => exact fp_less hrs (by assumption) (by assumption)
  k_with "tree" => first | exact fp_up (by assumption) (by assumption) (by assumption) | exact fp_dn (by assumption) (by assumption) (by assumption)
  k_steps
  all_goals (
    refine ⟨_, _, _, rfl, by assumption, by assumption, ?_⟩
    refine leave_firstP (by assumption) (by assumption) (by assumption) (by assumption) (by assumption) (by assumption) (by assumption) (by assumption) ?_
    intro h2 R2 U2
    exact hret _ _ _ _ _ (by assumption) (R2.drop (by first | exact fun _ h => h | exact fun _ h => List.mem_cons_of_mem _ h | kcj_all)) U2)
set_option maxRecDepth 100000 in
set_option maxHeartbeats 8000000 in
theorem c_fpx2 {w : World} {mean : ExcName → Option Value} {mg mb : Str → Option Value} (n : Int) (tn : Tok) (hn : intBits n ≤ 4000) (ht1 : -60 ≤ divd n lnTwo) (ht2 : divd n lnTwo ≤ 60) (hV : 1000000000000000000000 < (fpVal n).natAbs) : ClX w mean mg mb 96 14 [.int n tn] #[108, 105, 109, 105, 116, 99, 104, 101, 99, 107] := by
  unfold ClX
  k_with_none; w_top off
  k_with "@bits" => with_reducible assumption
  k_with "@bits" => ((with_reducible apply Mine.bits_divd); bits_by_make)
  k_with "@bits" => ((with_reducible apply Mine.bits_prod) <;> bits_by_make)
  k_with "@binaryOp FloorDiv int int" => (k_here; (with_reducible refine floordiv_int ?kbe ?_ (Or.inl ?kbp)); (case kbe => first | omega | (split <;> omega)); (case kbp => ((with_reducible apply Mine.py_of_bits); (bits_by_make); decide)))
  k_with "@callWith ref" => (k_here; k_dflt (first | (refine' callWith_K ?k1 ?k2 ?_; (case k1 => with_reducible assumption); (case k2 => k_is); k_whole) | (refine' callWith_K0 ?k1 ?k2 ?_; (case k1 => exact Frag.In.keeps (by with_reducible assumption) (Fr.keep (by with_reducible assumption))); (case k2 => k_is); k_whole)))
  k_with "@execs nil" => (with_reducible refine wpAny_execs_nil ?_)
  k_with "@bits_fit" => ((with_reducible apply Mine.bits_le'); (bits_by_make); decide)
  k_with "@bits" => with_reducible exact Mine.bits_F36
  k_with "@bits" => with_reducible exact Mine.bits_S50
  k_with "@call ref" => (k_here; (with_reducible show wpAny _ _ (PySem.call (Value.ref 54) [Value.int _ _, Value.int _ _]) _ _ _); k_dflt (refine' ClR.use (c_divided _ _ _ _ ?c1 ?c2) ?k1 ?k2 ?k3 ?k4 ?k5 ?kK ?kd ?ku ?_; (case c1 => first | assumption | omega | decide | k_dflt (have q9 := Mine.OdOk.npos (by assumption); omega) | k_dflt (have q9 := Mine.LgOk.bt (by assumption); omega) | k_dflt (have q9 := Mine.FpOk.cpos (by assumption); omega) | k_dflt (exact Mine.scale_ne _)); (case c2 => first | with_reducible assumption | decide | bits_fit | k_dflt (exact Mine.bits_scale (by omega))); (case k1 => k_asm); (case k2 => k_asm); (case k3 => k_asm); (case k4 => k_asm); (case k5 => k_asm); (case kK => first | exact rfl | assumption); (case kd => ktr_room); (case ku => ktr_units)); intro t9 h9 tk9 F9 N9; (try dsimp only); (try k_fold))
  k_with "@call ref" => (k_here; (with_reducible show wpAny _ _ (PySem.call (Value.ref 68) [Value.int _ _, Value.int _ _]) _ _ _); k_dflt (refine' ClR.use (c_prod _ _ _ _ ?c1 ?c2) ?k1 ?k2 ?k3 ?k4 ?k5 ?kK ?kd ?ku ?_; (case c1 => first | with_reducible assumption | decide | bits_fit); (case c2 => first | with_reducible assumption | decide | bits_fit); (case k1 => k_asm); (case k2 => k_asm); (case k3 => k_asm); (case k4 => k_asm); (case k5 => k_asm); (case kK => first | exact rfl | assumption); (case kd => ktr_room); (case ku => ktr_units)); intro t9 h9 tk9 F9 N9; (try dsimp only); (try k_fold))
  k_with "@call ref" => (k_here; (with_reducible show wpAny _ _ (PySem.call (Value.ref 75) [Value.int _ _, Value.bool false]) _ _ _); k_dflt (refine' ClR.use (c_od _ _ ?c1 ?c2) ?k1 ?k2 ?k3 ?k4 ?k5 ?kK ?kd ?ku ?_; (case c1 => first | with_reducible assumption | decide | k_dflt (exact LgOk.part (by assumption) (by assumption) (by assumption))); (case c2 => first | with_reducible assumption | decide | bits_fit); (case k1 => k_asm); (case k2 => k_asm); (case k3 => k_asm); (case k4 => k_asm); (case k5 => k_asm); (case kK => first | exact rfl | assumption); (case kd => ktr_room); (case ku => ktr_units)); intro t9 h9 tk9 F9 N9; (try dsimp only); (try k_fold))
  k_with "@call ref" => (k_here; (with_reducible show wpAny _ _ (PySem.call (Value.ref 82) _) _ _ _); (show wpAny _ _ (PySem.call (Value.ref 82) []) _ _ _); k_dflt (refine' ClR.use (c_lt) ?k1 ?k2 ?k3 ?k4 ?k5 ?kK ?kd ?ku ?_; (case k1 => k_asm); (case k2 => k_asm); (case k3 => k_asm); (case k4 => k_asm); (case k5 => k_asm); (case kK => first | exact rfl | assumption); (case kd => ktr_room); (case ku => ktr_units)); intro t9 h9 tk9 F9 N9; (try dsimp only); (try k_fold))
  k_with "@call ref" => (k_here; (with_reducible show wpAny _ _ (PySem.call (Value.ref 61) [Value.int _ _]) _ _ _); k_dflt (refine' ClX.use (c_chkr _ _ ?c1) ?k1 ?k2 ?k3 ?k4 ?k5 ?kK ?kd ?ku ?_; (case c1 => first | with_reducible assumption | k_dflt (rw [Mine.fp_up (by assumption) (by assumption) (by assumption)]; assumption) | k_dflt (rw [Mine.fp_dn (by assumption) (by assumption) (by assumption)]; assumption)); (case k1 => k_asm); (case k2 => k_asm); (case k3 => k_asm); (case k4 => k_asm); (case k5 => k_asm); (case kK => first | exact rfl | assumption); (case kd => ktr_room); (case ku => ktr_units)); intro e9 t9 g9 h9 tk9 F9 R9 U9; (try dsimp only))
  k_with "@call ref" => (k_here; (with_reducible show wpAny _ _ (PySem.call (Value.ref 45) [Value.bytes _ _]) _ _ _); k_dflt (refine' Mine.ps_made _ _ _ _ _ _ _ _ _ _ _ _ _ _ _ _ _ _ _ _ ?k1 ?k2 ?k3 ?k4 ?k5 ?kK ?kd ?ku ?_; (case k1 => k_asm); (case k2 => k_asm); (case k3 => k_asm); (case k4 => k_asm); (case k5 => k_asm); (case kK => first | exact rfl | assumption); (case kd => ktr_room); (case ku => ktr_units)); intro e9 te9 d9 od9 h9 tk9 F9 N9 ht9 he9 hg9 hl9 hn9 hx9; (try dsimp only); (try k_fold))
  k_with "@exec Raise some none" => (k_here; (with_reducible show wpAny _ _ (exec (Stmt.Raise (some (Expr.Call (Expr.Name _ _) (_ :: _) [] _)) none _) _) _ _ _); k_dflt (refine' Mine.Raise_ps ?qh ?_; (case qh => first | rfl | assumption); k_whole))
  k_with "@bits" => k_dflt (have q9 := FpOk.cpos (by assumption); exact PySem.intBits_le_64 (by omega) (by omega))
  k_with "@bits" => k_dflt (exact FpOk.bf (by assumption))
  k_with "@bits" => k_dflt (exact FpOk.bp (by assumption))
  k_with "@bits" => with_reducible exact bits_lnTwo
  k_with "@bits" => k_dflt (exact bits_fpRest _)
  k_with "@bits" => with_reducible assumption
  k_fill
  intro dp un gd cn cs a ccd cl outer A₀ base h₀ L m news s Q E B F X N T hk hdp hun hret
  have hrs : 2 * (n - divd n lnTwo * lnTwo).natAbs ≤ 693147180559945309417232121458176564 := fpRest_small n
  have hstart := FpOk.start (n - divd n lnTwo * lnTwo)
  refine wpAny_call ?_
  k_dflt cell_enter
  k_with "exec While Compare cons nil" => k_while (fun _ f p c => FpOk (n - divd n lnTwo * lnTwo) f p c) (fun _ f p c => p.natAbs) "found" "part" "count"
  k_with "state" => first | assumption | exact FpOk.step hrs (by assumption) (by assumption)
  k_with "measure" => exact fp_less hrs (by assumption) (by assumption)
  k_with "tree" => first | exact fp_up (by assumption) (by assumption) (by assumption) | exact fp_dn (by assumption) (by assumption) (by assumption)
  k_steps
  all_goals (
    refine leave_nextP (by assumption) (by assumption) (by assumption) (by assumption) ?_
    intro h2 R2 U2
    exact hret _ _ _ _ _ (by assumption) (R2.drop (by first | exact fun _ h => h | exact fun _ h => List.mem_cons_of_mem _ h | kcj_all)) U2)
end
end Mine
end
section
open PySem PySem.W PyProof.Rows
namespace Mine
open PySem.Builtin.Int (intBits)
theorem c_fp {w : World} {mean : ExcName → Option Value} {mg mb : Str → Option Value} (n : Int) (tn : Tok) (x : Int) (hn : intBits n ≤ 4000) (hx : fpow n = some x) : ClR w mean mg mb 96 12 [.int n tn] (fun t => .int x t) := by
  unfold fpow fpTwos at hx
  by_cases h1 : divd n lnTwo > 60
  · rw [if_pos h1] at hx; cases hx
  · rw [if_neg h1] at hx
    by_cases h2 : divd n lnTwo < -60
    · rw [if_pos h2] at hx; cases hx
      exact c_fp0 n tn hn h2 ⟨⟩ ⟨⟩
    · rw [if_neg h2] at hx
      by_cases h3 : (fpVal n).natAbs ≤ 1000000000000000000000
      · rw [if_pos h3] at hx; cases hx
        exact c_fpv n tn hn (by lia) (by lia) h3
      · rw [if_neg h3] at hx; cases hx
theorem c_fpx {w : World} {mean : ExcName → Option Value} {mg mb : Str → Option Value} (n : Int) (tn : Tok) (hn : intBits n ≤ 4000) (hx : fpow n = none) : ClX w mean mg mb 96 14 [.int n tn] #[108, 105, 109, 105, 116, 99, 104, 101, 99, 107] := by
  unfold fpow fpTwos at hx
  by_cases h1 : divd n lnTwo > 60
  · exact c_fpx1 n tn hn h1 ⟨⟩ ⟨⟩
  · rw [if_neg h1] at hx
    by_cases h2 : divd n lnTwo < -60
    · rw [if_pos h2] at hx; cases hx
    · rw [if_neg h2] at hx
      by_cases h3 : (fpVal n).natAbs ≤ 1000000000000000000000
      · rw [if_pos h3] at hx; cases hx
      · exact c_fpx2 n tn hn (by lia) (by lia) (by lia)
end Mine
end
section
open PySem PySem.W PyProof.Rows
namespace Mine
open PySem.Builtin.Int (intBits)
section
set_option maxRecDepth 100000 in
set_option maxHeartbeats 8000000 in
theorem c_pow_ret {w : World} {mean : ExcName → Option Value} {mg mb : Str → Option Value} (v e : Int) (tv te : Tok) (he1 : -2 ^ 40 ≤ e) (he2 : e ≤ 2 ^ 40) (hs : ¬ (e.fmod 1000000 = 0 ∧ -64000000 ≤ e ∧ e ≤ 64000000)) (hv0 : v ≠ 0) (hv1 : -2 ^ 60 ≤ v) (hv2 : v ≤ 2 ^ 60) (hw : v < 0 → e.fmod 1000000 = 0) (hlb : intBits (flog (if v < 0 then -v else v)) ≤ 200) (x : Int) (hx : fpow (divd (flog (if v < 0 then -v else v) * e) 1000000) = some x) : ClR w mean mg mb 110 16 [.int v tv, .int e te] (fun t => .int (if v < 0 ∧ (e.fdiv 1000000).fmod 2 = 1 then -x else x) t) := by
  unfold ClR
  k_with_none; w_top off
  k_with "@bits" => with_reducible assumption
  k_with "@bits" => ((with_reducible apply Mine.bits_divd); bits_by_make)
  k_with "@bits" => ((with_reducible apply Mine.bits_prod) <;> bits_by_make)
  k_with "@binaryOp FloorDiv int int" => (k_here; (with_reducible refine floordiv_int ?kbe ?_ (Or.inl ?kbp)); (case kbe => first | omega | (split <;> omega)); (case kbp => ((with_reducible apply Mine.py_of_bits); (bits_by_make); decide)))
  k_with "@callWith ref" => (k_here; k_dflt (first | (refine' callWith_K ?k1 ?k2 ?_; (case k1 => with_reducible assumption); (case k2 => k_is); k_whole) | (refine' callWith_K0 ?k1 ?k2 ?_; (case k1 => exact Frag.In.keeps (by with_reducible assumption) (Fr.keep (by with_reducible assumption))); (case k2 => k_is); k_whole)))
  k_with "@execs nil" => (with_reducible refine wpAny_execs_nil ?_)
  k_with "@execs cons" => (exfalso; omega)
  k_with "@bits_fit" => ((with_reducible apply Mine.bits_le'); (bits_by_make); decide)
  k_with "@bits" => with_reducible exact Mine.bits_F36
  k_with "@bits" => with_reducible exact Mine.bits_S50
  k_with "@call ref" => (k_here; (with_reducible show wpAny _ _ (PySem.call (Value.ref 54) [Value.int _ _, Value.int _ _]) _ _ _); k_dflt (refine' ClR.use (c_divided _ _ _ _ ?c1 ?c2) ?k1 ?k2 ?k3 ?k4 ?k5 ?kK ?kd ?ku ?_; (case c1 => first | assumption | omega | decide | k_dflt (have q9 := Mine.OdOk.npos (by assumption); omega) | k_dflt (have q9 := Mine.LgOk.bt (by assumption); omega) | k_dflt (have q9 := Mine.FpOk.cpos (by assumption); omega) | k_dflt (exact Mine.scale_ne _)); (case c2 => first | with_reducible assumption | decide | bits_fit | k_dflt (exact Mine.bits_scale (by omega))); (case k1 => k_asm); (case k2 => k_asm); (case k3 => k_asm); (case k4 => k_asm); (case k5 => k_asm); (case kK => first | exact rfl | assumption); (case kd => ktr_room); (case ku => ktr_units)); intro t9 h9 tk9 F9 N9; (try dsimp only); (try k_fold))
  k_with "@call ref" => (k_here; (with_reducible show wpAny _ _ (PySem.call (Value.ref 89) [Value.int _ _]) _ _ _); k_dflt (refine' ClR.use (c_lg _ _ ?c1 ?c2) ?k1 ?k2 ?k3 ?k4 ?k5 ?kK ?kd ?ku ?_; (case c1 => first | with_reducible assumption | decide | k_dflt omega); (case c2 => first | with_reducible assumption | decide | k_dflt omega); (case k1 => k_asm); (case k2 => k_asm); (case k3 => k_asm); (case k4 => k_asm); (case k5 => k_asm); (case kK => first | exact rfl | assumption); (case kd => ktr_room); (case ku => ktr_units)); intro t9 h9 tk9 F9 N9; (try dsimp only); (try k_fold))
  k_with "@call ref" => (k_here; (with_reducible show wpAny _ _ (PySem.call (Value.ref 96) [Value.int _ _]) _ _ _); k_dflt (refine' ClR.use (c_fp _ _ _ ?c1 ?c2) ?k1 ?k2 ?k3 ?k4 ?k5 ?kK ?kd ?ku ?_; (case c2 => with_reducible assumption); (case c1 => first | with_reducible assumption | bits_fit); (case k1 => k_asm); (case k2 => k_asm); (case k3 => k_asm); (case k4 => k_asm); (case k5 => k_asm); (case kK => first | exact rfl | assumption); (case kd => ktr_room); (case ku => ktr_units)); intro t9 h9 tk9 F9 N9; (try dsimp only); (try k_fold))
  k_with "@bits" => exact PySem.intBits_le_64 (by omega) (by omega)
  k_with "@bits" => with_reducible assumption
  k_fill
  intro dp un gd cn cs a ccd cl outer A₀ base h₀ L m news s Q E B F X N T hk hdp hun hret
  refine wpAny_call ?_
  k_dflt cell_enter
  k_steps
  all_goals first
    | (exfalso; omega)
    | cb_end hret
set_option maxRecDepth 100000 in
set_option maxHeartbeats 8000000 in
theorem c_pow_0p {w : World} {mean : ExcName → Option Value} {mg mb : Str → Option Value} (v e : Int) (tv te : Tok) (he1 : -2 ^ 40 ≤ e) (he2 : e ≤ 2 ^ 40) (hs : ¬ (e.fmod 1000000 = 0 ∧ -64000000 ≤ e ∧ e ≤ 64000000)) (hv0 : v = 0) (hep : 0 ≤ e) (z1 z2 z3 z4 z5 : True) : ClR w mean mg mb 110 16 [.int v tv, .int e te] (fun t => .int 0 t) := by
  unfold ClR
  k_with_none; w_top off
  k_with "@bits" => with_reducible assumption
  k_with "@bits" => ((with_reducible apply Mine.bits_divd); bits_by_make)
  k_with "@bits" => ((with_reducible apply Mine.bits_prod) <;> bits_by_make)
  k_with "@binaryOp FloorDiv int int" => (k_here; (with_reducible refine floordiv_int ?kbe ?_ (Or.inl ?kbp)); (case kbe => first | omega | (split <;> omega)); (case kbp => ((with_reducible apply Mine.py_of_bits); (bits_by_make); decide)))
  k_with "@callWith ref" => (k_here; k_dflt (first | (refine' callWith_K ?k1 ?k2 ?_; (case k1 => with_reducible assumption); (case k2 => k_is); k_whole) | (refine' callWith_K0 ?k1 ?k2 ?_; (case k1 => exact Frag.In.keeps (by with_reducible assumption) (Fr.keep (by with_reducible assumption))); (case k2 => k_is); k_whole)))
  k_with "@execs nil" => (with_reducible refine wpAny_execs_nil ?_)
  k_with "@execs cons" => (exfalso; omega)
  k_with "@bits_fit" => ((with_reducible apply Mine.bits_le'); (bits_by_make); decide)
  k_with "@bits" => with_reducible exact Mine.bits_F36
  k_with "@bits" => with_reducible exact Mine.bits_S50
  k_with "@call ref" => (k_here; (with_reducible show wpAny _ _ (PySem.call (Value.ref 54) [Value.int _ _, Value.int _ _]) _ _ _); k_dflt (refine' ClR.use (c_divided _ _ _ _ ?c1 ?c2) ?k1 ?k2 ?k3 ?k4 ?k5 ?kK ?kd ?ku ?_; (case c1 => first | assumption | omega | decide | k_dflt (have q9 := Mine.OdOk.npos (by assumption); omega) | k_dflt (have q9 := Mine.LgOk.bt (by assumption); omega) | k_dflt (have q9 := Mine.FpOk.cpos (by assumption); omega) | k_dflt (exact Mine.scale_ne _)); (case c2 => first | with_reducible assumption | decide | bits_fit | k_dflt (exact Mine.bits_scale (by omega))); (case k1 => k_asm); (case k2 => k_asm); (case k3 => k_asm); (case k4 => k_asm); (case k5 => k_asm); (case kK => first | exact rfl | assumption); (case kd => ktr_room); (case ku => ktr_units)); intro t9 h9 tk9 F9 N9; (try dsimp only); (try k_fold))
  k_with "@call ref" => (k_here; (with_reducible show wpAny _ _ (PySem.call (Value.ref 89) [Value.int _ _]) _ _ _); k_dflt (refine' ClR.use (c_lg _ _ ?c1 ?c2) ?k1 ?k2 ?k3 ?k4 ?k5 ?kK ?kd ?ku ?_; (case c1 => first | with_reducible assumption | decide | k_dflt omega); (case c2 => first | with_reducible assumption | decide | k_dflt omega); (case k1 => k_asm); (case k2 => k_asm); (case k3 => k_asm); (case k4 => k_asm); (case k5 => k_asm); (case kK => first | exact rfl | assumption); (case kd => ktr_room); (case ku => ktr_units)); intro t9 h9 tk9 F9 N9; (try dsimp only); (try k_fold))
  k_with "@call ref" => (k_here; (with_reducible show wpAny _ _ (PySem.call (Value.ref 96) [Value.int _ _]) _ _ _); k_dflt (refine' ClR.use (c_fp _ _ _ ?c1 ?c2) ?k1 ?k2 ?k3 ?k4 ?k5 ?kK ?kd ?ku ?_; (case c2 => with_reducible assumption); (case c1 => first | with_reducible assumption | bits_fit); (case k1 => k_asm); (case k2 => k_asm); (case k3 => k_asm); (case k4 => k_asm); (case k5 => k_asm); (case kK => first | exact rfl | assumption); (case kd => ktr_room); (case ku => ktr_units)); intro t9 h9 tk9 F9 N9; (try dsimp only); (try k_fold))
  k_with "@bits" => exact PySem.intBits_le_64 (by omega) (by omega)
  k_with "@bits" => with_reducible assumption
  k_fill
  intro dp un gd cn cs a ccd cl outer A₀ base h₀ L m news s Q E B F X N T hk hdp hun hret
  refine wpAny_call ?_
  k_dflt cell_enter
  k_steps
  all_goals first
    | (exfalso; omega)
    | cb_end hret
end
end Mine
end
section
open PySem PySem.W PyProof.Rows
namespace Mine
open PySem.Builtin.Int (intBits)
section
set_option maxRecDepth 100000 in
set_option maxHeartbeats 8000000 in
theorem c_pow_lim {w : World} {mean : ExcName → Option Value} {mg mb : Str → Option Value} (v e : Int) (tv te : Tok) (he1 : -2 ^ 40 ≤ e) (he2 : e ≤ 2 ^ 40) (hs : ¬ (e.fmod 1000000 = 0 ∧ -64000000 ≤ e ∧ e ≤ 64000000)) (hv0 : v ≠ 0) (hv1 : -2 ^ 60 ≤ v) (hv2 : v ≤ 2 ^ 60) (hw : v < 0 → e.fmod 1000000 = 0) (hlb : intBits (flog (if v < 0 then -v else v)) ≤ 200) (x : Int) (hx : fpow (divd (flog (if v < 0 then -v else v) * e) 1000000) = none) : ClX w mean mg mb 110 18 [.int v tv, .int e te] #[108, 105, 109, 105, 116, 99, 104, 101, 99, 107] := by
  unfold ClX
  k_with_none; w_top off
  k_with "@bits" => with_reducible assumption
  k_with "@bits" => ((with_reducible apply Mine.bits_divd); bits_by_make)
  k_with "@bits" => ((with_reducible apply Mine.bits_prod) <;> bits_by_make)
  k_with "@binaryOp FloorDiv int int" => (k_here; (with_reducible refine floordiv_int ?kbe ?_ (Or.inl ?kbp)); (case kbe => first | omega | (split <;> omega)); (case kbp => ((with_reducible apply Mine.py_of_bits); (bits_by_make); decide)))
  k_with "@callWith ref" => (k_here; k_dflt (first | (refine' callWith_K ?k1 ?k2 ?_; (case k1 => with_reducible assumption); (case k2 => k_is); k_whole) | (refine' callWith_K0 ?k1 ?k2 ?_; (case k1 => exact Frag.In.keeps (by with_reducible assumption) (Fr.keep (by with_reducible assumption))); (case k2 => k_is); k_whole)))
  k_with "@execs nil" => (with_reducible refine wpAny_execs_nil ?_)
  k_with "@execs cons" => (exfalso; omega)
  k_with "@bits_fit" => ((with_reducible apply Mine.bits_le'); (bits_by_make); decide)
  k_with "@bits" => with_reducible exact Mine.bits_F36
  k_with "@bits" => with_reducible exact Mine.bits_S50
  k_with "@call ref" => (k_here; (with_reducible show wpAny _ _ (PySem.call (Value.ref 54) [Value.int _ _, Value.int _ _]) _ _ _); k_dflt (refine' ClR.use (c_divided _ _ _ _ ?c1 ?c2) ?k1 ?k2 ?k3 ?k4 ?k5 ?kK ?kd ?ku ?_; (case c1 => first | assumption | omega | decide | k_dflt (have q9 := Mine.OdOk.npos (by assumption); omega) | k_dflt (have q9 := Mine.LgOk.bt (by assumption); omega) | k_dflt (have q9 := Mine.FpOk.cpos (by assumption); omega) | k_dflt (exact Mine.scale_ne _)); (case c2 => first | with_reducible assumption | decide | bits_fit | k_dflt (exact Mine.bits_scale (by omega))); (case k1 => k_asm); (case k2 => k_asm); (case k3 => k_asm); (case k4 => k_asm); (case k5 => k_asm); (case kK => first | exact rfl | assumption); (case kd => ktr_room); (case ku => ktr_units)); intro t9 h9 tk9 F9 N9; (try dsimp only); (try k_fold))
  k_with "@call ref" => (k_here; (with_reducible show wpAny _ _ (PySem.call (Value.ref 89) [Value.int _ _]) _ _ _); k_dflt (refine' ClR.use (c_lg _ _ ?c1 ?c2) ?k1 ?k2 ?k3 ?k4 ?k5 ?kK ?kd ?ku ?_; (case c1 => first | with_reducible assumption | decide | k_dflt omega); (case c2 => first | with_reducible assumption | decide | k_dflt omega); (case k1 => k_asm); (case k2 => k_asm); (case k3 => k_asm); (case k4 => k_asm); (case k5 => k_asm); (case kK => first | exact rfl | assumption); (case kd => ktr_room); (case ku => ktr_units)); intro t9 h9 tk9 F9 N9; (try dsimp only); (try k_fold))
  k_with "@call ref" => (k_here; (with_reducible show wpAny _ _ (PySem.call (Value.ref 96) [Value.int _ _]) _ _ _); k_dflt (refine' ClX.use (c_fpx _ _ ?c1 ?c2) ?k1 ?k2 ?k3 ?k4 ?k5 ?kK ?kd ?ku ?_; (case c2 => with_reducible assumption); (case c1 => first | with_reducible assumption | bits_fit); (case k1 => k_asm); (case k2 => k_asm); (case k3 => k_asm); (case k4 => k_asm); (case k5 => k_asm); (case kK => first | exact rfl | assumption); (case kd => ktr_room); (case ku => ktr_units)); intro e9 t9 g9 h9 tk9 F9 R9 U9; (try dsimp only))
  k_with "@call ref" => (k_here; (with_reducible show wpAny _ _ (PySem.call (Value.ref 45) [Value.bytes _ _]) _ _ _); k_dflt (refine' Mine.ps_made _ _ _ _ _ _ _ _ _ _ _ _ _ _ _ _ _ _ _ _ ?k1 ?k2 ?k3 ?k4 ?k5 ?kK ?kd ?ku ?_; (case k1 => k_asm); (case k2 => k_asm); (case k3 => k_asm); (case k4 => k_asm); (case k5 => k_asm); (case kK => first | exact rfl | assumption); (case kd => ktr_room); (case ku => ktr_units)); intro e9 te9 d9 od9 h9 tk9 F9 N9 ht9 he9 hg9 hl9 hn9 hx9; (try dsimp only); (try k_fold))
  k_with "@exec Raise some none" => (k_here; (with_reducible show wpAny _ _ (exec (Stmt.Raise (some (Expr.Call (Expr.Name _ _) (_ :: _) [] _)) none _) _) _ _ _); k_dflt (refine' Mine.Raise_ps ?qh ?_; (case qh => first | rfl | assumption); k_whole))
  k_with "@bits" => exact PySem.intBits_le_64 (by omega) (by omega)
  k_with "@bits" => with_reducible assumption
  k_fill
  intro dp un gd cn cs a ccd cl outer A₀ base h₀ L m news s Q E B F X N T hk hdp hun hret
  refine wpAny_call ?_
  k_dflt cell_enter
  k_steps
  all_goals first
    | (exfalso; omega)
    | (refine leave_nextP (by assumption) (by assumption) (by assumption) (by assumption) ?_
       intro h2 R2 U2
       exact hret _ _ _ _ _ (by assumption) (R2.drop (by first | exact fun _ h => h | exact fun _ h => List.mem_cons_of_mem _ h | kcj_all)) U2)
set_option maxRecDepth 100000 in
set_option maxHeartbeats 8000000 in
theorem c_pow_und {w : World} {mean : ExcName → Option Value} {mg mb : Str → Option Value} (v e : Int) (tv te : Tok) (he1 : -2 ^ 40 ≤ e) (he2 : e ≤ 2 ^ 40) (hs : ¬ (e.fmod 1000000 = 0 ∧ -64000000 ≤ e ∧ e ≤ 64000000)) (hv0 : v < 0) (hw : e.fmod 1000000 ≠ 0) (z1 z2 z3 z4 z5 : True) : ClX w mean mg mb 110 18 [.int v tv, .int e te] #[117, 110, 100, 101, 102, 105, 110, 101, 100, 114, 101, 115, 117, 108, 116] := by
  unfold ClX
  k_with_none; w_top off
  k_with "@bits" => with_reducible assumption
  k_with "@bits" => ((with_reducible apply Mine.bits_divd); bits_by_make)
  k_with "@bits" => ((with_reducible apply Mine.bits_prod) <;> bits_by_make)
  k_with "@binaryOp FloorDiv int int" => (k_here; (with_reducible refine floordiv_int ?kbe ?_ (Or.inl ?kbp)); (case kbe => first | omega | (split <;> omega)); (case kbp => ((with_reducible apply Mine.py_of_bits); (bits_by_make); decide)))
  k_with "@callWith ref" => (k_here; k_dflt (first | (refine' callWith_K ?k1 ?k2 ?_; (case k1 => with_reducible assumption); (case k2 => k_is); k_whole) | (refine' callWith_K0 ?k1 ?k2 ?_; (case k1 => exact Frag.In.keeps (by with_reducible assumption) (Fr.keep (by with_reducible assumption))); (case k2 => k_is); k_whole)))
  k_with "@execs nil" => (with_reducible refine wpAny_execs_nil ?_)
  k_with "@execs cons" => (exfalso; omega)
  k_with "@bits_fit" => ((with_reducible apply Mine.bits_le'); (bits_by_make); decide)
  k_with "@bits" => with_reducible exact Mine.bits_F36
  k_with "@bits" => with_reducible exact Mine.bits_S50
  k_with "@call ref" => (k_here; (with_reducible show wpAny _ _ (PySem.call (Value.ref 54) [Value.int _ _, Value.int _ _]) _ _ _); k_dflt (refine' ClR.use (c_divided _ _ _ _ ?c1 ?c2) ?k1 ?k2 ?k3 ?k4 ?k5 ?kK ?kd ?ku ?_; (case c1 => first | assumption | omega | decide | k_dflt (have q9 := Mine.OdOk.npos (by assumption); omega) | k_dflt (have q9 := Mine.LgOk.bt (by assumption); omega) | k_dflt (have q9 := Mine.FpOk.cpos (by assumption); omega) | k_dflt (exact Mine.scale_ne _)); (case c2 => first | with_reducible assumption | decide | bits_fit | k_dflt (exact Mine.bits_scale (by omega))); (case k1 => k_asm); (case k2 => k_asm); (case k3 => k_asm); (case k4 => k_asm); (case k5 => k_asm); (case kK => first | exact rfl | assumption); (case kd => ktr_room); (case ku => ktr_units)); intro t9 h9 tk9 F9 N9; (try dsimp only); (try k_fold))
  k_with "@call ref" => (k_here; (with_reducible show wpAny _ _ (PySem.call (Value.ref 89) [Value.int _ _]) _ _ _); k_dflt (refine' ClR.use (c_lg _ _ ?c1 ?c2) ?k1 ?k2 ?k3 ?k4 ?k5 ?kK ?kd ?ku ?_; (case c1 => first | with_reducible assumption | decide | k_dflt omega); (case c2 => first | with_reducible assumption | decide | k_dflt omega); (case k1 => k_asm); (case k2 => k_asm); (case k3 => k_asm); (case k4 => k_asm); (case k5 => k_asm); (case kK => first | exact rfl | assumption); (case kd => ktr_room); (case ku => ktr_units)); intro t9 h9 tk9 F9 N9; (try dsimp only); (try k_fold))
  k_with "@call ref" => (k_here; (with_reducible show wpAny _ _ (PySem.call (Value.ref 96) [Value.int _ _]) _ _ _); k_dflt (refine' ClX.use (c_fpx _ _ ?c1 ?c2) ?k1 ?k2 ?k3 ?k4 ?k5 ?kK ?kd ?ku ?_; (case c2 => with_reducible assumption); (case c1 => first | with_reducible assumption | bits_fit); (case k1 => k_asm); (case k2 => k_asm); (case k3 => k_asm); (case k4 => k_asm); (case k5 => k_asm); (case kK => first | exact rfl | assumption); (case kd => ktr_room); (case ku => ktr_units)); intro e9 t9 g9 h9 tk9 F9 R9 U9; (try dsimp only))
  k_with "@call ref" => (k_here; (with_reducible show wpAny _ _ (PySem.call (Value.ref 45) [Value.bytes _ _]) _ _ _); k_dflt (refine' Mine.ps_made _ _ _ _ _ _ _ _ _ _ _ _ _ _ _ _ _ _ _ _ ?k1 ?k2 ?k3 ?k4 ?k5 ?kK ?kd ?ku ?_; (case k1 => k_asm); (case k2 => k_asm); (case k3 => k_asm); (case k4 => k_asm); (case k5 => k_asm); (case kK => first | exact rfl | assumption); (case kd => ktr_room); (case ku => ktr_units)); intro e9 te9 d9 od9 h9 tk9 F9 N9 ht9 he9 hg9 hl9 hn9 hx9; (try dsimp only); (try k_fold))
  k_with "@exec Raise some none" => (k_here; (with_reducible show wpAny _ _ (exec (Stmt.Raise (some (Expr.Call (Expr.Name _ _) (_ :: _) [] _)) none _) _) _ _ _); k_dflt (refine' Mine.Raise_ps ?qh ?_; (case qh => first | rfl | assumption); k_whole))
  k_with "@bits" => exact PySem.intBits_le_64 (by omega) (by omega)
  k_with "@bits" => with_reducible assumption
  k_fill
  intro dp un gd cn cs a ccd cl outer A₀ base h₀ L m news s Q E B F X N T hk hdp hun hret
  refine wpAny_call ?_
  k_dflt cell_enter
  k_steps
  all_goals first
    | (exfalso; omega)
    | (refine ⟨_, _, _, rfl, by assumption, by assumption, ?_⟩
       refine leave_firstP (by assumption) (by assumption) (by assumption) (by assumption) (by assumption) (by assumption) (by assumption) (by assumption) ?_
       intro h2 R2 U2
       exact hret _ _ _ _ _ (by assumption) (R2.drop (by first | exact fun _ h => h | exact fun _ h => List.mem_cons_of_mem _ h | kcj_all)) U2)
set_option maxRecDepth 100000 in
set_option maxHeartbeats 8000000 in
theorem c_pow_0n {w : World} {mean : ExcName → Option Value} {mg mb : Str → Option Value} (v e : Int) (tv te : Tok) (he1 : -2 ^ 40 ≤ e) (he2 : e ≤ 2 ^ 40) (hs : ¬ (e.fmod 1000000 = 0 ∧ -64000000 ≤ e ∧ e ≤ 64000000)) (hv0 : v = 0) (hen : e < 0) (z1 z2 z3 z4 z5 : True) : ClX w mean mg mb 110 18 [.int v tv, .int e te] #[117, 110, 100, 101, 102, 105, 110, 101, 100, 114, 101, 115, 117, 108, 116] := by
  unfold ClX
  k_with_none; w_top off
  k_with "@bits" => with_reducible assumption
  k_with "@bits" => ((with_reducible apply Mine.bits_divd); bits_by_make)
  k_with "@bits" => ((with_reducible apply Mine.bits_prod) <;> bits_by_make)
  k_with "@binaryOp FloorDiv int int" => (k_here; (with_reducible refine floordiv_int ?kbe ?_ (Or.inl ?kbp)); (case kbe => first | omega | (split <;> omega)); (case kbp => ((with_reducible apply Mine.py_of_bits); (bits_by_make); decide)))
  k_with "@callWith ref" => (k_here; k_dflt (first | (refine' callWith_K ?k1 ?k2 ?_; (case k1 => with_reducible assumption); (case k2 => k_is); k_whole) | (refine' callWith_K0 ?k1 ?k2 ?_; (case k1 => exact Frag.In.keeps (by with_reducible assumption) (Fr.keep (by with_reducible assumption))); (case k2 => k_is); k_whole)))
  k_with "@execs nil" => (with_reducible refine wpAny_execs_nil ?_)
  k_with "@execs cons" => (exfalso; omega)
  k_with "@bits_fit" => ((with_reducible apply Mine.bits_le'); (bits_by_make); decide)
  k_with "@bits" => with_reducible exact Mine.bits_F36
  k_with "@bits" => with_reducible exact Mine.bits_S50
  k_with "@call ref" => (k_here; (with_reducible show wpAny _ _ (PySem.call (Value.ref 54) [Value.int _ _, Value.int _ _]) _ _ _); k_dflt (refine' ClR.use (c_divided _ _ _ _ ?c1 ?c2) ?k1 ?k2 ?k3 ?k4 ?k5 ?kK ?kd ?ku ?_; (case c1 => first | assumption | omega | decide | k_dflt (have q9 := Mine.OdOk.npos (by assumption); omega) | k_dflt (have q9 := Mine.LgOk.bt (by assumption); omega) | k_dflt (have q9 := Mine.FpOk.cpos (by assumption); omega) | k_dflt (exact Mine.scale_ne _)); (case c2 => first | with_reducible assumption | decide | bits_fit | k_dflt (exact Mine.bits_scale (by omega))); (case k1 => k_asm); (case k2 => k_asm); (case k3 => k_asm); (case k4 => k_asm); (case k5 => k_asm); (case kK => first | exact rfl | assumption); (case kd => ktr_room); (case ku => ktr_units)); intro t9 h9 tk9 F9 N9; (try dsimp only); (try k_fold))
  k_with "@call ref" => (k_here; (with_reducible show wpAny _ _ (PySem.call (Value.ref 89) [Value.int _ _]) _ _ _); k_dflt (refine' ClR.use (c_lg _ _ ?c1 ?c2) ?k1 ?k2 ?k3 ?k4 ?k5 ?kK ?kd ?ku ?_; (case c1 => first | with_reducible assumption | decide | k_dflt omega); (case c2 => first | with_reducible assumption | decide | k_dflt omega); (case k1 => k_asm); (case k2 => k_asm); (case k3 => k_asm); (case k4 => k_asm); (case k5 => k_asm); (case kK => first | exact rfl | assumption); (case kd => ktr_room); (case ku => ktr_units)); intro t9 h9 tk9 F9 N9; (try dsimp only); (try k_fold))
  k_with "@call ref" => (k_here; (with_reducible show wpAny _ _ (PySem.call (Value.ref 96) [Value.int _ _]) _ _ _); k_dflt (refine' ClX.use (c_fpx _ _ ?c1 ?c2) ?k1 ?k2 ?k3 ?k4 ?k5 ?kK ?kd ?ku ?_; (case c2 => with_reducible assumption); (case c1 => first | with_reducible assumption | bits_fit); (case k1 => k_asm); (case k2 => k_asm); (case k3 => k_asm); (case k4 => k_asm); (case k5 => k_asm); (case kK => first | exact rfl | assumption); (case kd => ktr_room); (case ku => ktr_units)); intro e9 t9 g9 h9 tk9 F9 R9 U9; (try dsimp only))
  k_with "@call ref" => (k_here; (with_reducible show wpAny _ _ (PySem.call (Value.ref 45) [Value.bytes _ _]) _ _ _); k_dflt (refine' Mine.ps_made _ _ _ _ _ _ _ _ _ _ _ _ _ _ _ _ _ _ _ _ ?k1 ?k2 ?k3 ?k4 ?k5 ?kK ?kd ?ku ?_; (case k1 => k_asm); (case k2 => k_asm); (case k3 => k_asm); (case k4 => k_asm); (case k5 => k_asm); (case kK => first | exact rfl | assumption); (case kd => ktr_room); (case ku => ktr_units)); intro e9 te9 d9 od9 h9 tk9 F9 N9 ht9 he9 hg9 hl9 hn9 hx9; (try dsimp only); (try k_fold))
  k_with "@exec Raise some none" => (k_here; (with_reducible show wpAny _ _ (exec (Stmt.Raise (some (Expr.Call (Expr.Name _ _) (_ :: _) [] _)) none _) _) _ _ _); k_dflt (refine' Mine.Raise_ps ?qh ?_; (case qh => first | rfl | assumption); k_whole))
  k_with "@bits" => exact PySem.intBits_le_64 (by omega) (by omega)
  k_with "@bits" => with_reducible assumption
  k_fill
  intro dp un gd cn cs a ccd cl outer A₀ base h₀ L m news s Q E B F X N T hk hdp hun hret
  refine wpAny_call ?_
  k_dflt cell_enter
  k_steps
  all_goals first
    | (exfalso; omega)
    | (refine ⟨_, _, _, rfl, by assumption, by assumption, ?_⟩
       refine leave_firstP (by assumption) (by assumption) (by assumption) (by assumption) (by assumption) (by assumption) (by assumption) (by assumption) ?_
       intro h2 R2 U2
       exact hret _ _ _ _ _ (by assumption) (R2.drop (by first | exact fun _ h => h | exact fun _ h => List.mem_cons_of_mem _ h | kcj_all)) U2)
end
end Mine
end
section
open PySem PySem.W PyProof.Rows
namespace Mine
open PySem.Builtin.Int (intBits)
open PySem.Calls
theorem leave_nextPX {M : Model} {A : Around} {E : Value → Shared → Prop} {s' : Shared} {base g g₂ : Heap} {outer : List Env} {L e : Addr} {m : Str → Option Value} {env : Env} {Q : Unit → Shared → Prop} {news : List (Addr × Obj)} {v : Value}
    (hf : env.frame = some L) (K : Below A base outer g) (F : Fr g L g₂ m) (R : RaisedP base g₂ (env :: outer) e v news s'.heap) (hsm : g₂.UpToSlots s'.heap)
    (hQ : ∀ h', RaisedP base g outer e v news h' → g.UpToSlots h' → Q () { s' with heap := h' }) :
    wpAny M (A.deeper env) (leaving env (.ref e)) Q E s' := by
  obtain ⟨B, d, od, hB, hBG, hl, ht, hfl⟩ := R
  exact d_leave_next (Around.frames_deeper K.stack) hf hfl fun h' x u =>
    hQ h' ⟨B, d, od, hB, fun b o q nm => hBG b o (F.keep b o q) (fun hm => by
      rcases kts_memX hf hm with z | z
      · rw [z, kts_self F] at q
        cases q
      · exact nm z), fun q hq => ⟨(hl q hq).1, kts_none F.keep (hl q hq).2.1, (hl q hq).2.2⟩, ht, x⟩ ((Heap.UpToSlots.of_keeps F.keep).trans (hsm.trans u))
noncomputable abbrev noArgs : Arguments := { posonlyargs := [], args := [], vararg := none, kwonlyargs := [], kw_defaults := [], kwarg := none, defaults := [] }
noncomputable abbrev scW : Scope := { kind := .function, names := [("exponent", .free), ("worth", .free), ("power", .globalImplicit)], isGenerator := false, isCoroutine := false, more := [] }
noncomputable abbrev scE : Scope := { kind := .function, names := [("exponent", .free), ("power", .globalImplicit)], isGenerator := false, isCoroutine := false, more := [] }
noncomputable abbrev scN : Scope := { kind := .function, names := [("number", .free), ("fine_power", .globalImplicit)], isGenerator := false, isCoroutine := false, more := [] }
noncomputable abbrev bd1 (p1 p2 p3 p4 : Pos) : PySem.Expr := .Call (.Name "power" p1) [.Name "worth" p2, .Name "exponent" p3] [] p4
noncomputable abbrev bd2 (p1 p2 p3 p4 p5 p6 : Pos) : PySem.Expr := .Call (.Name "power" p1) [.BinOp (.Constant (.int 0) 0 p2) .Sub (.Name "worth" p3) p4, .Name "exponent" p5] [] p6
noncomputable abbrev bd3 (p1 p2 p3 p4 : Pos) : PySem.Expr := .Call (.Name "power" p1) [.Constant (.int 0) 0 p2, .Name "exponent" p3] [] p4
noncomputable abbrev bdN (p1 p2 p3 : Pos) : PySem.Expr := .Call (.Name "fine_power" p1) [.Name "number" p2] [] p3
section

set_option maxRecDepth 100000 in
set_option maxHeartbeats 8000000 in
theorem c_lam1_r {w : World} {mean : ExcName → Option Value} {mg mb : Str → Option Value} (f : Addr) (qual : Str) (p1 p2 p3 p4 : Pos) (pm : Value) (c' : Addr) (ctv : Value) (oc : Obj) (vs : Array Value) (tq : Tok) (ce cw : Addr) (oe ow : Obj) (v e : Int) (tv te : Tok) (rest : List (Addr × Obj)) (x : Int)
    (hd1 : oc.data = .fields vs) (hd2 : vs[1]? = some (.str qual tq)) (hw : ow.data = .cell (some (.int v tv))) (he : oe.data = .cell (some (.int e te)))
    (HP : ∀ tv te : Tok, ClR w mean mg mb 110 16 [.int v tv, .int e te] (fun t => .int x t)) :
    ClRN w mean mg mb f 20 [] ((f, kla_obj "<lambda>" qual noArgs (bd1 p1 p2 p3 p4) scW [("worth", cw), ("exponent", ce)] pm c' ctv) :: (c', oc) :: (cw, ow) :: (ce, oe) :: rest) (fun t => .int x t) := by
  unfold ClRN
  k_with_none; w_top off
  k_with "@bits" => with_reducible assumption
  k_with "@bits" => ((with_reducible apply Mine.bits_divd); bits_by_make)
  k_with "@bits" => ((with_reducible apply Mine.bits_prod) <;> bits_by_make)
  k_with "@binaryOp FloorDiv int int" => (k_here; (with_reducible refine floordiv_int ?kbe ?_ (Or.inl ?kbp)); (case kbe => first | omega | (split <;> omega) | k_dflt (have q9 := Mine.GwOk.kb (by assumption); omega) | k_dflt (have q9 := Mine.SqOk.pos (by assumption); omega)); (case kbp => ((with_reducible apply Mine.py_of_bits); (bits_by_make); decide)))
  k_with "@callWith ref" => (k_here; k_dflt (first | (refine' callWith_K ?k1 ?k2 ?_; (case k1 => with_reducible assumption); (case k2 => k_is); k_whole) | (refine' callWith_K0 ?k1 ?k2 ?_; (case k1 => exact Frag.In.keeps (by with_reducible assumption) (Fr.keep (by with_reducible assumption))); (case k2 => k_is); k_whole)))
  k_with "@execs nil" => (with_reducible refine wpAny_execs_nil ?_)
  k_with "@bits_fit" => ((with_reducible apply Mine.bits_le'); (bits_by_make); decide)
  k_with "@bits" => with_reducible exact Mine.bits_F36
  k_with "@bits" => with_reducible exact Mine.bits_S50
  k_with "@eval Name" => (k_here; k_dflt (refine' nameX_F ?qN ?qc ?qm ?qd ?_ ?qa ?qb; (case qa => exact rfl); (case qb => exact rfl); (case qN => k_asm); (case qc => exact rfl); (case qm => k_mem); (case qd => assumption); k_whole))
  k_with "@call ref" => (k_here; (with_reducible show wpAny _ _ (PySem.call (Value.ref _) _) _ _ _); (rename (∀ _ _, Mine.ClR _ _ _ _ _ _ _ _) => hC9); k_dflt (refine' Mine.ClR.use (hC9 _ _) ?k1 ?k2 ?k3 ?k4 ?k5 ?kK ?kd ?ku ?_; (case k1 => k_asm); (case k2 => k_asm); (case k3 => k_asm); (case k4 => k_asm); (case k5 => k_asm); (case kK => first | exact rfl | assumption); (case kd => ktr_room); (case ku => ktr_units)); intro t9 h9 tk9 F9 N9; (try dsimp only); (try k_fold))
  k_with "@call ref" => (k_here; (with_reducible show wpAny _ _ (PySem.call (Value.ref _) _) _ _ _); (rename (∀ _, Mine.ClR _ _ _ _ _ _ _ _) => hC9); k_dflt (refine' Mine.ClR.use (hC9 _) ?k1 ?k2 ?k3 ?k4 ?k5 ?kK ?kd ?ku ?_; (case k1 => k_asm); (case k2 => k_asm); (case k3 => k_asm); (case k4 => k_asm); (case k5 => k_asm); (case kK => first | exact rfl | assumption); (case kd => ktr_room); (case ku => ktr_units)); intro t9 h9 tk9 F9 N9; (try dsimp only); (try k_fold))
  k_fill
  intro dp un gd cn cs a ccd cl outer A₀ base h₀ L m s Q E B F X N T hk hdp hun hret
  refine wpAny_call ?_
  k_dflt (refine' kla_code ?k1 ?k2 ?k3 ?k4 ?k5 ?kA ?kF ?kK ?k6 ?k7 ?k8 ?k9 ?kB ?_ ?c2 ?c3 ?c4 ?c5; (case kA => exact rfl); (case kF => exact rfl); (case kK => assumption); (case k1 => k_asm); (case k2 => k_asm); (case k3 => k_asm); (case k4 => k_asm); (case k5 => k_asm); (case k6 => k_mem); (case k7 => exact codeRec_news (by k_asm) (by k_mem) (by assumption) (by assumption)); (case k8 => ktr_room); (case k9 => exact rfl); (case c5 => decide); (case kB => exact locs rfl); (case c2 => exact rfl); (case c3 => exact rfl); (case c4 => exact rfl); k_whole; intro g' L' h' FG' F' N' B' X' T'; (try dsimp only); (try k_lift B'); (try k_fold))
  k_steps
  all_goals cb_end hret
set_option maxRecDepth 100000 in
set_option maxHeartbeats 8000000 in
theorem c_lam2_r {w : World} {mean : ExcName → Option Value} {mg mb : Str → Option Value} (f : Addr) (qual : Str) (p1 p2 p3 p4 p5 p6 : Pos) (pm : Value) (c' : Addr) (ctv : Value) (oc : Obj) (vs : Array Value) (tq : Tok) (ce cw : Addr) (oe ow : Obj) (v e : Int) (tv te : Tok) (rest : List (Addr × Obj)) (x : Int)
    (hd1 : oc.data = .fields vs) (hd2 : vs[1]? = some (.str qual tq)) (hw : ow.data = .cell (some (.int v tv))) (he : oe.data = .cell (some (.int e te)))
    (HP : ∀ tv te : Tok, ClR w mean mg mb 110 16 [.int (0 - v) tv, .int e te] (fun t => .int x t)) :
    ClRN w mean mg mb f 20 [] ((f, kla_obj "<lambda>" qual noArgs (bd2 p1 p2 p3 p4 p5 p6) scW [("worth", cw), ("exponent", ce)] pm c' ctv) :: (c', oc) :: (cw, ow) :: (ce, oe) :: rest) (fun t => .int x t) := by
  unfold ClRN
  k_with_none; w_top off
  k_with "@bits" => with_reducible assumption
  k_with "@bits" => ((with_reducible apply Mine.bits_divd); bits_by_make)
  k_with "@bits" => ((with_reducible apply Mine.bits_prod) <;> bits_by_make)
  k_with "@binaryOp FloorDiv int int" => (k_here; (with_reducible refine floordiv_int ?kbe ?_ (Or.inl ?kbp)); (case kbe => first | omega | (split <;> omega) | k_dflt (have q9 := Mine.GwOk.kb (by assumption); omega) | k_dflt (have q9 := Mine.SqOk.pos (by assumption); omega)); (case kbp => ((with_reducible apply Mine.py_of_bits); (bits_by_make); decide)))
  k_with "@callWith ref" => (k_here; k_dflt (first | (refine' callWith_K ?k1 ?k2 ?_; (case k1 => with_reducible assumption); (case k2 => k_is); k_whole) | (refine' callWith_K0 ?k1 ?k2 ?_; (case k1 => exact Frag.In.keeps (by with_reducible assumption) (Fr.keep (by with_reducible assumption))); (case k2 => k_is); k_whole)))
  k_with "@execs nil" => (with_reducible refine wpAny_execs_nil ?_)
  k_with "@bits_fit" => ((with_reducible apply Mine.bits_le'); (bits_by_make); decide)
  k_with "@bits" => with_reducible exact Mine.bits_F36
  k_with "@bits" => with_reducible exact Mine.bits_S50
  k_with "@eval Name" => (k_here; k_dflt (refine' nameX_F ?qN ?qc ?qm ?qd ?_ ?qa ?qb; (case qa => exact rfl); (case qb => exact rfl); (case qN => k_asm); (case qc => exact rfl); (case qm => k_mem); (case qd => assumption); k_whole))
  k_with "@call ref" => (k_here; (with_reducible show wpAny _ _ (PySem.call (Value.ref _) _) _ _ _); (rename (∀ _ _, Mine.ClR _ _ _ _ _ _ _ _) => hC9); k_dflt (refine' Mine.ClR.use (hC9 _ _) ?k1 ?k2 ?k3 ?k4 ?k5 ?kK ?kd ?ku ?_; (case k1 => k_asm); (case k2 => k_asm); (case k3 => k_asm); (case k4 => k_asm); (case k5 => k_asm); (case kK => first | exact rfl | assumption); (case kd => ktr_room); (case ku => ktr_units)); intro t9 h9 tk9 F9 N9; (try dsimp only); (try k_fold))
  k_with "@call ref" => (k_here; (with_reducible show wpAny _ _ (PySem.call (Value.ref _) _) _ _ _); (rename (∀ _, Mine.ClR _ _ _ _ _ _ _ _) => hC9); k_dflt (refine' Mine.ClR.use (hC9 _) ?k1 ?k2 ?k3 ?k4 ?k5 ?kK ?kd ?ku ?_; (case k1 => k_asm); (case k2 => k_asm); (case k3 => k_asm); (case k4 => k_asm); (case k5 => k_asm); (case kK => first | exact rfl | assumption); (case kd => ktr_room); (case ku => ktr_units)); intro t9 h9 tk9 F9 N9; (try dsimp only); (try k_fold))
  k_fill
  intro dp un gd cn cs a ccd cl outer A₀ base h₀ L m s Q E B F X N T hk hdp hun hret
  refine wpAny_call ?_
  k_dflt (refine' kla_code ?k1 ?k2 ?k3 ?k4 ?k5 ?kA ?kF ?kK ?k6 ?k7 ?k8 ?k9 ?kB ?_ ?c2 ?c3 ?c4 ?c5; (case kA => exact rfl); (case kF => exact rfl); (case kK => assumption); (case k1 => k_asm); (case k2 => k_asm); (case k3 => k_asm); (case k4 => k_asm); (case k5 => k_asm); (case k6 => k_mem); (case k7 => exact codeRec_news (by k_asm) (by k_mem) (by assumption) (by assumption)); (case k8 => ktr_room); (case k9 => exact rfl); (case c5 => decide); (case kB => exact locs rfl); (case c2 => exact rfl); (case c3 => exact rfl); (case c4 => exact rfl); k_whole; intro g' L' h' FG' F' N' B' X' T'; (try dsimp only); (try k_lift B'); (try k_fold))
  k_steps
  all_goals cb_end hret
set_option maxRecDepth 100000 in
set_option maxHeartbeats 8000000 in
theorem c_lam3_r {w : World} {mean : ExcName → Option Value} {mg mb : Str → Option Value} (f : Addr) (qual : Str) (p1 p2 p3 p4 : Pos) (pm : Value) (c' : Addr) (ctv : Value) (oc : Obj) (vs : Array Value) (tq : Tok) (ce cw : Addr) (oe ow : Obj) (e : Int) (te : Tok) (rest : List (Addr × Obj)) (x : Int)
    (hd1 : oc.data = .fields vs) (hd2 : vs[1]? = some (.str qual tq)) (he : oe.data = .cell (some (.int e te)))
    (HP : ∀ tv te : Tok, ClR w mean mg mb 110 16 [.int 0 tv, .int e te] (fun t => .int x t)) :
    ClRN w mean mg mb f 20 [] ((f, kla_obj "<lambda>" qual noArgs (bd3 p1 p2 p3 p4) scE [("exponent", ce)] pm c' ctv) :: (c', oc) :: (cw, ow) :: (ce, oe) :: rest) (fun t => .int x t) := by
  unfold ClRN
  k_with_none; w_top off
  k_with "@bits" => with_reducible assumption
  k_with "@bits" => ((with_reducible apply Mine.bits_divd); bits_by_make)
  k_with "@bits" => ((with_reducible apply Mine.bits_prod) <;> bits_by_make)
  k_with "@binaryOp FloorDiv int int" => (k_here; (with_reducible refine floordiv_int ?kbe ?_ (Or.inl ?kbp)); (case kbe => first | omega | (split <;> omega) | k_dflt (have q9 := Mine.GwOk.kb (by assumption); omega) | k_dflt (have q9 := Mine.SqOk.pos (by assumption); omega)); (case kbp => ((with_reducible apply Mine.py_of_bits); (bits_by_make); decide)))
  k_with "@callWith ref" => (k_here; k_dflt (first | (refine' callWith_K ?k1 ?k2 ?_; (case k1 => with_reducible assumption); (case k2 => k_is); k_whole) | (refine' callWith_K0 ?k1 ?k2 ?_; (case k1 => exact Frag.In.keeps (by with_reducible assumption) (Fr.keep (by with_reducible assumption))); (case k2 => k_is); k_whole)))
  k_with "@execs nil" => (with_reducible refine wpAny_execs_nil ?_)
  k_with "@bits_fit" => ((with_reducible apply Mine.bits_le'); (bits_by_make); decide)
  k_with "@bits" => with_reducible exact Mine.bits_F36
  k_with "@bits" => with_reducible exact Mine.bits_S50
  k_with "@eval Name" => (k_here; k_dflt (refine' nameX_F ?qN ?qc ?qm ?qd ?_ ?qa ?qb; (case qa => exact rfl); (case qb => exact rfl); (case qN => k_asm); (case qc => exact rfl); (case qm => k_mem); (case qd => assumption); k_whole))
  k_with "@call ref" => (k_here; (with_reducible show wpAny _ _ (PySem.call (Value.ref _) _) _ _ _); (rename (∀ _ _, Mine.ClR _ _ _ _ _ _ _ _) => hC9); k_dflt (refine' Mine.ClR.use (hC9 _ _) ?k1 ?k2 ?k3 ?k4 ?k5 ?kK ?kd ?ku ?_; (case k1 => k_asm); (case k2 => k_asm); (case k3 => k_asm); (case k4 => k_asm); (case k5 => k_asm); (case kK => first | exact rfl | assumption); (case kd => ktr_room); (case ku => ktr_units)); intro t9 h9 tk9 F9 N9; (try dsimp only); (try k_fold))
  k_with "@call ref" => (k_here; (with_reducible show wpAny _ _ (PySem.call (Value.ref _) _) _ _ _); (rename (∀ _, Mine.ClR _ _ _ _ _ _ _ _) => hC9); k_dflt (refine' Mine.ClR.use (hC9 _) ?k1 ?k2 ?k3 ?k4 ?k5 ?kK ?kd ?ku ?_; (case k1 => k_asm); (case k2 => k_asm); (case k3 => k_asm); (case k4 => k_asm); (case k5 => k_asm); (case kK => first | exact rfl | assumption); (case kd => ktr_room); (case ku => ktr_units)); intro t9 h9 tk9 F9 N9; (try dsimp only); (try k_fold))
  k_fill
  intro dp un gd cn cs a ccd cl outer A₀ base h₀ L m s Q E B F X N T hk hdp hun hret
  refine wpAny_call ?_
  k_dflt (refine' kla_code ?k1 ?k2 ?k3 ?k4 ?k5 ?kA ?kF ?kK ?k6 ?k7 ?k8 ?k9 ?kB ?_ ?c2 ?c3 ?c4 ?c5; (case kA => exact rfl); (case kF => exact rfl); (case kK => assumption); (case k1 => k_asm); (case k2 => k_asm); (case k3 => k_asm); (case k4 => k_asm); (case k5 => k_asm); (case k6 => k_mem); (case k7 => exact codeRec_news (by k_asm) (by k_mem) (by assumption) (by assumption)); (case k8 => ktr_room); (case k9 => exact rfl); (case c5 => decide); (case kB => exact locs rfl); (case c2 => exact rfl); (case c3 => exact rfl); (case c4 => exact rfl); k_whole; intro g' L' h' FG' F' N' B' X' T'; (try dsimp only); (try k_lift B'); (try k_fold))
  k_steps
  all_goals cb_end hret
set_option maxRecDepth 100000 in
set_option maxHeartbeats 8000000 in
theorem c_lamN_r {w : World} {mean : ExcName → Option Value} {mg mb : Str → Option Value} (f : Addr) (qual : Str) (p1 p2 p3 : Pos) (pm : Value) (c' : Addr) (ctv : Value) (oc : Obj) (vs : Array Value) (tq : Tok) (ce : Addr) (oe : Obj) (e : Int) (te : Tok) (rest : List (Addr × Obj)) (x : Int)
    (hd1 : oc.data = .fields vs) (hd2 : vs[1]? = some (.str qual tq)) (he : oe.data = .cell (some (.int e te)))
    (HP : ∀ tv : Tok, ClR w mean mg mb 96 16 [.int e tv] (fun t => .int x t)) :
    ClRN w mean mg mb f 20 [] ((f, kla_obj "<lambda>" qual noArgs (bdN p1 p2 p3) scN [("number", ce)] pm c' ctv) :: (c', oc) :: (ce, oe) :: rest) (fun t => .int x t) := by
  unfold ClRN
  k_with_none; w_top off
  k_with "@bits" => with_reducible assumption
  k_with "@bits" => ((with_reducible apply Mine.bits_divd); bits_by_make)
  k_with "@bits" => ((with_reducible apply Mine.bits_prod) <;> bits_by_make)
  k_with "@binaryOp FloorDiv int int" => (k_here; (with_reducible refine floordiv_int ?kbe ?_ (Or.inl ?kbp)); (case kbe => first | omega | (split <;> omega) | k_dflt (have q9 := Mine.GwOk.kb (by assumption); omega) | k_dflt (have q9 := Mine.SqOk.pos (by assumption); omega)); (case kbp => ((with_reducible apply Mine.py_of_bits); (bits_by_make); decide)))
  k_with "@callWith ref" => (k_here; k_dflt (first | (refine' callWith_K ?k1 ?k2 ?_; (case k1 => with_reducible assumption); (case k2 => k_is); k_whole) | (refine' callWith_K0 ?k1 ?k2 ?_; (case k1 => exact Frag.In.keeps (by with_reducible assumption) (Fr.keep (by with_reducible assumption))); (case k2 => k_is); k_whole)))
  k_with "@execs nil" => (with_reducible refine wpAny_execs_nil ?_)
  k_with "@bits_fit" => ((with_reducible apply Mine.bits_le'); (bits_by_make); decide)
  k_with "@bits" => with_reducible exact Mine.bits_F36
  k_with "@bits" => with_reducible exact Mine.bits_S50
  k_with "@eval Name" => (k_here; k_dflt (refine' nameX_F ?qN ?qc ?qm ?qd ?_ ?qa ?qb; (case qa => exact rfl); (case qb => exact rfl); (case qN => k_asm); (case qc => exact rfl); (case qm => k_mem); (case qd => assumption); k_whole))
  k_with "@call ref" => (k_here; (with_reducible show wpAny _ _ (PySem.call (Value.ref _) _) _ _ _); (rename (∀ _ _, Mine.ClR _ _ _ _ _ _ _ _) => hC9); k_dflt (refine' Mine.ClR.use (hC9 _ _) ?k1 ?k2 ?k3 ?k4 ?k5 ?kK ?kd ?ku ?_; (case k1 => k_asm); (case k2 => k_asm); (case k3 => k_asm); (case k4 => k_asm); (case k5 => k_asm); (case kK => first | exact rfl | assumption); (case kd => ktr_room); (case ku => ktr_units)); intro t9 h9 tk9 F9 N9; (try dsimp only); (try k_fold))
  k_with "@call ref" => (k_here; (with_reducible show wpAny _ _ (PySem.call (Value.ref _) _) _ _ _); (rename (∀ _, Mine.ClR _ _ _ _ _ _ _ _) => hC9); k_dflt (refine' Mine.ClR.use (hC9 _) ?k1 ?k2 ?k3 ?k4 ?k5 ?kK ?kd ?ku ?_; (case k1 => k_asm); (case k2 => k_asm); (case k3 => k_asm); (case k4 => k_asm); (case k5 => k_asm); (case kK => first | exact rfl | assumption); (case kd => ktr_room); (case ku => ktr_units)); intro t9 h9 tk9 F9 N9; (try dsimp only); (try k_fold))
  k_fill
  intro dp un gd cn cs a ccd cl outer A₀ base h₀ L m s Q E B F X N T hk hdp hun hret
  refine wpAny_call ?_
  k_dflt (refine' kla_code ?k1 ?k2 ?k3 ?k4 ?k5 ?kA ?kF ?kK ?k6 ?k7 ?k8 ?k9 ?kB ?_ ?c2 ?c3 ?c4 ?c5; (case kA => exact rfl); (case kF => exact rfl); (case kK => assumption); (case k1 => k_asm); (case k2 => k_asm); (case k3 => k_asm); (case k4 => k_asm); (case k5 => k_asm); (case k6 => k_mem); (case k7 => exact codeRec_news (by k_asm) (by k_mem) (by assumption) (by assumption)); (case k8 => ktr_room); (case k9 => exact rfl); (case c5 => decide); (case kB => exact locs rfl); (case c2 => exact rfl); (case c3 => exact rfl); (case c4 => exact rfl); k_whole; intro g' L' h' FG' F' N' B' X' T'; (try dsimp only); (try k_lift B'); (try k_fold))
  k_steps
  all_goals cb_end hret

end
section

set_option maxRecDepth 100000 in
set_option maxHeartbeats 8000000 in
theorem c_lam1_x {w : World} {mean : ExcName → Option Value} {mg mb : Str → Option Value} (f : Addr) (qual : Str) (p1 p2 p3 p4 : Pos) (pm : Value) (c' : Addr) (ctv : Value) (oc : Obj) (vs : Array Value) (tq : Tok) (ce cw : Addr) (oe ow : Obj) (v e : Int) (tv te : Tok) (rest : List (Addr × Obj)) (b : Array UInt8)
    (hd1 : oc.data = .fields vs) (hd2 : vs[1]? = some (.str qual tq)) (hw : ow.data = .cell (some (.int v tv))) (he : oe.data = .cell (some (.int e te)))
    (HP : ∀ tv te : Tok, ClX w mean mg mb 110 18 [.int v tv, .int e te] b) :
    ClXN w mean mg mb f 20 [] ((f, kla_obj "<lambda>" qual noArgs (bd1 p1 p2 p3 p4) scW [("worth", cw), ("exponent", ce)] pm c' ctv) :: (c', oc) :: (cw, ow) :: (ce, oe) :: rest) b := by
  unfold ClXN
  k_with_none; w_top off
  k_with "@bits" => with_reducible assumption
  k_with "@bits" => ((with_reducible apply Mine.bits_divd); bits_by_make)
  k_with "@bits" => ((with_reducible apply Mine.bits_prod) <;> bits_by_make)
  k_with "@binaryOp FloorDiv int int" => (k_here; (with_reducible refine floordiv_int ?kbe ?_ (Or.inl ?kbp)); (case kbe => first | omega | (split <;> omega) | k_dflt (have q9 := Mine.GwOk.kb (by assumption); omega) | k_dflt (have q9 := Mine.SqOk.pos (by assumption); omega)); (case kbp => ((with_reducible apply Mine.py_of_bits); (bits_by_make); decide)))
  k_with "@callWith ref" => (k_here; k_dflt (first | (refine' callWith_K ?k1 ?k2 ?_; (case k1 => with_reducible assumption); (case k2 => k_is); k_whole) | (refine' callWith_K0 ?k1 ?k2 ?_; (case k1 => exact Frag.In.keeps (by with_reducible assumption) (Fr.keep (by with_reducible assumption))); (case k2 => k_is); k_whole)))
  k_with "@execs nil" => (with_reducible refine wpAny_execs_nil ?_)
  k_with "@bits_fit" => ((with_reducible apply Mine.bits_le'); (bits_by_make); decide)
  k_with "@bits" => with_reducible exact Mine.bits_F36
  k_with "@bits" => with_reducible exact Mine.bits_S50
  k_with "@eval Name" => (k_here; k_dflt (refine' nameX_F ?qN ?qc ?qm ?qd ?_ ?qa ?qb; (case qa => exact rfl); (case qb => exact rfl); (case qN => k_asm); (case qc => exact rfl); (case qm => k_mem); (case qd => assumption); k_whole))
  k_with "@call ref" => (k_here; (with_reducible show wpAny _ _ (PySem.call (Value.ref _) _) _ _ _); (rename (∀ _ _, Mine.ClX _ _ _ _ _ _ _ _) => hC9); k_dflt (refine' Mine.ClX.use (hC9 _ _) ?k1 ?k2 ?k3 ?k4 ?k5 ?kK ?kd ?ku ?_; (case k1 => k_asm); (case k2 => k_asm); (case k3 => k_asm); (case k4 => k_asm); (case k5 => k_asm); (case kK => first | exact rfl | assumption); (case kd => ktr_room); (case ku => ktr_units)); intro e9 t9 g9 h9 tk9 F9 R9 U9; (try dsimp only); (try k_fold))
  k_with "@call ref" => (k_here; (with_reducible show wpAny _ _ (PySem.call (Value.ref _) _) _ _ _); (rename (∀ _, Mine.ClX _ _ _ _ _ _ _ _) => hC9); k_dflt (refine' Mine.ClX.use (hC9 _) ?k1 ?k2 ?k3 ?k4 ?k5 ?kK ?kd ?ku ?_; (case k1 => k_asm); (case k2 => k_asm); (case k3 => k_asm); (case k4 => k_asm); (case k5 => k_asm); (case kK => first | exact rfl | assumption); (case kd => ktr_room); (case ku => ktr_units)); intro e9 t9 g9 h9 tk9 F9 R9 U9; (try dsimp only); (try k_fold))
  k_fill
  intro dp un gd cn cs a ccd cl outer A₀ base h₀ L m s Q E B F X N T hk hdp hun hret
  refine wpAny_call ?_
  k_dflt (refine' kla_code ?k1 ?k2 ?k3 ?k4 ?k5 ?kA ?kF ?kK ?k6 ?k7 ?k8 ?k9 ?kB ?_ ?c2 ?c3 ?c4 ?c5; (case kA => exact rfl); (case kF => exact rfl); (case kK => assumption); (case k1 => k_asm); (case k2 => k_asm); (case k3 => k_asm); (case k4 => k_asm); (case k5 => k_asm); (case k6 => k_mem); (case k7 => exact codeRec_news (by k_asm) (by k_mem) (by assumption) (by assumption)); (case k8 => ktr_room); (case k9 => exact rfl); (case c5 => decide); (case kB => exact locs rfl); (case c2 => exact rfl); (case c3 => exact rfl); (case c4 => exact rfl); k_whole; intro g' L' h' FG' F' N' B' X' T'; (try dsimp only); (try k_lift B'); (try k_fold))
  k_steps
  all_goals
    refine leave_nextPX rfl (by assumption) (by assumption) (by assumption) (by assumption) ?_
    intro h2 R2 U2
    exact hret _ _ _ _ _ (by assumption) R2 U2
set_option maxRecDepth 100000 in
set_option maxHeartbeats 8000000 in
theorem c_lam2_x {w : World} {mean : ExcName → Option Value} {mg mb : Str → Option Value} (f : Addr) (qual : Str) (p1 p2 p3 p4 p5 p6 : Pos) (pm : Value) (c' : Addr) (ctv : Value) (oc : Obj) (vs : Array Value) (tq : Tok) (ce cw : Addr) (oe ow : Obj) (v e : Int) (tv te : Tok) (rest : List (Addr × Obj)) (b : Array UInt8)
    (hd1 : oc.data = .fields vs) (hd2 : vs[1]? = some (.str qual tq)) (hw : ow.data = .cell (some (.int v tv))) (he : oe.data = .cell (some (.int e te)))
    (HP : ∀ tv te : Tok, ClX w mean mg mb 110 18 [.int (0 - v) tv, .int e te] b) :
    ClXN w mean mg mb f 20 [] ((f, kla_obj "<lambda>" qual noArgs (bd2 p1 p2 p3 p4 p5 p6) scW [("worth", cw), ("exponent", ce)] pm c' ctv) :: (c', oc) :: (cw, ow) :: (ce, oe) :: rest) b := by
  unfold ClXN
  k_with_none; w_top off
  k_with "@bits" => with_reducible assumption
  k_with "@bits" => ((with_reducible apply Mine.bits_divd); bits_by_make)
  k_with "@bits" => ((with_reducible apply Mine.bits_prod) <;> bits_by_make)
  k_with "@binaryOp FloorDiv int int" => (k_here; (with_reducible refine floordiv_int ?kbe ?_ (Or.inl ?kbp)); (case kbe => first | omega | (split <;> omega) | k_dflt (have q9 := Mine.GwOk.kb (by assumption); omega) | k_dflt (have q9 := Mine.SqOk.pos (by assumption); omega)); (case kbp => ((with_reducible apply Mine.py_of_bits); (bits_by_make); decide)))
  k_with "@callWith ref" => (k_here; k_dflt (first | (refine' callWith_K ?k1 ?k2 ?_; (case k1 => with_reducible assumption); (case k2 => k_is); k_whole) | (refine' callWith_K0 ?k1 ?k2 ?_; (case k1 => exact Frag.In.keeps (by with_reducible assumption) (Fr.keep (by with_reducible assumption))); (case k2 => k_is); k_whole)))
  k_with "@execs nil" => (with_reducible refine wpAny_execs_nil ?_)
  k_with "@bits_fit" => ((with_reducible apply Mine.bits_le'); (bits_by_make); decide)
  k_with "@bits" => with_reducible exact Mine.bits_F36
  k_with "@bits" => with_reducible exact Mine.bits_S50
  k_with "@eval Name" => (k_here; k_dflt (refine' nameX_F ?qN ?qc ?qm ?qd ?_ ?qa ?qb; (case qa => exact rfl); (case qb => exact rfl); (case qN => k_asm); (case qc => exact rfl); (case qm => k_mem); (case qd => assumption); k_whole))
  k_with "@call ref" => (k_here; (with_reducible show wpAny _ _ (PySem.call (Value.ref _) _) _ _ _); (rename (∀ _ _, Mine.ClX _ _ _ _ _ _ _ _) => hC9); k_dflt (refine' Mine.ClX.use (hC9 _ _) ?k1 ?k2 ?k3 ?k4 ?k5 ?kK ?kd ?ku ?_; (case k1 => k_asm); (case k2 => k_asm); (case k3 => k_asm); (case k4 => k_asm); (case k5 => k_asm); (case kK => first | exact rfl | assumption); (case kd => ktr_room); (case ku => ktr_units)); intro e9 t9 g9 h9 tk9 F9 R9 U9; (try dsimp only); (try k_fold))
  k_with "@call ref" => (k_here; (with_reducible show wpAny _ _ (PySem.call (Value.ref _) _) _ _ _); (rename (∀ _, Mine.ClX _ _ _ _ _ _ _ _) => hC9); k_dflt (refine' Mine.ClX.use (hC9 _) ?k1 ?k2 ?k3 ?k4 ?k5 ?kK ?kd ?ku ?_; (case k1 => k_asm); (case k2 => k_asm); (case k3 => k_asm); (case k4 => k_asm); (case k5 => k_asm); (case kK => first | exact rfl | assumption); (case kd => ktr_room); (case ku => ktr_units)); intro e9 t9 g9 h9 tk9 F9 R9 U9; (try dsimp only); (try k_fold))
  k_fill
  intro dp un gd cn cs a ccd cl outer A₀ base h₀ L m s Q E B F X N T hk hdp hun hret
  refine wpAny_call ?_
  k_dflt (refine' kla_code ?k1 ?k2 ?k3 ?k4 ?k5 ?kA ?kF ?kK ?k6 ?k7 ?k8 ?k9 ?kB ?_ ?c2 ?c3 ?c4 ?c5; (case kA => exact rfl); (case kF => exact rfl); (case kK => assumption); (case k1 => k_asm); (case k2 => k_asm); (case k3 => k_asm); (case k4 => k_asm); (case k5 => k_asm); (case k6 => k_mem); (case k7 => exact codeRec_news (by k_asm) (by k_mem) (by assumption) (by assumption)); (case k8 => ktr_room); (case k9 => exact rfl); (case c5 => decide); (case kB => exact locs rfl); (case c2 => exact rfl); (case c3 => exact rfl); (case c4 => exact rfl); k_whole; intro g' L' h' FG' F' N' B' X' T'; (try dsimp only); (try k_lift B'); (try k_fold))
  k_steps
  all_goals
    refine leave_nextPX rfl (by assumption) (by assumption) (by assumption) (by assumption) ?_
    intro h2 R2 U2
    exact hret _ _ _ _ _ (by assumption) R2 U2
set_option maxRecDepth 100000 in
set_option maxHeartbeats 8000000 in
theorem c_lam3_x {w : World} {mean : ExcName → Option Value} {mg mb : Str → Option Value} (f : Addr) (qual : Str) (p1 p2 p3 p4 : Pos) (pm : Value) (c' : Addr) (ctv : Value) (oc : Obj) (vs : Array Value) (tq : Tok) (ce cw : Addr) (oe ow : Obj) (e : Int) (te : Tok) (rest : List (Addr × Obj)) (b : Array UInt8)
    (hd1 : oc.data = .fields vs) (hd2 : vs[1]? = some (.str qual tq)) (he : oe.data = .cell (some (.int e te)))
    (HP : ∀ tv te : Tok, ClX w mean mg mb 110 18 [.int 0 tv, .int e te] b) :
    ClXN w mean mg mb f 20 [] ((f, kla_obj "<lambda>" qual noArgs (bd3 p1 p2 p3 p4) scE [("exponent", ce)] pm c' ctv) :: (c', oc) :: (cw, ow) :: (ce, oe) :: rest) b := by
  unfold ClXN
  k_with_none; w_top off
  k_with "@bits" => with_reducible assumption
  k_with "@bits" => ((with_reducible apply Mine.bits_divd); bits_by_make)
  k_with "@bits" => ((with_reducible apply Mine.bits_prod) <;> bits_by_make)
  k_with "@binaryOp FloorDiv int int" => (k_here; (with_reducible refine floordiv_int ?kbe ?_ (Or.inl ?kbp)); (case kbe => first | omega | (split <;> omega) | k_dflt (have q9 := Mine.GwOk.kb (by assumption); omega) | k_dflt (have q9 := Mine.SqOk.pos (by assumption); omega)); (case kbp => ((with_reducible apply Mine.py_of_bits); (bits_by_make); decide)))
  k_with "@callWith ref" => (k_here; k_dflt (first | (refine' callWith_K ?k1 ?k2 ?_; (case k1 => with_reducible assumption); (case k2 => k_is); k_whole) | (refine' callWith_K0 ?k1 ?k2 ?_; (case k1 => exact Frag.In.keeps (by with_reducible assumption) (Fr.keep (by with_reducible assumption))); (case k2 => k_is); k_whole)))
  k_with "@execs nil" => (with_reducible refine wpAny_execs_nil ?_)
  k_with "@bits_fit" => ((with_reducible apply Mine.bits_le'); (bits_by_make); decide)
  k_with "@bits" => with_reducible exact Mine.bits_F36
  k_with "@bits" => with_reducible exact Mine.bits_S50
  k_with "@eval Name" => (k_here; k_dflt (refine' nameX_F ?qN ?qc ?qm ?qd ?_ ?qa ?qb; (case qa => exact rfl); (case qb => exact rfl); (case qN => k_asm); (case qc => exact rfl); (case qm => k_mem); (case qd => assumption); k_whole))
  k_with "@call ref" => (k_here; (with_reducible show wpAny _ _ (PySem.call (Value.ref _) _) _ _ _); (rename (∀ _ _, Mine.ClX _ _ _ _ _ _ _ _) => hC9); k_dflt (refine' Mine.ClX.use (hC9 _ _) ?k1 ?k2 ?k3 ?k4 ?k5 ?kK ?kd ?ku ?_; (case k1 => k_asm); (case k2 => k_asm); (case k3 => k_asm); (case k4 => k_asm); (case k5 => k_asm); (case kK => first | exact rfl | assumption); (case kd => ktr_room); (case ku => ktr_units)); intro e9 t9 g9 h9 tk9 F9 R9 U9; (try dsimp only); (try k_fold))
  k_with "@call ref" => (k_here; (with_reducible show wpAny _ _ (PySem.call (Value.ref _) _) _ _ _); (rename (∀ _, Mine.ClX _ _ _ _ _ _ _ _) => hC9); k_dflt (refine' Mine.ClX.use (hC9 _) ?k1 ?k2 ?k3 ?k4 ?k5 ?kK ?kd ?ku ?_; (case k1 => k_asm); (case k2 => k_asm); (case k3 => k_asm); (case k4 => k_asm); (case k5 => k_asm); (case kK => first | exact rfl | assumption); (case kd => ktr_room); (case ku => ktr_units)); intro e9 t9 g9 h9 tk9 F9 R9 U9; (try dsimp only); (try k_fold))
  k_fill
  intro dp un gd cn cs a ccd cl outer A₀ base h₀ L m s Q E B F X N T hk hdp hun hret
  refine wpAny_call ?_
  k_dflt (refine' kla_code ?k1 ?k2 ?k3 ?k4 ?k5 ?kA ?kF ?kK ?k6 ?k7 ?k8 ?k9 ?kB ?_ ?c2 ?c3 ?c4 ?c5; (case kA => exact rfl); (case kF => exact rfl); (case kK => assumption); (case k1 => k_asm); (case k2 => k_asm); (case k3 => k_asm); (case k4 => k_asm); (case k5 => k_asm); (case k6 => k_mem); (case k7 => exact codeRec_news (by k_asm) (by k_mem) (by assumption) (by assumption)); (case k8 => ktr_room); (case k9 => exact rfl); (case c5 => decide); (case kB => exact locs rfl); (case c2 => exact rfl); (case c3 => exact rfl); (case c4 => exact rfl); k_whole; intro g' L' h' FG' F' N' B' X' T'; (try dsimp only); (try k_lift B'); (try k_fold))
  k_steps
  all_goals
    refine leave_nextPX rfl (by assumption) (by assumption) (by assumption) (by assumption) ?_
    intro h2 R2 U2
    exact hret _ _ _ _ _ (by assumption) R2 U2
set_option maxRecDepth 100000 in
set_option maxHeartbeats 8000000 in
theorem c_lamN_x {w : World} {mean : ExcName → Option Value} {mg mb : Str → Option Value} (f : Addr) (qual : Str) (p1 p2 p3 : Pos) (pm : Value) (c' : Addr) (ctv : Value) (oc : Obj) (vs : Array Value) (tq : Tok) (ce : Addr) (oe : Obj) (e : Int) (te : Tok) (rest : List (Addr × Obj)) (b : Array UInt8)
    (hd1 : oc.data = .fields vs) (hd2 : vs[1]? = some (.str qual tq)) (he : oe.data = .cell (some (.int e te)))
    (HP : ∀ tv : Tok, ClX w mean mg mb 96 18 [.int e tv] b) :
    ClXN w mean mg mb f 20 [] ((f, kla_obj "<lambda>" qual noArgs (bdN p1 p2 p3) scN [("number", ce)] pm c' ctv) :: (c', oc) :: (ce, oe) :: rest) b := by
  unfold ClXN
  k_with_none; w_top off
  k_with "@bits" => with_reducible assumption
  k_with "@bits" => ((with_reducible apply Mine.bits_divd); bits_by_make)
  k_with "@bits" => ((with_reducible apply Mine.bits_prod) <;> bits_by_make)
  k_with "@binaryOp FloorDiv int int" => (k_here; (with_reducible refine floordiv_int ?kbe ?_ (Or.inl ?kbp)); (case kbe => first | omega | (split <;> omega) | k_dflt (have q9 := Mine.GwOk.kb (by assumption); omega) | k_dflt (have q9 := Mine.SqOk.pos (by assumption); omega)); (case kbp => ((with_reducible apply Mine.py_of_bits); (bits_by_make); decide)))
  k_with "@callWith ref" => (k_here; k_dflt (first | (refine' callWith_K ?k1 ?k2 ?_; (case k1 => with_reducible assumption); (case k2 => k_is); k_whole) | (refine' callWith_K0 ?k1 ?k2 ?_; (case k1 => exact Frag.In.keeps (by with_reducible assumption) (Fr.keep (by with_reducible assumption))); (case k2 => k_is); k_whole)))
  k_with "@execs nil" => (with_reducible refine wpAny_execs_nil ?_)
  k_with "@bits_fit" => ((with_reducible apply Mine.bits_le'); (bits_by_make); decide)
  k_with "@bits" => with_reducible exact Mine.bits_F36
  k_with "@bits" => with_reducible exact Mine.bits_S50
  k_with "@eval Name" => (k_here; k_dflt (refine' nameX_F ?qN ?qc ?qm ?qd ?_ ?qa ?qb; (case qa => exact rfl); (case qb => exact rfl); (case qN => k_asm); (case qc => exact rfl); (case qm => k_mem); (case qd => assumption); k_whole))
  k_with "@call ref" => (k_here; (with_reducible show wpAny _ _ (PySem.call (Value.ref _) _) _ _ _); (rename (∀ _ _, Mine.ClX _ _ _ _ _ _ _ _) => hC9); k_dflt (refine' Mine.ClX.use (hC9 _ _) ?k1 ?k2 ?k3 ?k4 ?k5 ?kK ?kd ?ku ?_; (case k1 => k_asm); (case k2 => k_asm); (case k3 => k_asm); (case k4 => k_asm); (case k5 => k_asm); (case kK => first | exact rfl | assumption); (case kd => ktr_room); (case ku => ktr_units)); intro e9 t9 g9 h9 tk9 F9 R9 U9; (try dsimp only); (try k_fold))
  k_with "@call ref" => (k_here; (with_reducible show wpAny _ _ (PySem.call (Value.ref _) _) _ _ _); (rename (∀ _, Mine.ClX _ _ _ _ _ _ _ _) => hC9); k_dflt (refine' Mine.ClX.use (hC9 _) ?k1 ?k2 ?k3 ?k4 ?k5 ?kK ?kd ?ku ?_; (case k1 => k_asm); (case k2 => k_asm); (case k3 => k_asm); (case k4 => k_asm); (case k5 => k_asm); (case kK => first | exact rfl | assumption); (case kd => ktr_room); (case ku => ktr_units)); intro e9 t9 g9 h9 tk9 F9 R9 U9; (try dsimp only); (try k_fold))
  k_fill
  intro dp un gd cn cs a ccd cl outer A₀ base h₀ L m s Q E B F X N T hk hdp hun hret
  refine wpAny_call ?_
  k_dflt (refine' kla_code ?k1 ?k2 ?k3 ?k4 ?k5 ?kA ?kF ?kK ?k6 ?k7 ?k8 ?k9 ?kB ?_ ?c2 ?c3 ?c4 ?c5; (case kA => exact rfl); (case kF => exact rfl); (case kK => assumption); (case k1 => k_asm); (case k2 => k_asm); (case k3 => k_asm); (case k4 => k_asm); (case k5 => k_asm); (case k6 => k_mem); (case k7 => exact codeRec_news (by k_asm) (by k_mem) (by assumption) (by assumption)); (case k8 => ktr_room); (case k9 => exact rfl); (case c5 => decide); (case kB => exact locs rfl); (case c2 => exact rfl); (case c3 => exact rfl); (case c4 => exact rfl); k_whole; intro g' L' h' FG' F' N' B' X' T'; (try dsimp only); (try k_lift B'); (try k_fold))
  k_steps
  all_goals
    refine leave_nextPX rfl (by assumption) (by assumption) (by assumption) (by assumption) ?_
    intro h2 R2 U2
    exact hret _ _ _ _ _ (by assumption) R2 U2

end
end Mine
end
section
open PySem PySem.W PyProof.Rows
namespace Mine
open PySem.Builtin.Int (intBits)
theorem fmod_in (x : Int) {n : Int} (hn : 0 < n) : 0 ≤ x.fmod n ∧ x.fmod n < n := by
  rw [Int.fmod_eq_emod_of_nonneg _ (by lia)]
  exact ⟨Int.emod_nonneg _ (by lia), Int.emod_lt_of_pos _ hn⟩
/-- the hand: the script's list and how many were drawn -/
noncomputable abbrev handObj (Ds : Addr) (k : Int) (tk : Tok) : Obj := W.listOf #[Value.ref Ds, Value.int k tk] 0
section
set_option maxRecDepth 100000 in
set_option maxHeartbeats 8000000 in
theorem c_next {w : World} {mean : ExcName → Option Value} {mg mb : Str → Option Value} (Dh Ds : Addr) (vs : List Value) (ns : List Int) (hI : IntsAre vs ns) (hlen : ns.length ≤ 40) (k : Int) (hk0 : 0 ≤ k) (hk1 : k ≤ 1000) (tk : Tok) (many : Int) (tm : Tok) (hm : 0 < many) (hm2 : many ≤ 2000000) (rest : List (Addr × Obj)) (hne : ∀ p ∈ (Ds, W.listOf vs.toArray 0) :: rest, p.1 ≠ Dh)
    (dp un : Nat) (gd : Option (List Code)) (cn : Str) (cs : Scope) (a : Addr) (ccd : Value) (cl : List (Str × Addr)) (outer : List Env) (A₀ : Around) (base h₀ : Heap) (L : Addr) (m : Str → Option Value) (s : Shared) (Q E : Value → Shared → Prop)
    (B : Below A₀ base outer h₀) (F : Fr h₀ L s.heap m) (X : (hd.heap_39 w.params).In h₀) (N : News h₀ L s.heap ((Dh, handObj Ds k tk) :: (Ds, W.listOf vs.toArray 0) :: rest)) (T : Top topProg LS mean mg mb h₀) (hk : cs.kind = .function)
    (hdp : dp + 4 < recursionLimit) (hun : un + 8 * 4 < cLine)
    (hret : ∀ r t tk2 h' tk', 0 ≤ r → r < many → Fr h₀ L h' m → News h₀ L h' ((Dh, handObj Ds (k + 1) tk2) :: (Ds, W.listOf vs.toArray 0) :: rest) → Q (.int r t) { s with heap := h', toks := tk' }) :
    wpAny (model PySem.Challenge.rw_pq0913_01.row.prog w) (ktrTop dp un gd cn cs L a ccd cl outer) (call (.ref 138) [.ref Dh, .int many tm]) Q E s := by
  k_with_none; w_top off
  k_with "@bits" => with_reducible assumption
  k_with "@bits" => ((with_reducible apply Mine.bits_divd); bits_by_make)
  k_with "@bits" => ((with_reducible apply Mine.bits_prod) <;> bits_by_make)
  k_with "@binaryOp FloorDiv int int" => (k_here; (with_reducible refine floordiv_int ?kbe ?_ (Or.inl ?kbp)); (case kbe => first | omega | (split <;> omega) | k_dflt (have q9 := Mine.GwOk.kb (by assumption); omega) | k_dflt (have q9 := Mine.SqOk.pos (by assumption); omega)); (case kbp => ((with_reducible apply Mine.py_of_bits); (bits_by_make); decide)))
  k_with "@callWith ref" => (k_here; k_dflt (first | (refine' callWith_K ?k1 ?k2 ?_; (case k1 => with_reducible assumption); (case k2 => k_is); k_whole) | (refine' callWith_K0 ?k1 ?k2 ?_; (case k1 => exact Frag.In.keeps (by with_reducible assumption) (Fr.keep (by with_reducible assumption))); (case k2 => k_is); k_whole)))
  k_with "@execs nil" => (with_reducible refine wpAny_execs_nil ?_)
  k_with "@bits_fit" => ((with_reducible apply Mine.bits_le'); (bits_by_make); decide)
  k_with "@bits" => with_reducible exact Mine.bits_F36
  k_with "@bits" => with_reducible exact Mine.bits_S50
  k_with "@setItem ref int" => (k_here; k_dflt (refine' ki_set ?qF ?qN ?qa ?qb ?qe ?qU ?_; (case qF => k_asm); (case qN => k_asm); (case qU => exact Upd.head (by assumption)); (case qa => decide); (case qb => decide); (case qe => rfl)); intro h' F' N'; (try dsimp only [List.nil_append, List.cons_append] at N'))
  revert X; k_fill; intro X
  refine wpAny_call ?_
  k_dflt cell_enter
  k_steps
  all_goals exact hret _ _ _ _ _ (fmod_in _ hm).1 (fmod_in _ hm).2 (by k_asm) (by k_asm)
end
end Mine
end
section
namespace Mine
/-! truncated exponentials -/
noncomputable def eT (x : Rat) : Nat → Rat
  | 0 => 1
  | k + 1 => eT x k * x / ((k : Rat) + 1)
noncomputable def sm (f : Nat → Rat) : Nat → Rat
  | 0 => 0
  | n + 1 => sm f n + f n
theorem natR_nonneg (k : Nat) : (0 : Rat) ≤ (k : Rat) := by
  exact_mod_cast Nat.zero_le k
theorem eT_succ (x : Rat) (k : Nat) : eT x (k + 1) * ((k : Rat) + 1) = eT x k * x := by
  have h : (0 : Rat) ≤ (k : Rat) := natR_nonneg k
  show eT x k * x / ((k : Rat) + 1) * ((k : Rat) + 1) = _
  have : ((k : Rat) + 1) ≠ 0 := by grind
  grind
theorem sm_congr {f g : Nat → Rat} {n : Nat} (h : ∀ i, i < n → f i = g i) : sm f n = sm g n := by
  induction n with
  | zero => rfl
  | succ n ih => show sm f n + f n = sm g n + g n; rw [ih (fun i hi => h i (by lia)), h n (by lia)]
theorem sm_add (f g : Nat → Rat) (n : Nat) : sm (fun i => f i + g i) n = sm f n + sm g n := by
  induction n with
  | zero => show (0 : Rat) = 0 + 0; grind
  | succ n ih => show sm _ n + _ = _; rw [ih]; show _ = (sm f n + f n) + (sm g n + g n); grind
theorem sm_mul (f : Nat → Rat) (c : Rat) (n : Nat) : sm (fun i => f i * c) n = sm f n * c := by
  induction n with
  | zero => show (0 : Rat) = 0 * c; grind
  | succ n ih => show sm _ n + _ = _; rw [ih]; show _ = (sm f n + f n) * c; grind
theorem sm_shift (f : Nat → Rat) (n : Nat) : sm f (n + 1) = f 0 + sm (fun i => f (i + 1)) n := by
  induction n with
  | zero => show (0 : Rat) + f 0 = f 0 + 0; grind
  | succ n ih => show sm f (n + 1) + f (n + 1) = f 0 + (sm (fun i => f (i + 1)) n + f (n + 1)); rw [ih]; grind
/-- a row of the product -/
noncomputable def eB (x y : Rat) (m : Nat) : Rat := sm (fun j => eT x j * eT y (m - j)) (m + 1)
theorem eB_succ (x y : Rat) (m : Nat) : eB x y (m + 1) * ((m : Rat) + 1) = eB x y m * (x + y) := by
  have e1 : eB x y (m + 1) * ((m : Rat) + 1) = sm (fun j => (j : Rat) * eT x j * eT y (m + 1 - j) + ((m : Rat) + 1 - (j : Rat)) * (eT x j * eT y (m + 1 - j))) (m + 2) := by
    unfold eB
    rw [← sm_mul]
    refine sm_congr fun i hi => ?_
    grind
  rw [e1, sm_add]
  have a1 : sm (fun j => (j : Rat) * eT x j * eT y (m + 1 - j)) (m + 2) = eB x y m * x := by
    rw [sm_shift]
    unfold eB
    rw [← sm_mul]
    have : ((0 : Nat) : Rat) * eT x 0 * eT y (m + 1 - 0) = 0 := by
      have : ((0 : Nat) : Rat) = 0 := rfl
      rw [this]; grind
    rw [this]
    have : sm (fun i => ((i + 1 : Nat) : Rat) * eT x (i + 1) * eT y (m + 1 - (i + 1))) (m + 1) = sm (fun i => eT x i * eT y (m - i) * x) (m + 1) := by
      refine sm_congr fun i hi => ?_
      have h1 := eT_succ x i
      have h2 : ((i + 1 : Nat) : Rat) = (i : Rat) + 1 := by push_cast; rfl
      have h3 : m + 1 - (i + 1) = m - i := by lia
      rw [h2, h3]
      grind
    rw [this]; grind
  have a2 : sm (fun j => ((m : Rat) + 1 - (j : Rat)) * (eT x j * eT y (m + 1 - j))) (m + 2) = eB x y m * y := by
    show sm _ (m + 1) + _ = _
    dsimp only
    have : ((m : Rat) + 1 - ((m + 1 : Nat) : Rat)) * (eT x (m + 1) * eT y (m + 1 - (m + 1))) = 0 := by
      have : ((m + 1 : Nat) : Rat) = (m : Rat) + 1 := by push_cast; rfl
      rw [this]; grind
    rw [this]
    unfold eB
    rw [← sm_mul]
    have : sm (fun j => ((m : Rat) + 1 - (j : Rat)) * (eT x j * eT y (m + 1 - j))) (m + 1) = sm (fun i => eT x i * eT y (m - i) * y) (m + 1) := by
      refine sm_congr fun i hi => ?_
      have h1 := eT_succ y (m - i)
      have h3 : m + 1 - i = m - i + 1 := by lia
      have h4 : ((m - i : Nat) : Rat) = (m : Rat) - (i : Rat) := by
        have : m = (m - i) + i := by lia
        have h5 : (m : Rat) = ((m - i : Nat) : Rat) + (i : Rat) := by
          conv => lhs; rw [this]
          push_cast; rfl
        grind
      rw [h3]
      rw [h4] at h1
      grind
    rw [this]; grind
  rw [a1, a2]; grind
theorem eB_eq (x y : Rat) (m : Nat) : eB x y m = eT (x + y) m := by
  induction m with
  | zero => show (0 : Rat) + eT x 0 * eT y 0 = 1; show (0 : Rat) + 1 * 1 = 1; grind
  | succ m ih =>
    have h1 := eB_succ x y m
    have h2 := eT_succ (x + y) m
    rw [ih] at h1
    have h3 : (0 : Rat) ≤ (m : Rat) := natR_nonneg m
    have : ((m : Rat) + 1) ≠ 0 := by grind
    grind

/-- both sides of nought -/
noncomputable def ab (a b : Rat) : Prop := -b ≤ a ∧ a ≤ b
theorem ab_mul {a b c d : Rat} (h : ab a b) (k : ab c d) : ab (a * c) (b * d) := by
  obtain ⟨h1, h2⟩ := h; obtain ⟨k1, k2⟩ := k
  have p1 : 0 ≤ (b - a) * (d - c) := Rat.mul_nonneg (by grind) (by grind)
  have p2 : 0 ≤ (b - a) * (d + c) := Rat.mul_nonneg (by grind) (by grind)
  have p3 : 0 ≤ (b + a) * (d - c) := Rat.mul_nonneg (by grind) (by grind)
  have p4 : 0 ≤ (b + a) * (d + c) := Rat.mul_nonneg (by grind) (by grind)
  constructor <;> grind
theorem ab_add {a b c d : Rat} (h : ab a b) (k : ab c d) : ab (a + c) (b + d) := by
  unfold ab at *; grind
theorem ab_mono {a b c : Rat} (h : ab a b) (k : b ≤ c) : ab a c := by unfold ab at *; grind
theorem ab_div {a b d : Rat} (h : ab a b) (hd : 1 ≤ d) : ab (a / d) b := by
  have hp : (0 : Rat) < d := by grind
  have hb : 0 ≤ b := by unfold ab at h; grind
  have e : a / d * d = a := by have : d ≠ 0 := by grind
                               grind
  have p : 0 ≤ b * (d - 1) := Rat.mul_nonneg hb (by grind)
  generalize a / d = q at *
  unfold ab at *
  constructor
  · refine Rat.not_lt.mp fun hc => ?_
    have : 0 < (-b - q) * d := Rat.mul_pos (by grind) hp
    grind
  · refine Rat.not_lt.mp fun hc => ?_
    have : 0 < (q - b) * d := Rat.mul_pos (by grind) hp
    grind
theorem sm_ab {f : Nat → Rat} {b : Rat} {n : Nat} (h : ∀ i, i < n → ab (f i) b) : ab (sm f n) ((n : Rat) * b) := by
  induction n with
  | zero => show ab 0 (((0 : Nat) : Rat) * b); have : ((0 : Nat) : Rat) = 0 := rfl
            rw [this]; unfold ab; grind
  | succ n ih =>
    have h1 := ab_add (ih fun i hi => h i (by lia)) (h n (by lia))
    have h2 : ((n + 1 : Nat) : Rat) = (n : Rat) + 1 := by push_cast; rfl
    rw [h2]
    refine ab_mono h1 (by grind)
theorem eT_ab {x c : Rat} (h : ab x c) (k : Nat) : ab (eT x k) (c ^ k) := by
  induction k with
  | zero => show ab 1 (c ^ 0); rw [Rat.pow_zero]; unfold ab; grind
  | succ k ih =>
    show ab (eT x k * x / ((k : Rat) + 1)) (c ^ (k + 1))
    rw [Rat.pow_succ]
    exact ab_div (ab_mul ih h) (by have := natR_nonneg k; grind)
/-- the truncated exponential -/
noncomputable def eE (N : Nat) (x : Rat) : Rat := sm (eT x) N
theorem rpow_add (c : Rat) (a b : Nat) : c ^ (a + b) = c ^ a * c ^ b := by
  induction b with
  | zero => rw [Nat.add_zero, Rat.pow_zero]; grind
  | succ b ih => rw [← Nat.add_assoc, Rat.pow_succ, Rat.pow_succ, ih]; grind
theorem pow_le_of {c : Rat} (h0 : 0 ≤ c) (h1 : c ≤ 1) (a i : Nat) : c ^ (a + i) ≤ c ^ a := by
  have hn : ∀ j, 0 ≤ c ^ j := fun j => Rat.pow_nonneg h0
  induction i with
  | zero => grind
  | succ i ih =>
    have : c ^ (a + (i + 1)) = c ^ (a + i) * c := by rw [← Nat.add_assoc, Rat.pow_succ]
    have p : 0 ≤ c ^ (a + i) * (1 - c) := Rat.mul_nonneg (hn _) (by grind)
    grind
theorem eE_tail {x c : Rat} (h : ab x c) (h1 : c ≤ 1) (a i : Nat) : ab (eE (a + i) x - eE a x) ((i : Rat) * c ^ a) := by
  have h0 : 0 ≤ c := by unfold ab at h; grind
  induction i with
  | zero => have : ((0 : Nat) : Rat) = 0 := rfl
            rw [this]; show ab (eE a x - eE a x) _; unfold ab; grind
  | succ i ih =>
    have e : eE (a + (i + 1)) x = eE (a + i) x + eT x (a + i) := rfl
    have h2 : ((i + 1 : Nat) : Rat) = (i : Rat) + 1 := by push_cast; rfl
    have h3 := ab_mono (eT_ab h (a + i)) (pow_le_of h0 h1 a i)
    rw [e, h2]
    have h4 := ab_add ih h3
    unfold ab at *; grind
theorem eE_taylor (x y : Rat) (N : Nat) : eE N (x + y) = sm (fun j => eT y j * eE (N - j) x) N := by
  induction N with
  | zero => rfl
  | succ N ih =>
    have e : eE (N + 1) (x + y) = eE N (x + y) + eT (x + y) N := rfl
    rw [e, ih]
    have a1 : sm (fun j => eT y j * eE (N + 1 - j) x) (N + 1) = sm (fun j => eT y j * eE (N - j) x + eT y j * eT x (N - j)) (N + 1) := by
      refine sm_congr fun i hi => ?_
      have : N + 1 - i = N - i + 1 := by lia
      rw [this]
      show eT y i * (eE (N - i) x + eT x (N - i)) = _
      grind
    rw [a1, sm_add]
    have a2 : sm (fun j => eT y j * eT x (N - j)) (N + 1) = eT (x + y) N := by
      have := eB_eq y x N
      rw [Rat.add_comm x y]; exact this
    rw [a2]
    show _ = sm _ N + _ + _
    dsimp only
    have : eE (N - N) x = 0 := by rw [Nat.sub_self]; rfl
    rw [this]; grind
theorem eE_mul {x y c : Rat} (hx : ab x c) (hy : ab y c) (h1 : c ≤ 1) (N : Nat) : ab (eE N x * eE N y - eE N (x + y)) ((N : Rat) * ((N : Rat) * c ^ N)) := by
  have h0 : 0 ≤ c := by unfold ab at hx; grind
  have e1 : eE N x * eE N y - eE N (x + y) = sm (fun j => eT y j * (eE N x - eE (N - j) x)) N := by
    have a : eE N x * eE N y = sm (fun j => eT y j * eE N x) N := by rw [sm_mul]; show _ = eE N y * _; grind
    have b : sm (fun j => eT y j * eE N x) N = sm (fun j => eT y j * (eE N x - eE (N - j) x) + eT y j * eE (N - j) x) N := sm_congr fun i hi => by grind
    rw [a, b, sm_add, ← eE_taylor]; grind
  rw [e1]
  refine sm_ab fun i hi => ?_
  have h2 := eE_tail hx h1 (N - i) i
  have e2 : N - i + i = N := by lia
  rw [e2] at h2
  have h3 := ab_mul (eT_ab hy i) h2
  refine ab_mono h3 ?_
  have e3 : c ^ i * ((i : Rat) * c ^ (N - i)) = (i : Rat) * c ^ N := by
    have : c ^ N = c ^ (N - i) * c ^ i := by rw [← rpow_add, e2]
    rw [this]; grind
  rw [e3]
  have h4 : (N : Rat) = (i : Rat) + ((N - i : Nat) : Rat) := by
    have : N = i + (N - i) := by lia
    conv => lhs; rw [this]
    push_cast; rfl
  have h5 := natR_nonneg (N - i)
  have h6 : 0 ≤ c ^ N := Rat.pow_nonneg h0
  have h7 := Rat.mul_nonneg h5 h6
  rw [h4]; grind
end Mine
end
section
namespace Mine
/-! near: up to a power of rho -/
noncomputable def rho : Rat := 1 + 1 / 100000000000000000000000000000000
theorem rho_def : rho = 1 + 1 / 100000000000000000000000000000000 := rfl
theorem rho_pos (n : Nat) : 0 < rho ^ n := by
  induction n with
  | zero => rw [Rat.pow_zero]; grind
  | succ n ih => rw [Rat.pow_succ]; exact Rat.mul_pos ih (by rw [rho_def]; grind)
theorem rho_one (n : Nat) : 1 ≤ rho ^ n := by
  induction n with
  | zero => rw [Rat.pow_zero]; grind
  | succ n ih =>
    rw [Rat.pow_succ]
    have : 0 ≤ rho ^ n * (rho - 1) := Rat.mul_nonneg (Rat.le_of_lt (rho_pos n)) (by rw [rho_def]; grind)
    grind
theorem rho_mono {n m : Nat} (h : n ≤ m) : rho ^ n ≤ rho ^ m := by
  have e : rho ^ m = rho ^ n * rho ^ (m - n) := by rw [← rpow_add]; congr 1; lia
  have : 0 ≤ rho ^ n * (rho ^ (m - n) - 1) := Rat.mul_nonneg (Rat.le_of_lt (rho_pos n)) (by have := rho_one (m - n); grind)
  grind
structure Nr (n : Nat) (a b : Rat) : Prop where
  pa : 0 < a
  pb : 0 < b
  le : a ≤ rho ^ n * b
  ge : b ≤ rho ^ n * a
theorem Nr.refl {a : Rat} (h : 0 < a) : Nr 0 a a := ⟨h, h, by rw [Rat.pow_zero]; grind, by rw [Rat.pow_zero]; grind⟩
theorem Nr.symm {n : Nat} {a b : Rat} (h : Nr n a b) : Nr n b a := ⟨h.pb, h.pa, h.ge, h.le⟩
theorem Nr.trans {n m : Nat} {a b c : Rat} (h : Nr n a b) (k : Nr m b c) : Nr (n + m) a c := by
  refine ⟨h.pa, k.pb, ?_, ?_⟩
  · rw [rpow_add]
    have := Rat.mul_le_mul_of_nonneg_left k.le (Rat.le_of_lt (rho_pos n))
    have := h.le
    grind
  · rw [rpow_add]
    have := Rat.mul_le_mul_of_nonneg_left h.ge (Rat.le_of_lt (rho_pos m))
    have := k.ge
    grind
theorem Nr.mul {n m : Nat} {a b c d : Rat} (h : Nr n a b) (k : Nr m c d) : Nr (n + m) (a * c) (b * d) := by
  refine ⟨Rat.mul_pos h.pa k.pa, Rat.mul_pos h.pb k.pb, ?_, ?_⟩
  · rw [rpow_add]
    have h1 := Rat.mul_le_mul_of_nonneg_right h.le (Rat.le_of_lt k.pa)
    have h2 := Rat.mul_le_mul_of_nonneg_left k.le (Rat.le_of_lt (Rat.mul_pos (rho_pos n) h.pb))
    grind
  · rw [rpow_add]
    have h1 := Rat.mul_le_mul_of_nonneg_right h.ge (Rat.le_of_lt k.pb)
    have h2 := Rat.mul_le_mul_of_nonneg_left k.ge (Rat.le_of_lt (Rat.mul_pos (rho_pos n) h.pa))
    grind
theorem Nr.mono {n m : Nat} {a b : Rat} (h : Nr n a b) (k : n ≤ m) : Nr m a b := by
  have := rho_mono k
  refine ⟨h.pa, h.pb, ?_, ?_⟩
  · have h1 := Rat.mul_le_mul_of_nonneg_right this (Rat.le_of_lt h.pb); have := h.le; grind
  · have h1 := Rat.mul_le_mul_of_nonneg_right this (Rat.le_of_lt h.pa); have := h.ge; grind
theorem Nr.pow {n : Nat} {a b : Rat} (h : Nr n a b) (k : Nat) : Nr (n * k) (a ^ k) (b ^ k) := by
  induction k with
  | zero => rw [Rat.pow_zero, Rat.pow_zero]; exact Nr.refl (by grind)
  | succ k ih => rw [Rat.pow_succ, Rat.pow_succ, Nat.mul_succ]; exact ih.mul h
theorem Nr.inv {n : Nat} {a b : Rat} (h : Nr n a b) : Nr n (1 / a) (1 / b) := by
  have ha := h.pa
  have hb := h.pb
  have ia : 0 < 1 / a := by rw [Rat.div_def]; exact Rat.mul_pos (by grind) (Rat.inv_pos.mpr ha)
  have ib : 0 < 1 / b := by rw [Rat.div_def]; exact Rat.mul_pos (by grind) (Rat.inv_pos.mpr hb)
  have ea : 1 / a * a = 1 := by have : a ≠ 0 := by grind
                                grind
  have eb : 1 / b * b = 1 := by have : b ≠ 0 := by grind
                                grind
  have hab := Rat.mul_pos ia ib
  have g1 := Rat.mul_le_mul_of_nonneg_left h.le (Rat.le_of_lt hab)
  have g2 := Rat.mul_le_mul_of_nonneg_left h.ge (Rat.le_of_lt hab)
  generalize 1 / a = p at *
  generalize 1 / b = q at *
  have e1 : p * q * a = q := by grind
  have e2 : p * q * (rho ^ n * b) = rho ^ n * p := by grind
  have e3 : p * q * b = p := by grind
  have e4 : p * q * (rho ^ n * a) = rho ^ n * q := by grind
  rw [e1, e2] at g1
  rw [e3, e4] at g2
  exact ⟨ia, ib, g2, g1⟩
/-- from a small difference -/
theorem Nr.of_ab {a b d : Rat} (h : ab (a - b) d) (hb : 1 / 3 ≤ b) (hd : d ≤ 1 / 1000000000000000000000000000000000) : Nr 1 a b := by
  have e : rho ^ 1 = rho := by rw [Rat.pow_succ, Rat.pow_zero]; grind
  unfold ab at h
  refine ⟨by grind, by grind, ?_, ?_⟩ <;> (rw [e, rho_def]; grind)
/-! the exponential at 131 terms -/
theorem eE_geo {x : Rat} (h : ab x (2 / 5)) (n : Nat) : ab (eE (n + 1) x - 1) (2 / 3 - 2 / 3 * (2 / 5) ^ n) := by
  induction n with
  | zero =>
    show ab ((0 : Rat) + 1 - 1) _
    rw [Rat.pow_zero]; unfold ab; grind
  | succ n ih =>
    have e : eE (n + 1 + 1) x = eE (n + 1) x + eT x (n + 1) := rfl
    have h2 := eT_ab h (n + 1)
    rw [Rat.pow_succ] at h2
    rw [e, Rat.pow_succ]
    generalize (2 / 5 : Rat) ^ n = p at *
    unfold ab at *
    grind
noncomputable def E (x : Rat) : Rat := eE 131 x
theorem E_bd {x : Rat} (h : ab x (2 / 5)) : 1 / 3 ≤ E x ∧ E x ≤ 5 / 3 := by
  have h1 := eE_geo h 130
  have h2 : (0 : Rat) ≤ (2 / 5) ^ 130 := Rat.pow_nonneg (by grind)
  have e : eE (130 + 1) x = E x := rfl
  rw [e] at h1
  generalize (2 / 5 : Rat) ^ 130 = p at *
  unfold ab at h1
  grind
theorem E_tiny : ((131 : Nat) : Rat) * (((131 : Nat) : Rat) * (2 / 5) ^ 131) ≤ 1 / 1000000000000000000000000000000000 := by decide +kernel
theorem E_mul {x y : Rat} (hx : ab x (2 / 5)) (hy : ab y (2 / 5)) (hs : ab (x + y) (2 / 5)) : Nr 1 (E x * E y) (E (x + y)) :=
  Nr.of_ab (eE_mul hx hy (by grind) 131) (E_bd hs).1 E_tiny
theorem ab_half {y : Rat} (k : Nat) (h : ab (2 ^ (k + 1) * y) (2 / 5)) : ab (2 ^ k * y) (2 / 5) := by
  rw [Rat.pow_succ] at h
  unfold ab at *
  grind
theorem E_pow2 {y : Rat} : ∀ k : Nat, ab (2 ^ k * y) (2 / 5) → Nr (2 ^ k - 1) (E y ^ (2 ^ k)) (E (2 ^ k * y))
  | 0, h => by
    have e1 : (2 : Rat) ^ 0 * y = y := by rw [Rat.pow_zero]; grind
    have e2 : E y ^ (2 ^ 0) = E y := by rw [Nat.pow_zero, Rat.pow_succ, Rat.pow_zero]; grind
    rw [e1] at h
    rw [e1, e2]
    exact Nr.refl (by have := (E_bd h).1; grind)
  | k + 1, h => by
    have h' := ab_half k h
    have ih := E_pow2 k h'
    have h2 := ih.mul ih
    have e1 : E y ^ (2 ^ (k + 1)) = E y ^ 2 ^ k * E y ^ 2 ^ k := by rw [← rpow_add]; congr 1; rw [Nat.pow_succ]; lia
    have e2 : (2 : Rat) ^ (k + 1) * y = 2 ^ k * y + 2 ^ k * y := by rw [Rat.pow_succ]; grind
    rw [e2] at h
    have h3 := h2.trans (E_mul h' h' h)
    rw [e1, e2]
    refine h3.mono ?_
    have : 0 < 2 ^ k := Nat.two_pow_pos k
    rw [Nat.pow_succ]; lia
theorem ab_between {l r c : Rat} {t : Nat} (hl : 0 ≤ l) (h0 : ab r c) (h1 : ab (((t + 1 : Nat) : Rat) * l + r) c) : ab ((t : Rat) * l + r) c := by
  have h2 : ((t + 1 : Nat) : Rat) = (t : Rat) + 1 := by push_cast; rfl
  rw [h2] at h1
  have := Rat.mul_nonneg (natR_nonneg t) hl
  unfold ab at *
  grind
theorem E_chain {l r : Rat} (hl : 0 ≤ l) (hl2 : ab l (2 / 5)) (h0 : ab r (2 / 5)) : ∀ t : Nat, ab ((t : Rat) * l + r) (2 / 5) → Nr t (E ((t : Rat) * l + r)) (E l ^ t * E r)
  | 0, h => by
    have e1 : ((0 : Nat) : Rat) * l + r = r := by have : ((0 : Nat) : Rat) = 0 := rfl
                                                  rw [this]; grind
    rw [e1] at h ⊢
    rw [Rat.pow_zero]
    have : 1 * E r = E r := by grind
    rw [this]
    exact Nr.refl (by have := (E_bd h).1; grind)
  | t + 1, h => by
    have h' := ab_between hl h0 h
    have ih := E_chain hl hl2 h0 t h'
    have e2 : ((t + 1 : Nat) : Rat) * l + r = ((t : Rat) * l + r) + l := by
      have h2 : ((t + 1 : Nat) : Rat) = (t : Rat) + 1 := by push_cast; rfl
      rw [h2]; grind
    rw [e2] at h ⊢
    have h3 := (E_mul h' hl2 h).symm
    have h4 := h3.trans (ih.mul (Nr.refl (a := E l) (by have := (E_bd hl2).1; grind)))
    have e3 : E l ^ (t + 1) * E r = E l ^ t * E r * E l := by rw [Rat.pow_succ]; grind
    rw [e3]
    exact h4.mono (by lia)
/-- monotony -/
theorem eT_mono {x y : Rat} (h0 : 0 ≤ x) (h : x ≤ y) (k : Nat) : 0 ≤ eT x k ∧ eT x k ≤ eT y k := by
  induction k with
  | zero => show (0 : Rat) ≤ 1 ∧ (1 : Rat) ≤ 1; grind
  | succ k ih =>
    have hk := natR_nonneg k
    have hp : (0 : Rat) < (k : Rat) + 1 := by grind
    have g1 := Rat.mul_nonneg ih.1 h0
    have g2 := Rat.mul_le_mul_of_nonneg_right ih.2 h0
    have g3 := Rat.mul_le_mul_of_nonneg_left h (show 0 ≤ eT y k by grind)
    show 0 ≤ eT x k * x / ((k : Rat) + 1) ∧ eT x k * x / ((k : Rat) + 1) ≤ eT y k * y / ((k : Rat) + 1)
    rw [Rat.div_def, Rat.div_def]
    have hi : 0 ≤ ((k : Rat) + 1)⁻¹ := Rat.le_of_lt (Rat.inv_pos.mpr hp)
    refine ⟨Rat.mul_nonneg g1 hi, Rat.mul_le_mul_of_nonneg_right (by grind) hi⟩
theorem eE_mono {x y : Rat} (h0 : 0 ≤ x) (h : x ≤ y) (n : Nat) : eE n x ≤ eE n y := by
  induction n with
  | zero => exact Rat.le_refl
  | succ n ih =>
    have := (eT_mono h0 h n).2
    show eE n x + eT x n ≤ eE n y + eT y n
    grind
end Mine
end
section
namespace Mine
/-! the program's sum -/
theorem rdiv_mul {a d : Rat} (h : 0 < d) : a / d * d = a := by
  have : d ≠ 0 := by grind
  grind
theorem le_of_mul_pos {a b d : Rat} (hd : 0 < d) (h : a * d ≤ b * d) : a ≤ b := Rat.le_of_mul_le_mul_right h hd
theorem divd_rat {n d : Int} (hd : 0 < d) : ab ((divd n d : Rat) - (n : Rat) / (d : Rat)) (1 / 2) := by
  have h := divd_rest (n := n) hd
  have h1 : -d ≤ 2 * (n - divd n d * d) := by lia
  have h2 : 2 * (n - divd n d * d) ≤ d := by lia
  have h1' := Rat.intCast_le_intCast.mpr h1
  have h2' := Rat.intCast_le_intCast.mpr h2
  push_cast at h1' h2'
  have hD : (0 : Rat) < (d : Rat) := by
    have := Rat.intCast_lt_intCast.mpr hd
    exact_mod_cast this
  have e := rdiv_mul (a := (n : Rat)) hD
  generalize (n : Rat) / (d : Rat) = X at *
  generalize (divd n d : Rat) = Q at *
  generalize (d : Rat) = D at *
  constructor
  · refine le_of_mul_pos hD ?_; grind
  · refine le_of_mul_pos hD ?_; grind
noncomputable def fpP (r : Int) : Nat → Int
  | 0 => 1000000000000000000000000000000000000
  | k + 1 => divd (prod (fpP r k) r) ((k : Int) + 1)
theorem prod_zero (r : Int) : prod 0 r = 0 := by unfold prod; rw [Int.zero_mul]; rfl
theorem divd_zero {d : Int} (h : 0 < d) : divd 0 d = 0 := by
  have := divd_rest (n := 0) h
  have h2 : (divd 0 d).natAbs ≤ (0 : Int).natAbs := divd_abs_le 0 d
  lia
theorem fpP_zero {r : Int} {k : Nat} (h : fpP r k = 0) (i : Nat) : fpP r (k + i) = 0 := by
  induction i with
  | zero => exact h
  | succ i ih =>
    show divd (prod (fpP r (k + i)) r) (((k + i : Nat) : Int) + 1) = 0
    rw [ih, prod_zero, divd_zero (by lia)]
theorem sm_zero {f : Nat → Rat} {n : Nat} (h : ∀ i, i < n → f i = 0) : sm f n = 0 := by
  induction n with
  | zero => rfl
  | succ n ih => show sm f n + f n = 0; rw [ih (fun i hi => h i (by lia)), h n (by lia)]; grind
theorem fpRun_eq (r : Int) : ∀ (n k : Nat) (f : Int), ((fpRun r n f (fpP r k) ((k : Int) + 1) : Int) : Rat) = (f : Rat) + sm (fun j => (fpP r (k + 1 + j) : Rat)) n
  | 0, k, f => by show (f : Rat) = (f : Rat) + 0; grind
  | n + 1, k, f => by
    show ((if fpP r k = 0 then f else fpRun r n (f + fpP r (k + 1)) (fpP r (k + 1)) ((k : Int) + 1 + 1) : Int) : Rat) = _
    by_cases h : fpP r k = 0
    · rw [if_pos h, sm_zero]
      · grind
      · intro i _
        have := fpP_zero h (1 + i)
        rw [← Nat.add_assoc] at this
        rw [this]; rfl
    · rw [if_neg h]
      have ih := fpRun_eq r n (k + 1) (f + fpP r (k + 1))
      have e : ((k + 1 : Nat) : Int) + 1 = (k : Int) + 1 + 1 := by lia
      rw [e] at ih
      rw [ih, sm_shift]
      push_cast
      have e2 : sm (fun j => (fpP r (k + 1 + 1 + j) : Rat)) n = sm (fun i => (fpP r (k + 1 + (i + 1)) : Rat)) n := sm_congr fun i _ => by
        have : k + 1 + 1 + i = k + 1 + (i + 1) := by lia
        rw [this]
      rw [e2]
      have e3 : k + 1 + 0 = k + 1 := rfl
      rw [e3]
      grind
theorem fpSum_eq (r : Int) : (fpSum r : Rat) = sm (fun j => (fpP r j : Rat)) 131 := by
  have h := fpRun_eq r 130 0 1000000000000000000000000000000000000
  rw [sm_shift]
  have e : sm (fun j => (fpP r (0 + 1 + j) : Rat)) 130 = sm (fun i => (fpP r (i + 1) : Rat)) 130 := sm_congr fun i _ => by
    have : 0 + 1 + i = i + 1 := by lia
    rw [this]
  rw [e] at h
  exact h
theorem F_pos : (0 : Rat) < 1000000000000000000000000000000000000 := by decide
theorem fpP_err {r : Int} (hr : ab ((r : Rat) / 1000000000000000000000000000000000000) (2 / 5)) (k : Nat) :
    ab ((fpP r k : Rat) - eT ((r : Rat) / 1000000000000000000000000000000000000) k * 1000000000000000000000000000000000000) 2 := by
  induction k with
  | zero => show ab ((1000000000000000000000000000000000000 : Rat) - 1 * 1000000000000000000000000000000000000) 2; unfold ab; grind
  | succ k ih =>
    have hk := natR_nonneg k
    have d1 := divd_rat (n := fpP r k * r) (d := 1000000000000000000000000000000000000) (by decide)
    have d2 := divd_rat (n := prod (fpP r k) r) (d := (k : Int) + 1) (by lia)
    have e0 : divd (fpP r k * r) 1000000000000000000000000000000000000 = prod (fpP r k) r := rfl
    rw [e0] at d1
    have e1 : divd (prod (fpP r k) r) ((k : Int) + 1) = fpP r (k + 1) := rfl
    rw [e1] at d2
    have e2 : ((((k : Int) + 1 : Int)) : Rat) = (k : Rat) + 1 := by push_cast; rfl
    rw [e2] at d2
    have eT1 := eT_succ ((r : Rat) / 1000000000000000000000000000000000000) k
    have e3 : ((fpP r k * r : Int) : Rat) / ((1000000000000000000000000000000000000 : Int) : Rat) = (fpP r k : Rat) * ((r : Rat) / 1000000000000000000000000000000000000) := by
      have : ((1000000000000000000000000000000000000 : Int) : Rat) = 1000000000000000000000000000000000000 := rfl
      rw [this]; push_cast; grind
    rw [e3] at d1
    generalize (r : Rat) / 1000000000000000000000000000000000000 = y at *
    have m1 := ab_mul ih hr
    have m2 := ab_add m1 d1
    have hp : (0 : Rat) < (k : Rat) + 1 := by grind
    have m3 := ab_div m2 (d := (k : Rat) + 1) (by grind)
    have m4 := ab_add m3 d2
    refine ab_mono (b := 2 * (2 / 5) + 1 / 2 + 1 / 2) ?_ (by grind)
    have e4 : (fpP r (k + 1) : Rat) - eT y (k + 1) * 1000000000000000000000000000000000000 = (((fpP r k : Rat) - eT y k * 1000000000000000000000000000000000000) * y + ((prod (fpP r k) r : Rat) - (fpP r k : Rat) * y)) / ((k : Rat) + 1) + ((fpP r (k + 1) : Rat) - (prod (fpP r k) r : Rat) / ((k : Rat) + 1)) := by
      have hne : (k : Rat) + 1 ≠ 0 := by grind
      have e5 : eT y (k + 1) = eT y k * y / ((k : Rat) + 1) := rfl
      rw [e5]
      grind
    rw [e4]
    exact m4
theorem fpSum_err {r : Int} (hr : ab ((r : Rat) / 1000000000000000000000000000000000000) (2 / 5)) :
    ab ((fpSum r : Rat) - E ((r : Rat) / 1000000000000000000000000000000000000) * 1000000000000000000000000000000000000) 262 := by
  rw [fpSum_eq]
  have e : sm (fun j => (fpP r j : Rat)) 131 - E ((r : Rat) / 1000000000000000000000000000000000000) * 1000000000000000000000000000000000000 = sm (fun j => (fpP r j : Rat) - eT ((r : Rat) / 1000000000000000000000000000000000000) j * 1000000000000000000000000000000000000) 131 := by
    have a : sm (fun j => (fpP r j : Rat)) 131 = sm (fun j => ((fpP r j : Rat) - eT ((r : Rat) / 1000000000000000000000000000000000000) j * 1000000000000000000000000000000000000) + eT ((r : Rat) / 1000000000000000000000000000000000000) j * 1000000000000000000000000000000000000) 131 := sm_congr fun i _ => by grind
    rw [a, sm_add, sm_mul]
    show _ + E ((r : Rat) / 1000000000000000000000000000000000000) * _ - _ = _
    grind
  rw [e]
  have h := sm_ab (f := fun j => (fpP r j : Rat) - eT ((r : Rat) / 1000000000000000000000000000000000000) j * 1000000000000000000000000000000000000) (b := 2) (n := 131) fun i _ => fpP_err hr i
  refine ab_mono h ?_
  have : ((131 : Nat) : Rat) = 131 := rfl
  rw [this]; grind
theorem fpSum_nr {r : Int} (hr : ab ((r : Rat) / 1000000000000000000000000000000000000) (2 / 5)) :
    Nr 1 ((fpSum r : Rat) / 1000000000000000000000000000000000000) (E ((r : Rat) / 1000000000000000000000000000000000000)) := by
  have h := fpSum_err hr
  refine Nr.of_ab (d := 262 / 1000000000000000000000000000000000000) ?_ (E_bd hr).1 (by decide +kernel)
  unfold ab at *
  generalize E ((r : Rat) / 1000000000000000000000000000000000000) = e at *
  generalize (fpSum r : Rat) = f at *
  grind
end Mine
end
section
namespace Mine
/-! the law's sum -/
noncomputable def gwG (left : Int) : Nat → Int
  | 0 => 100000000000000000000000000000000000000000000000000
  | k + 1 => (gwG left k * left) / (100000000000000000000000000000000000000000000000000 * ((k : Int) + 1))
theorem gwG_bd {left : Int} (hl0 : 0 ≤ left) (hl : 2 * left ≤ 100000000000000000000000000000000000000000000000000) (k : Nat) : 0 ≤ gwG left k ∧ gwG left k ≤ 100000000000000000000000000000000000000000000000000 := by
  induction k with
  | zero => exact ⟨(by decide : (0 : Int) ≤ 100000000000000000000000000000000000000000000000000), Int.le_refl _⟩
  | succ k ih =>
    have h := gw_half hl0 hl ih.1 (k := (k : Int)) (by lia)
    exact ⟨h.1, by have := h.2; show (gwG left k * left) / (100000000000000000000000000000000000000000000000000 * ((k : Int) + 1)) ≤ _; lia⟩
theorem gwG_zero {left : Int} {k : Nat} (h : gwG left k = 0) (i : Nat) : gwG left (k + i) = 0 := by
  induction i with
  | zero => exact h
  | succ i ih =>
    show (gwG left (k + i) * left) / (100000000000000000000000000000000000000000000000000 * (((k + i : Nat) : Int) + 1)) = 0
    rw [ih, Int.zero_mul, Int.zero_ediv]
theorem gwRun_eq {left : Int} (hl0 : 0 ≤ left) (hl : 2 * left ≤ 100000000000000000000000000000000000000000000000000) : ∀ (n k : Nat) (f : Int), ((gwRun left n f (gwG left k) (k : Int) : Int) : Rat) = (f : Rat) + sm (fun j => (gwG left (k + j) : Rat)) n
  | 0, k, f => by show (f : Rat) = (f : Rat) + 0; grind
  | n + 1, k, f => by
    show ((if 0 < gwG left k then gwRun left n (f + gwG left k) (gwG left (k + 1)) ((k : Int) + 1) else f : Int) : Rat) = _
    by_cases h : 0 < gwG left k
    · rw [if_pos h]
      have ih := gwRun_eq hl0 hl n (k + 1) (f + gwG left k)
      have e : ((k + 1 : Nat) : Int) = (k : Int) + 1 := by lia
      rw [e] at ih
      rw [ih, sm_shift]
      push_cast
      have e2 : sm (fun j => (gwG left (k + 1 + j) : Rat)) n = sm (fun i => (gwG left (k + (i + 1)) : Rat)) n := sm_congr fun i _ => by
        have : k + 1 + i = k + (i + 1) := by lia
        rw [this]
      rw [e2]
      have e3 : k + 0 = k := rfl
      rw [e3]
      grind
    · rw [if_neg h, sm_zero]
      · grind
      · intro i _
        have := gwG_zero (left := left) (k := k) (by have := (gwG_bd hl0 hl k).1; lia) i
        rw [this]; rfl
theorem gwSum_eq {left : Int} (hl0 : 0 ≤ left) (hl : 2 * left ≤ 100000000000000000000000000000000000000000000000000) : (gwSum left : Rat) = sm (fun j => (gwG left j : Rat)) 170 := by
  have h := gwRun_eq hl0 hl 170 0 0
  have e : sm (fun j => (gwG left (0 + j) : Rat)) 170 = sm (fun i => (gwG left i : Rat)) 170 := sm_congr fun i _ => by
    have : 0 + i = i := by lia
    rw [this]
  rw [e] at h
  have e0 : ((0 : Int) : Rat) = 0 := rfl
  rw [e0] at h
  have : gwSum left = gwRun left 170 0 (gwG left 0) ((0 : Nat) : Int) := rfl
  rw [this, h]; grind
/-- a floored quotient -/
theorem ediv_rat {n d : Int} (hd : 0 < d) : (n : Rat) / (d : Rat) - 1 ≤ ((n / d : Int) : Rat) ∧ ((n / d : Int) : Rat) ≤ (n : Rat) / (d : Rat) := by
  have h1 : n / d * d ≤ n := Int.ediv_mul_le n (by lia)
  have h2 : n ≤ n / d * d + d := by
    have := Int.lt_ediv_add_one_mul_self n hd
    rw [Int.add_mul, Int.one_mul] at this
    lia
  have h1' := Rat.intCast_le_intCast.mpr h1
  have h2' := Rat.intCast_le_intCast.mpr h2
  push_cast at h1' h2'
  have hD : (0 : Rat) < (d : Rat) := Rat.intCast_pos.mpr hd
  have e := rdiv_mul (a := (n : Rat)) hD
  generalize (n : Rat) / (d : Rat) = X at *
  generalize ((n / d : Int) : Rat) = Q at *
  generalize (d : Rat) = D at *
  constructor
  · refine le_of_mul_pos hD ?_; grind
  · refine le_of_mul_pos hD ?_; grind
theorem gwG_err {left : Int} {z : Rat} (hl0 : 0 ≤ left) (hl : 2 * left ≤ 100000000000000000000000000000000000000000000000000) (hz : ab z (2 / 5))
    (h1 : z * 100000000000000000000000000000000000000000000000000 - 1 ≤ (left : Rat)) (h2 : (left : Rat) ≤ z * 100000000000000000000000000000000000000000000000000) (k : Nat) :
    ab ((gwG left k : Rat) - eT z k * 100000000000000000000000000000000000000000000000000) 4 := by
  induction k with
  | zero => show ab ((100000000000000000000000000000000000000000000000000 : Rat) - 1 * 100000000000000000000000000000000000000000000000000) 4; unfold ab; grind
  | succ k ih =>
    have hk := natR_nonneg k
    have hp : (0 : Rat) < (k : Rat) + 1 := by grind
    have hne : (k : Rat) + 1 ≠ 0 := by grind
    have hd : (0 : Int) < 100000000000000000000000000000000000000000000000000 * ((k : Int) + 1) := Int.mul_pos (by decide) (by lia)
    have d1 := ediv_rat (n := gwG left k * left) hd
    have e1 : (gwG left k * left) / (100000000000000000000000000000000000000000000000000 * ((k : Int) + 1)) = gwG left (k + 1) := rfl
    rw [e1] at d1
    have e3 : ((gwG left k * left : Int) : Rat) / ((100000000000000000000000000000000000000000000000000 * ((k : Int) + 1) : Int) : Rat) = ((gwG left k : Rat) * ((left : Rat) / 100000000000000000000000000000000000000000000000000)) / ((k : Rat) + 1) := by
      push_cast; grind
    rw [e3] at d1
    have b := gwG_bd hl0 hl k
    have b1 : (0 : Rat) ≤ (gwG left k : Rat) := Rat.intCast_nonneg.mpr b.1
    have b2 : (gwG left k : Rat) ≤ 100000000000000000000000000000000000000000000000000 := Rat.intCast_le_intCast.mpr b.2
    have m1 := ab_mul ih hz
    have m2 : ab ((gwG left k : Rat) * ((left : Rat) / 100000000000000000000000000000000000000000000000000 - z)) 1 := by
      have c1 : ab ((gwG left k : Rat)) 100000000000000000000000000000000000000000000000000 := by unfold ab; grind
      have c2 : ab ((left : Rat) / 100000000000000000000000000000000000000000000000000 - z) (1 / 100000000000000000000000000000000000000000000000000) := by unfold ab; grind
      have := ab_mul c1 c2
      refine ab_mono this (by grind)
    have m3 := ab_div (ab_add m1 m2) (d := (k : Rat) + 1) (by grind)
    have m4 : ab ((gwG left (k + 1) : Rat) - (gwG left k : Rat) * ((left : Rat) / 100000000000000000000000000000000000000000000000000) / ((k : Rat) + 1)) 1 := by unfold ab; grind
    have m5 := ab_add m3 m4
    refine ab_mono (b := 4 * (2 / 5) + 1 + 1) ?_ (by grind)
    have e4 : (gwG left (k + 1) : Rat) - eT z (k + 1) * 100000000000000000000000000000000000000000000000000 = (((gwG left k : Rat) - eT z k * 100000000000000000000000000000000000000000000000000) * z + (gwG left k : Rat) * ((left : Rat) / 100000000000000000000000000000000000000000000000000 - z)) / ((k : Rat) + 1) + ((gwG left (k + 1) : Rat) - (gwG left k : Rat) * ((left : Rat) / 100000000000000000000000000000000000000000000000000) / ((k : Rat) + 1)) := by
      have e5 : eT z (k + 1) = eT z k * z / ((k : Rat) + 1) := rfl
      rw [e5]
      grind
    rw [e4]
    exact m5
theorem gwSum_err {left : Int} {z : Rat} (hl0 : 0 ≤ left) (hl : 2 * left ≤ 100000000000000000000000000000000000000000000000000) (hz : ab z (2 / 5))
    (h1 : z * 100000000000000000000000000000000000000000000000000 - 1 ≤ (left : Rat)) (h2 : (left : Rat) ≤ z * 100000000000000000000000000000000000000000000000000) :
    ab ((gwSum left : Rat) - eE 170 z * 100000000000000000000000000000000000000000000000000) 680 := by
  rw [gwSum_eq hl0 hl]
  have e : sm (fun j => (gwG left j : Rat)) 170 - eE 170 z * 100000000000000000000000000000000000000000000000000 = sm (fun j => (gwG left j : Rat) - eT z j * 100000000000000000000000000000000000000000000000000) 170 := by
    have a : sm (fun j => (gwG left j : Rat)) 170 = sm (fun j => ((gwG left j : Rat) - eT z j * 100000000000000000000000000000000000000000000000000) + eT z j * 100000000000000000000000000000000000000000000000000) 170 := sm_congr fun i _ => by grind
    rw [a, sm_add, sm_mul]
    show _ + eE 170 z * _ - _ = _
    grind
  rw [e]
  have h := sm_ab (f := fun j => (gwG left j : Rat) - eT z j * 100000000000000000000000000000000000000000000000000) (b := 4) (n := 170) fun i _ => gwG_err hl0 hl hz h1 h2 i
  refine ab_mono h ?_
  have : ((170 : Nat) : Rat) = 170 := rfl
  rw [this]; grind
theorem gwSum_nr {left : Int} {z : Rat} (hl0 : 0 ≤ left) (hl : 2 * left ≤ 100000000000000000000000000000000000000000000000000) (hz : ab z (2 / 5))
    (h1 : z * 100000000000000000000000000000000000000000000000000 - 1 ≤ (left : Rat)) (h2 : (left : Rat) ≤ z * 100000000000000000000000000000000000000000000000000) :
    Nr 1 ((gwSum left : Rat) / 100000000000000000000000000000000000000000000000000) (E z) := by
  have h := gwSum_err hl0 hl hz h1 h2
  have t := eE_tail hz (by grind) 131 39
  have e : eE (131 + 39) z - eE 131 z = eE 170 z - E z := rfl
  rw [e] at t
  have t2 : ((39 : Nat) : Rat) * (2 / 5) ^ 131 ≤ 1 / 10000000000000000000000000000000000000000 := by decide +kernel
  have t3 := ab_mono t t2
  refine Nr.of_ab (d := 680 / 100000000000000000000000000000000000000000000000000 + 1 / 10000000000000000000000000000000000000000) ?_ (E_bd hz).1 (by decide +kernel)
  have h' : ab ((gwSum left : Rat) / 100000000000000000000000000000000000000000000000000 - eE 170 z) (680 / 100000000000000000000000000000000000000000000000000) := by
    unfold ab at *
    generalize eE 170 z = e at *
    generalize (gwSum left : Rat) = f at *
    grind
  have h4 := ab_add h' t3
  unfold ab at *
  grind
/-- the squarings -/
theorem sq_nr {f : Int} (h : 100000000000000000000000000000000000000000000000000 ≤ f) : ∀ n : Nat, Nr (2 ^ n - 1) ((sqIt n f : Rat) / 100000000000000000000000000000000000000000000000000) (((f : Rat) / 100000000000000000000000000000000000000000000000000) ^ (2 ^ n))
  | 0 => by
    have hf : (100000000000000000000000000000000000000000000000000 : Rat) ≤ (f : Rat) := Rat.intCast_le_intCast.mpr h
    have e2 : ((f : Rat) / 100000000000000000000000000000000000000000000000000) ^ (2 ^ 0) = (f : Rat) / 100000000000000000000000000000000000000000000000000 := by rw [Nat.pow_zero, Rat.pow_succ, Rat.pow_zero]; grind
    rw [e2]
    exact Nr.refl (a := (f : Rat) / 100000000000000000000000000000000000000000000000000) (by grind)
  | n + 1 => by
    have ih := sq_nr h n
    have lo := sq_lo h n
    have hl : (100000000000000000000000000000000000000000000000000 : Rat) ≤ (sqIt n f : Rat) := Rat.intCast_le_intCast.mpr lo
    have lo1 := sq_lo h (n + 1)
    have hl1 : (100000000000000000000000000000000000000000000000000 : Rat) ≤ (sqIt (n + 1) f : Rat) := Rat.intCast_le_intCast.mpr lo1
    have d := ediv_rat (n := sqIt n f * sqIt n f) (d := 100000000000000000000000000000000000000000000000000) (by decide)
    have e1 : (sqIt n f * sqIt n f) / 100000000000000000000000000000000000000000000000000 = sqIt (n + 1) f := rfl
    rw [e1] at d
    have e2 : ((100000000000000000000000000000000000000000000000000 : Int) : Rat) = 100000000000000000000000000000000000000000000000000 := rfl
    rw [e2] at d
    push_cast at d
    have e3 : ((f : Rat) / 100000000000000000000000000000000000000000000000000) ^ (2 ^ (n + 1)) = ((f : Rat) / 100000000000000000000000000000000000000000000000000) ^ 2 ^ n * ((f : Rat) / 100000000000000000000000000000000000000000000000000) ^ 2 ^ n := by rw [← rpow_add]; congr 1; rw [Nat.pow_succ]; lia
    rw [e3]
    have step : Nr 1 ((sqIt (n + 1) f : Rat) / 100000000000000000000000000000000000000000000000000) ((sqIt n f : Rat) / 100000000000000000000000000000000000000000000000000 * ((sqIt n f : Rat) / 100000000000000000000000000000000000000000000000000)) := by
      generalize (sqIt (n + 1) f : Rat) = a at *
      generalize (sqIt n f : Rat) = b at *
      have e4 : b / 100000000000000000000000000000000000000000000000000 * (b / 100000000000000000000000000000000000000000000000000) = b * b / 100000000000000000000000000000000000000000000000000 / 100000000000000000000000000000000000000000000000000 := by grind
      rw [e4]
      generalize b * b / 100000000000000000000000000000000000000000000000000 = c at *
      refine Nr.of_ab (d := 1 / 100000000000000000000000000000000000000000000000000) ?_ (by grind) (by decide +kernel)
      unfold ab; grind
    have := step.trans (ih.mul ih)
    refine this.mono ?_
    have : 0 < 2 ^ n := Nat.two_pow_pos n
    rw [Nat.pow_succ]; lia
theorem grownP_nr {part : Int} (h : part.natAbs ≤ 5100000000000000000000000000000000000000000000000000) :
    Nr 511 ((grownP part : Rat) / 100000000000000000000000000000000000000000000000000) (E (((part.natAbs : Int) : Rat) / 25600000000000000000000000000000000000000000000000000) ^ 256) := by
  have hb := gwSum_bounds (part := part) (by lia)
  have hl := gw_leftb (part := part) (by lia)
  have d := ediv_rat (n := (part.natAbs : Int)) (d := 256) (by decide)
  have hz : ab (((part.natAbs : Int) : Rat) / 25600000000000000000000000000000000000000000000000000) (2 / 5) := by
    have h1 : (part.natAbs : Int) ≤ 5100000000000000000000000000000000000000000000000000 := by lia
    have h2 : (0 : Int) ≤ (part.natAbs : Int) := by lia
    have h1' := Rat.intCast_le_intCast.mpr h1
    have h2' := Rat.intCast_nonneg.mpr h2
    have e : ((5100000000000000000000000000000000000000000000000000 : Int) : Rat) = 5100000000000000000000000000000000000000000000000000 := rfl
    rw [e] at h1'
    generalize ((part.natAbs : Int) : Rat) = p at *
    unfold ab; grind
  have e256 : ((256 : Int) : Rat) = 256 := rfl
  rw [e256] at d
  have g := gwSum_nr (z := ((part.natAbs : Int) : Rat) / 25600000000000000000000000000000000000000000000000000) hl.1 hl.2 hz
    (by have := d.1; generalize ((part.natAbs : Int) : Rat) = p at *; generalize (((part.natAbs : Int) / 256 : Int) : Rat) = q at *; grind)
    (by have := d.2; generalize ((part.natAbs : Int) : Rat) = p at *; generalize (((part.natAbs : Int) / 256 : Int) : Rat) = q at *; grind)
  have s := sq_nr hb.1 8
  have e8 : (2 : Nat) ^ 8 = 256 := rfl
  rw [e8] at s
  exact (s.trans (g.pow 256)).mono (by decide)
end Mine
end
section
namespace Mine
/-! the program's power against the law's -/
noncomputable def lam : Rat := 693147180559945309417232121458176564 / 256000000000000000000000000000000000000
theorem lam_def : lam = 693147180559945309417232121458176564 / 256000000000000000000000000000000000000 := rfl
theorem fp_half_val : fpSum 346573590279972654708616060729088282 = 1414213562373095048801688724209698078 := by decide +kernel
theorem half_e : (2 : Rat) ^ 7 * lam = ((346573590279972654708616060729088282 : Int) : Rat) / 1000000000000000000000000000000000000 := by decide +kernel
theorem half_ab : ab (((346573590279972654708616060729088282 : Int) : Rat) / 1000000000000000000000000000000000000) (2 / 5) := ⟨by decide +kernel, by decide +kernel⟩
theorem two_near : Nr 1 ((1414213562373095048801688724209698078 : Int) / 1000000000000000000000000000000000000 * ((1414213562373095048801688724209698078 : Int) / 1000000000000000000000000000000000000)) (2 : Rat) :=
  Nr.of_ab (d := 1 / 1000000000000000000000000000000000) ⟨by decide +kernel, by decide +kernel⟩ (by decide +kernel) (by decide +kernel)
theorem E_lam : Nr 257 (E lam ^ 256) 2 := by
  have h1 : ab (2 ^ 7 * lam) (2 / 5) := by rw [half_e]; exact half_ab
  have h2 := E_pow2 7 h1
  rw [half_e] at h2
  have h3 := fpSum_nr half_ab
  rw [fp_half_val] at h3
  have h4 := h2.trans h3.symm
  have h5 := (h4.mul h4).trans two_near
  have e : E lam ^ 256 = E lam ^ 2 ^ 7 * E lam ^ 2 ^ 7 := by rw [← rpow_add]
  rw [e]
  exact h5.mono (by decide)
theorem rmul_pow (a b : Rat) (n : Nat) : (a * b) ^ n = a ^ n * b ^ n := by
  induction n with
  | zero => rw [Rat.pow_zero, Rat.pow_zero, Rat.pow_zero]; grind
  | succ n ih => rw [Rat.pow_succ, Rat.pow_succ, Rat.pow_succ, ih]; grind
theorem rpow_mul (a : Rat) (m n : Nat) : a ^ (m * n) = (a ^ m) ^ n := by
  induction n with
  | zero => rw [Nat.mul_zero, Rat.pow_zero, Rat.pow_zero]
  | succ n ih => rw [Nat.mul_succ, rpow_add, Rat.pow_succ, ih]
theorem E_main {t : Nat} {r : Rat} (hr : ab r (2 / 5)) (ht : t ≤ 60) (hz : ab ((t : Rat) * lam + r / 256) (2 / 5)) :
    Nr 31200 (E ((t : Rat) * lam + r / 256) ^ 256) (2 ^ t * E r) := by
  have hr2 : ab (r / 256) (2 / 5) := by unfold ab at *; grind
  have hl : ab lam (2 / 5) := ⟨by decide +kernel, by decide +kernel⟩
  have h1 := E_chain (show 0 ≤ lam by decide +kernel) hl hr2 t hz
  have h2 := h1.pow 256
  have h3 : ab (2 ^ 8 * (r / 256)) (2 / 5) := by have : (2 : Rat) ^ 8 * (r / 256) = r := by have : (2 : Rat) ^ 8 = 256 := by decide +kernel
                                                                                            rw [this]; grind
                                                 rw [this]; exact hr
  have h4 := E_pow2 8 h3
  have e8 : (2 : Rat) ^ 8 * (r / 256) = r := by
    have : (2 : Rat) ^ 8 = 256 := by decide +kernel
    rw [this]; grind
  rw [e8] at h4
  have e256 : (2 : Nat) ^ 8 = 256 := rfl
  rw [e256] at h4
  have h5 := E_lam.pow t
  rw [← rpow_mul, Nat.mul_comm 256 t, rpow_mul] at h5
  have h6 := h5.mul h4
  rw [← rmul_pow] at h6
  exact (h2.trans h6).mono (by lia)
/-- the program's value, as a number -/
noncomputable def wOf (t : Nat) (r : Int) : Rat := 2 ^ t * ((fpSum r : Rat) / 1000000000000000000000000000000000000)
theorem grown_main {n : Int} {t : Nat} {r : Int} (h0 : 0 ≤ n) (h : n ≤ 51000000000000000000000000000000000000) (he : n = (t : Int) * lnTwo + r) (ht : t ≤ 60) (hr : 2 * r.natAbs ≤ 693147180559945309417232121458176564) :
    Nr 31712 ((grownP (n * 100000000000000) : Rat) / 100000000000000000000000000000000000000000000000000) (wOf t r) := by
  have g := grownP_nr (part := n * 100000000000000) (by lia)
  rw [lnTwo_eq] at he
  have hra : ab ((r : Rat) / 1000000000000000000000000000000000000) (2 / 5) := by
    have h1 : -400000000000000000000000000000000000 ≤ r := by lia
    have h2 : r ≤ 400000000000000000000000000000000000 := by lia
    have h1' := Rat.intCast_le_intCast.mpr h1
    have h2' := Rat.intCast_le_intCast.mpr h2
    have e1 : ((-400000000000000000000000000000000000 : Int) : Rat) = -400000000000000000000000000000000000 := rfl
    have e2 : ((400000000000000000000000000000000000 : Int) : Rat) = 400000000000000000000000000000000000 := rfl
    rw [e1] at h1'; rw [e2] at h2'
    generalize (r : Rat) = R at *
    unfold ab; grind
  have hnr : (n : Rat) = (t : Rat) * 693147180559945309417232121458176564 + (r : Rat) := by rw [he]; push_cast; rfl
  have ez : ((((n * 100000000000000).natAbs : Int) : Int) : Rat) / 25600000000000000000000000000000000000000000000000000 = (t : Rat) * lam + (r : Rat) / 1000000000000000000000000000000000000 / 256 := by
    have : (((n * 100000000000000).natAbs : Int)) = n * 100000000000000 := by lia
    rw [this]
    push_cast
    rw [hnr, lam_def]
    grind
  have hz : ab ((t : Rat) * lam + (r : Rat) / 1000000000000000000000000000000000000 / 256) (2 / 5) := by
    rw [← ez]
    have : (((n * 100000000000000).natAbs : Int)) = n * 100000000000000 := by lia
    rw [this]
    have h1' := Rat.intCast_le_intCast.mpr h
    have h2' := Rat.intCast_nonneg.mpr h0
    have e1 : ((51000000000000000000000000000000000000 : Int) : Rat) = 51000000000000000000000000000000000000 := rfl
    rw [e1] at h1'
    push_cast
    generalize (n : Rat) = N at *
    unfold ab; grind
  rw [ez] at g
  have m := E_main hra ht hz
  have f := (fpSum_nr hra).symm
  have w := g.trans (m.trans ((Nr.refl (a := (2 : Rat) ^ t) (by
    have : ∀ k : Nat, (0 : Rat) < 2 ^ k := fun k => by
      induction k with
      | zero => rw [Rat.pow_zero]; grind
      | succ k ih => rw [Rat.pow_succ]; grind
    exact this t)).mul f))
  exact w.mono (by decide)
theorem rho_big : rho ^ 63500 ≤ 1 + 1 / 1000000000000000000000000000 := by decide +kernel
end Mine
end
section
namespace Mine
theorem two_pos (k : Nat) : (0 : Rat) < 2 ^ k := by
  induction k with
  | zero => rw [Rat.pow_zero]; grind
  | succ k ih => rw [Rat.pow_succ]; grind
theorem two_one (k : Nat) : (1 : Rat) ≤ 2 ^ k := by
  induction k with
  | zero => rw [Rat.pow_zero]; grind
  | succ k ih => rw [Rat.pow_succ]; grind
theorem rest_ab {r : Int} (hr : 2 * r.natAbs ≤ 693147180559945309417232121458176564) : ab ((r : Rat) / 1000000000000000000000000000000000000) (2 / 5) := by
  have h1 : -400000000000000000000000000000000000 ≤ r := by lia
  have h2 : r ≤ 400000000000000000000000000000000000 := by lia
  have h1' := Rat.intCast_le_intCast.mpr h1
  have h2' := Rat.intCast_le_intCast.mpr h2
  have e1 : ((-400000000000000000000000000000000000 : Int) : Rat) = -400000000000000000000000000000000000 := rfl
  have e2 : ((400000000000000000000000000000000000 : Int) : Rat) = 400000000000000000000000000000000000 := rfl
  rw [e1] at h1'; rw [e2] at h2'
  generalize (r : Rat) = R at *
  unfold ab; grind
theorem rho_1 : rho ^ 1 = 1 + 1 / 100000000000000000000000000000000 := by rw [Rat.pow_succ, Rat.pow_zero, rho_def]; grind
theorem fpSum_bd {r : Int} (hr : 2 * r.natAbs ≤ 693147180559945309417232121458176564) : 1 / 4 ≤ (fpSum r : Rat) / 1000000000000000000000000000000000000 ∧ (fpSum r : Rat) / 1000000000000000000000000000000000000 ≤ 2 := by
  have h := rest_ab hr
  have f := fpSum_nr h
  have b := E_bd h
  have l := f.le
  have g := f.ge
  rw [rho_1] at l g
  generalize (fpSum r : Rat) / 1000000000000000000000000000000000000 = q at *
  generalize E ((r : Rat) / 1000000000000000000000000000000000000) = e at *
  constructor <;> grind
noncomputable def wNeg (k : Nat) (r : Int) : Rat := (fpSum r : Rat) / 1000000000000000000000000000000000000 / 2 ^ k
theorem fpVal_rat {n : Int} (ht : 0 ≤ fpTwos n) : ab ((fpVal n : Rat) - 1000000 * wOf (fpTwos n).toNat (fpRest n)) (1 / 2) := by
  have d := divd_rat (n := fpSum (fpRest n) * 2 ^ (fpTwos n).toNat) (d := 1000000000000000000000000000000) (by decide)
  have e : divd (fpSum (fpRest n) * 2 ^ (fpTwos n).toNat) 1000000000000000000000000000000 = fpVal n := by unfold fpVal; rw [if_pos ht]
  rw [e] at d
  have e2 : ((fpSum (fpRest n) * 2 ^ (fpTwos n).toNat : Int) : Rat) / ((1000000000000000000000000000000 : Int) : Rat) = 1000000 * wOf (fpTwos n).toNat (fpRest n) := by
    have : ((1000000000000000000000000000000 : Int) : Rat) = 1000000000000000000000000000000 := rfl
    rw [this, wOf]; push_cast
    grind
  rw [e2] at d
  exact d
theorem fpVal_rat_neg {n : Int} (ht : ¬ 0 ≤ fpTwos n) : ab ((fpVal n : Rat) - 1000000 * wNeg (-fpTwos n).toNat (fpRest n)) (1 / 2) := by
  have hp : (0 : Int) < 2 ^ (-fpTwos n).toNat := Int.pow_pos (by decide)
  have d := divd_rat (n := fpSum (fpRest n)) (d := 1000000000000000000000000000000 * 2 ^ (-fpTwos n).toNat) (Int.mul_pos (by decide) hp)
  have e : divd (fpSum (fpRest n)) (1000000000000000000000000000000 * 2 ^ (-fpTwos n).toNat) = fpVal n := by unfold fpVal; rw [if_neg ht]
  rw [e] at d
  have e2 : (fpSum (fpRest n) : Rat) / ((1000000000000000000000000000000 * 2 ^ (-fpTwos n).toNat : Int) : Rat) = 1000000 * wNeg (-fpTwos n).toNat (fpRest n) := by
    have h2 := two_pos (-fpTwos n).toNat
    rw [wNeg]; push_cast
    generalize (2 : Rat) ^ (-fpTwos n).toNat = T at *
    have : T ≠ 0 := by grind
    grind
  rw [e2] at d
  exact d
theorem divd_neg (n d : Int) (hd : 0 < d) : divd (-n) d = -divd n d := by
  unfold divd
  have e : (-n).natAbs = n.natAbs := by lia
  rw [e]
  by_cases h : n = 0
  · subst h
    have : (2 * ((0 : Int).natAbs : Int) + d.natAbs) / (2 * (d.natAbs : Int)) = 0 := Int.ediv_eq_zero_of_lt (by lia) (by lia)
    rw [this]; split <;> split <;> lia
  · have h1 : (-n < 0) = ¬ (n < 0) := by apply propext; lia
    have h2 : ¬ d < 0 := by lia
    simp only [h1, h2]
    by_cases z : n < 0 <;> simp [z]
theorem divd_nonneg {n d : Int} (h : 0 ≤ n) (hd : 0 < d) : 0 ≤ divd n d := by
  unfold divd
  have h0 : 0 ≤ (2 * (n.natAbs : Int) + d.natAbs) / (2 * (d.natAbs : Int)) := Int.ediv_nonneg (by lia) (by lia)
  have : (n < 0) = (d < 0) := by apply propext; lia
  rw [if_pos this]; exact h0
theorem twos_rest (n : Int) : n = fpTwos n * 693147180559945309417232121458176564 + fpRest n := by unfold fpRest; rw [lnTwo_eq]; lia
/-- what the law's power is, near the program's value -/
theorem grown_near {n : Int} (h1 : -40000000000000000000000000000000000000 ≤ n) (h2 : n ≤ 40000000000000000000000000000000000000) :
    ∃ V W : Rat, Nr 31750 V W ∧ (grown (n * 100000000000000) : Rat) / 100000000000000000000000000000000000000000000000000 ≤ V ∧ V - 1 / 100000000000000000000000000000000000000000000000000 ≤ (grown (n * 100000000000000) : Rat) / 100000000000000000000000000000000000000000000000000
      ∧ ab ((fpVal n : Rat) - 1000000 * W) (1 / 2) ∧ (0 ≤ n → V = (grownP (n * 100000000000000) : Rat) / 100000000000000000000000000000000000000000000000000) ∧ (n < 0 → W ≤ 2) ∧ -60 ≤ fpTwos n ∧ fpTwos n ≤ 60 := by
  have tr := twos_rest n
  have rs := fpRest_small n
  have hlt : (0 : Int) < lnTwo := by rw [lnTwo_eq]; decide
  have t1 : -60 ≤ fpTwos n := by lia
  have t2 : fpTwos n ≤ 60 := by lia
  by_cases hn : 0 ≤ n
  · have ht : 0 ≤ fpTwos n := divd_nonneg hn hlt
    refine ⟨_, _, (grown_main (n := n) (t := (fpTwos n).toNat) (r := fpRest n) hn (by lia) (by rw [lnTwo_eq]; lia) (by lia) rs).mono (by decide), ?_, ?_, fpVal_rat ht, fun _ => rfl, fun h => absurd hn (by lia), t1, t2⟩
    · unfold grown; rw [if_pos (by lia)]; grind
    · unfold grown; rw [if_pos (by lia)]; grind
  · have ht : 0 ≤ -fpTwos n := by
      have := divd_nonneg (n := -n) (by lia) hlt
      rw [divd_neg n lnTwo hlt] at this
      exact this
    have rs' : 2 * (-fpRest n).natAbs ≤ 693147180559945309417232121458176564 := by lia
    have m := grown_main (n := -n) (t := (-fpTwos n).toNat) (r := -fpRest n) (by lia) (by lia) (by rw [lnTwo_eq]; lia) (by lia) rs'
    have eP : grownP (-n * 100000000000000) = grownP (n * 100000000000000) := by
      unfold grownP
      have : (-n * 100000000000000).natAbs = (n * 100000000000000).natAbs := by lia
      rw [this]
    rw [eP] at m
    have lo := (gwSum_bounds (part := n * 100000000000000) (by lia)).1
    have lo8 : 100000000000000000000000000000000000000000000000000 ≤ grownP (n * 100000000000000) := sq_lo lo 8
    have d := ediv_rat (n := 100000000000000000000000000000000000000000000000000 * 100000000000000000000000000000000000000000000000000) (d := grownP (n * 100000000000000)) (by lia)
    have eg : (100000000000000000000000000000000000000000000000000 * 100000000000000000000000000000000000000000000000000 : Int) / grownP (n * 100000000000000) = grown (n * 100000000000000) := by
      unfold grown; rw [if_neg (by lia)]
    rw [eg] at d
    have mi := m.inv
    have ra := rest_ab rs
    have ra' := rest_ab rs'
    have en : ((-fpRest n : Int) : Rat) / 1000000000000000000000000000000000000 = -((fpRest n : Rat) / 1000000000000000000000000000000000000) := by push_cast; grind
    have pm := (fpSum_nr ra').mul (fpSum_nr ra)
    have em := E_mul ra' ra (by rw [en]; unfold ab; grind)
    have e0 : ((-fpRest n : Int) : Rat) / 1000000000000000000000000000000000000 + (fpRest n : Rat) / 1000000000000000000000000000000000000 = 0 := by rw [en]; grind
    rw [e0] at em
    have E0 : E 0 = 1 := by decide +kernel
    rw [E0] at em
    have p1 := pm.trans em
    have bd := fpSum_bd rs
    have bd' := fpSum_bd rs'
    have h2p := two_pos (-fpTwos n).toNat
    have h21 := two_one (-fpTwos n).toNat
    -- 1/(2^t a) near b/2^t
    have q : Nr 3 (1 / wOf (-fpTwos n).toNat (-fpRest n)) (wNeg (-fpTwos n).toNat (fpRest n)) := by
      have r1 := p1.symm.mul (Nr.refl (a := 1 / (2 ^ (-fpTwos n).toNat * ((fpSum (-fpRest n) : Rat) / 1000000000000000000000000000000000000))) (by
        have : 0 < 2 ^ (-fpTwos n).toNat * ((fpSum (-fpRest n) : Rat) / 1000000000000000000000000000000000000) := Rat.mul_pos h2p (by grind)
        rw [Rat.div_def]; exact Rat.mul_pos (by grind) (Rat.inv_pos.mpr this)))
      unfold wOf wNeg
      generalize (fpSum (-fpRest n) : Rat) / 1000000000000000000000000000000000000 = a at *
      generalize (fpSum (fpRest n) : Rat) / 1000000000000000000000000000000000000 = b at *
      generalize (2 : Rat) ^ (-fpTwos n).toNat = T at *
      have hT : T ≠ 0 := by grind
      have ha : a ≠ 0 := by grind
      have x1 : 1 * (1 / (T * a)) = 1 / (T * a) := by grind
      have x2 : a * b * (1 / (T * a)) = b / T := by grind
      rw [x1, x2] at r1
      exact r1.mono (by decide)
    have big := (mi.trans q).mono (show 31712 + 3 ≤ 31750 by decide)
    refine ⟨_, _, big, ?_, ?_, ?_, fun h => absurd h hn, fun _ => ?_, t1, t2⟩
    · have hg : (0 : Rat) < (grownP (n * 100000000000000) : Rat) := Rat.intCast_pos.mpr (by lia)
      have := d.2
      push_cast at this
      generalize (grownP (n * 100000000000000) : Rat) = g at *
      have hne : g ≠ 0 := by grind
      have : 1 / (g / 100000000000000000000000000000000000000000000000000) = 100000000000000000000000000000000000000000000000000 * 100000000000000000000000000000000000000000000000000 / g / 100000000000000000000000000000000000000000000000000 := by grind
      rw [this]
      grind
    · have hg : (0 : Rat) < (grownP (n * 100000000000000) : Rat) := Rat.intCast_pos.mpr (by lia)
      have := d.1
      push_cast at this
      generalize (grownP (n * 100000000000000) : Rat) = g at *
      have hne : g ≠ 0 := by grind
      have : 1 / (g / 100000000000000000000000000000000000000000000000000) = 100000000000000000000000000000000000000000000000000 * 100000000000000000000000000000000000000000000000000 / g / 100000000000000000000000000000000000000000000000000 := by grind
      rw [this]
      grind
    · by_cases h0 : 0 ≤ fpTwos n
      · have hz : fpTwos n = 0 := by lia
        have v := fpVal_rat h0
        rw [hz] at v
        rw [hz]
        have : wNeg (-0 : Int).toNat (fpRest n) = wOf (0 : Int).toNat (fpRest n) := by
          unfold wNeg wOf
          have e1 : (-0 : Int).toNat = 0 := rfl
          have e2 : (0 : Int).toNat = 0 := rfl
          rw [e1, e2, Rat.pow_zero]; grind
        rw [this]; exact v
      · exact fpVal_rat_neg h0
    · unfold wNeg
      generalize (fpSum (fpRest n) : Rat) / 1000000000000000000000000000000000000 = b at *
      generalize (2 : Rat) ^ (-fpTwos n).toNat = T at *
      have e := rdiv_mul (a := b) h2p
      refine le_of_mul_pos h2p ?_
      rw [e]; grind
end Mine
end
section
namespace Mine
theorem rpow_nonneg {a : Rat} (h : 0 ≤ a) (k : Nat) : 0 ≤ a ^ k := Rat.pow_nonneg h
theorem pw_mono {a b : Rat} (h0 : 0 ≤ a) (h : a ≤ b) (k : Nat) : a ^ k ≤ b ^ k := by
  induction k with
  | zero => rw [Rat.pow_zero, Rat.pow_zero]; exact Rat.le_refl
  | succ k ih =>
    rw [Rat.pow_succ, Rat.pow_succ]
    have g1 := Rat.mul_le_mul_of_nonneg_right ih h0
    have g2 := Rat.mul_le_mul_of_nonneg_left h (rpow_nonneg (show 0 ≤ b by grind) k)
    grind
theorem rho_1022 : rho ^ 1022 ≤ 1 + 1 / 1000000000000000000000000000 := by
  have h1 := rho_mono (show 1022 ≤ 63500 by decide)
  have h2 := rho_big
  generalize rho ^ 1022 = a at *
  generalize rho ^ 63500 = b at *
  grind
theorem rho_31750 : rho ^ 31750 ≤ 1 + 1 / 1000000000000000000000000000 := by
  have h1 := rho_mono (show 31750 ≤ 63500 by decide)
  have h2 := rho_big
  generalize rho ^ 31750 = a at *
  generalize rho ^ 63500 = b at *
  grind
/-- the law's power grows with its argument -/
theorem grownP_mono {n m : Int} (h0 : 0 ≤ n) (h : n ≤ m) (hm : m ≤ 51000000000000000000000000000000000000) :
    (grownP (n * 100000000000000) : Rat) / 100000000000000000000000000000000000000000000000000 ≤ (1 + 1 / 1000000000000000000000000000) * ((grownP (m * 100000000000000) : Rat) / 100000000000000000000000000000000000000000000000000) := by
  have g1 := grownP_nr (part := n * 100000000000000) (by lia)
  have g2 := grownP_nr (part := m * 100000000000000) (by lia)
  have z1 : (0 : Rat) ≤ (((n * 100000000000000).natAbs : Int) : Rat) / 25600000000000000000000000000000000000000000000000000 := by
    have : (0 : Rat) ≤ (((n * 100000000000000).natAbs : Int) : Rat) := Rat.intCast_nonneg.mpr (by lia)
    generalize (((n * 100000000000000).natAbs : Int) : Rat) = p at *
    grind
  have z2 : (((n * 100000000000000).natAbs : Int) : Rat) / 25600000000000000000000000000000000000000000000000000 ≤ (((m * 100000000000000).natAbs : Int) : Rat) / 25600000000000000000000000000000000000000000000000000 := by
    have : (((n * 100000000000000).natAbs : Int) : Rat) ≤ (((m * 100000000000000).natAbs : Int) : Rat) := Rat.intCast_le_intCast.mpr (by lia)
    generalize (((n * 100000000000000).natAbs : Int) : Rat) = p at *
    generalize (((m * 100000000000000).natAbs : Int) : Rat) = q at *
    grind
  have e1 := eE_mono z1 z2 131
  have e0 : 0 ≤ eE 131 ((((n * 100000000000000).natAbs : Int) : Rat) / 25600000000000000000000000000000000000000000000000000) := by
    have := eE_mono (Rat.le_refl) z1 131
    have z : eE 131 0 = 1 := by decide +kernel
    rw [z] at this; grind
  have e2 := pw_mono e0 e1 256
  have l1 := g1.le
  have l2 := g2.ge
  have hr := rho_1022
  have er : rho ^ 1022 = rho ^ 511 * rho ^ 511 := by rw [← rpow_add]
  rw [er] at hr
  have hp := rho_pos 511
  have pb := g2.pa
  unfold E at *
  generalize eE 131 ((((n * 100000000000000).natAbs : Int) : Rat) / 25600000000000000000000000000000000000000000000000000) ^ 256 = a at *
  generalize eE 131 ((((m * 100000000000000).natAbs : Int) : Rat) / 25600000000000000000000000000000000000000000000000000) ^ 256 = b at *
  generalize (grownP (n * 100000000000000) : Rat) / 100000000000000000000000000000000000000000000000000 = p at *
  generalize (grownP (m * 100000000000000) : Rat) / 100000000000000000000000000000000000000000000000000 = q at *
  generalize rho ^ 511 = w at *
  have s1 := Rat.mul_le_mul_of_nonneg_left e2 (Rat.le_of_lt hp)
  have s2 := Rat.mul_le_mul_of_nonneg_left l2 (Rat.le_of_lt hp)
  have s3 := Rat.mul_le_mul_of_nonneg_right hr (Rat.le_of_lt pb)
  grind
theorem lo_val : (grownP (34538775840655000000000000000000000000 * 100000000000000) : Rat) / 100000000000000000000000000000000000000000000000000 ≤ 999999446000000 := by decide +kernel
theorem hi_val : 1000000440000000 ≤ (grownP (34538776840638000000000000000000000000 * 100000000000000) : Rat) / 100000000000000000000000000000000000000000000000000 := by decide +kernel
/-- from reals to what is due -/
theorem due_of {k part : Int} (h1 : ¬ 40 * 100000000000000000000000000000000000000000000000000 < part) (h2 : ¬ part < 0 - 40 * 100000000000000000000000000000000000000000000000000)
    (hv : ab ((k : Rat) - 1000000 * ((grown part : Rat) / 100000000000000000000000000000000000000000000000000)) (1 / 2 + 1 / 4000))
    (hN : (grown part : Rat) / 100000000000000000000000000000000000000000000000000 ≤ 999999999999999) : DueI k part := by
  have a1 : 4000 * (k * 100000000000000000000000000000000000000000000000000 - grown part * 1000000) ≤ 2001 * 100000000000000000000000000000000000000000000000000 := by
    refine Rat.intCast_le_intCast.mp ?_
    push_cast
    have := hv.2
    generalize (grown part : Rat) = g at *
    generalize (k : Rat) = q at *
    grind
  have a2 : -(2001 * 100000000000000000000000000000000000000000000000000) ≤ 4000 * (k * 100000000000000000000000000000000000000000000000000 - grown part * 1000000) := by
    refine Rat.intCast_le_intCast.mp ?_
    push_cast
    have := hv.1
    generalize (grown part : Rat) = g at *
    generalize (k : Rat) = q at *
    grind
  have a3 : grown part ≤ 999999999999999 * 100000000000000000000000000000000000000000000000000 := by
    refine Rat.intCast_le_intCast.mp ?_
    push_cast
    generalize (grown part : Rat) = g at *
    grind
  have eM : duM part = grown part * 1000000 := by unfold duM; rw [if_neg h2]
  have m1 := Int.mul_ediv_add_emod (grown part * 1000000) 100000000000000000000000000000000000000000000000000
  have m2 := Int.emod_nonneg (grown part * 1000000) (b := 100000000000000000000000000000000000000000000000000) (by decide)
  have m3 := Int.emod_lt_of_pos (grown part * 1000000) (b := 100000000000000000000000000000000000000000000000000) (by decide)
  have eW : duW part = grown part * 1000000 / 100000000000000000000000000000000000000000000000000 := by unfold duW; rw [eM, Int.fdiv_eq_ediv_of_nonneg _ (by decide)]
  have eR : duR part = grown part * 1000000 % 100000000000000000000000000000000000000000000000000 := by unfold duR; rw [eM, Int.fmod_eq_emod_of_nonneg _ (by decide)]
  generalize grown part * 1000000 / 100000000000000000000000000000000000000000000000000 = W at *
  generalize grown part * 1000000 % 100000000000000000000000000000000000000000000000000 = R at *
  generalize grown part = g at *
  refine ⟨h1, ?_, ?_, ?_⟩
  · unfold duN; rw [eW, eR]; split <;> lia
  · rw [eR, eW]; intro _; lia
  · rw [eR]; intro hc; unfold duN; rw [eW, eR]; split <;> lia
theorem dueX_of {part : Int} (h2 : ¬ part < 0 - 40 * 100000000000000000000000000000000000000000000000000)
    (hN : 1000000400000000 ≤ (grown part : Rat) / 100000000000000000000000000000000000000000000000000) : DueX part := by
  have a3 : 1000000400000000 * 100000000000000000000000000000000000000000000000000 ≤ grown part := by
    refine Rat.intCast_le_intCast.mp ?_
    push_cast
    generalize (grown part : Rat) = g at *
    grind
  refine Or.inr ?_
  have eM : duM part = grown part * 1000000 := by unfold duM; rw [if_neg h2]
  have eW : duW part = grown part * 1000000 / 100000000000000000000000000000000000000000000000000 := by unfold duW; rw [eM, Int.fdiv_eq_ediv_of_nonneg _ (by decide)]
  unfold duN
  rw [eW]
  generalize grown part = g at *
  split <;> lia
theorem two_58 : (288230376151711744 : Rat) = 2 ^ 58 := by decide +kernel
theorem two_ge {k : Nat} (h : 58 ≤ k) : (288230376151711744 : Rat) ≤ 2 ^ k := by
  have e : k = 58 + (k - 58) := by lia
  rw [e, rpow_add, ← two_58]
  have := two_one (k - 58)
  grind
/-- beyond forty -/
theorem far_up {n : Int} (h : 40000000000000000000000000000000000000 < n) : fpow n = none := by
  have tr := twos_rest n
  have rs := fpRest_small n
  have ht : 58 ≤ fpTwos n := by lia
  unfold fpow
  by_cases h6 : fpTwos n > 60
  · rw [if_pos h6]
  · rw [if_neg h6, if_neg (by lia)]
    have v := fpVal_rat (n := n) (by lia)
    have b := (fpSum_bd rs).1
    have t2 := two_ge (k := (fpTwos n).toNat) (by lia)
    have hbig : 1000000000000000000001 ≤ fpVal n := by
      refine Rat.intCast_le_intCast.mp ?_
      unfold wOf at v
      generalize (fpSum (fpRest n) : Rat) / 1000000000000000000000000000000000000 = q at *
      generalize (2 : Rat) ^ (fpTwos n).toNat = T at *
      have s := Rat.mul_le_mul_of_nonneg_left b (show 0 ≤ T by grind)
      have e : ((1000000000000000000001 : Int) : Rat) = 1000000000000000000001 := rfl
      rw [e]
      have := v.1
      generalize (fpVal n : Rat) = x at *
      grind
    rw [if_neg (by lia)]
theorem far_dn {n : Int} (h : n < -40000000000000000000000000000000000000) : fpow n = some 0 := by
  have tr := twos_rest n
  have rs := fpRest_small n
  have ht : fpTwos n ≤ -58 := by lia
  unfold fpow
  rw [if_neg (by lia)]
  by_cases h6 : fpTwos n < -60
  · rw [if_pos h6]
  · rw [if_neg h6]
    have v := fpVal_rat_neg (n := n) (by lia)
    have b := fpSum_bd rs
    have t2 := two_ge (k := (-fpTwos n).toNat) (by lia)
    have hz : fpVal n = 0 := by
      have w : wNeg (-fpTwos n).toNat (fpRest n) ≤ 1 / 100000000000000 ∧ 0 ≤ wNeg (-fpTwos n).toNat (fpRest n) := by
        unfold wNeg
        generalize (fpSum (fpRest n) : Rat) / 1000000000000000000000000000000000000 = q at *
        generalize (2 : Rat) ^ (-fpTwos n).toNat = T at *
        have hT : 0 < T := by grind
        have e := rdiv_mul (a := q) hT
        constructor
        · refine le_of_mul_pos hT ?_
          rw [e]; grind
        · refine le_of_mul_pos hT ?_
          rw [e]; grind
      generalize wNeg (-fpTwos n).toNat (fpRest n) = w at *
      have u1 : fpVal n < 1 := by
        refine Rat.intCast_lt_intCast.mp ?_
        have e : ((1 : Int) : Rat) = 1 := rfl
        rw [e]
        have := v.2
        generalize (fpVal n : Rat) = x at *
        grind
      have u2 : -1 < fpVal n := by
        refine Rat.intCast_lt_intCast.mp ?_
        have e : ((-1 : Int) : Rat) = -1 := rfl
        rw [e]
        have := v.1
        generalize (fpVal n : Rat) = x at *
        grind
      lia
    rw [hz]
    rfl
/-- the plain law -/
theorem plain_law {n : Int} {wh re : Int} (hw1 : -50 ≤ wh) (hw2 : wh ≤ 50) (hr1 : 0 ≤ re) (hr2 : re < 1000003) (hn : n = wh * 1000000000000000000000000000000000000 + re * 999983000000000000000000000000) :
    (fpow n = none ∧ DueX (n * 100000000000000)) ∨ ∃ x, fpow n = some x ∧ DueI x (n * 100000000000000) := by
  by_cases c1 : 40000000000000000000000000000000000000 < n
  · exact Or.inl ⟨far_up c1, Or.inl (by lia)⟩
  by_cases c2 : n < -40000000000000000000000000000000000000
  · refine Or.inr ⟨0, far_dn c2, ?_⟩
    have hlo : n * 100000000000000 < 0 - 40 * 100000000000000000000000000000000000000000000000000 := by lia
    have e1 := duN_lo hlo
    have e2 := duR_lo hlo
    rw [du0.1, du0.2] at e1
    rw [du0.2] at e2
    refine ⟨by lia, ?_, ?_, ?_⟩
    · rw [e1]; decide
    · rw [e2]; intro h; exact absurd h (by decide)
    · intro _; rw [e1]; decide
  obtain ⟨V, W, nr, v1, v2, vk, vp, wn, t1, t2⟩ := grown_near (n := n) (by lia) (by lia)
  have pW := nr.pb
  have pV := nr.pa
  have le := nr.le
  have ge := nr.ge
  have le' : V ≤ (1 + 1 / 1000000000000000000000000000) * W := by
    have := Rat.mul_le_mul_of_nonneg_right rho_31750 (Rat.le_of_lt pW); grind
  have ge' : W ≤ (1 + 1 / 1000000000000000000000000000) * V := by
    have := Rat.mul_le_mul_of_nonneg_right rho_31750 (Rat.le_of_lt pV); grind
  have fin : W ≤ 999999500000000 → ∃ x, fpow n = some x ∧ DueI x (n * 100000000000000) := by
    intro hW
    have f1 : fpVal n ≤ 1000000000000000000000 := by
      refine Rat.intCast_le_intCast.mp ?_
      have e : ((1000000000000000000000 : Int) : Rat) = 1000000000000000000000 := rfl
      rw [e]
      have := vk.2
      generalize (fpVal n : Rat) = x at *
      grind
    have f2 : -1 < fpVal n := by
      refine Rat.intCast_lt_intCast.mp ?_
      have e : ((-1 : Int) : Rat) = -1 := rfl
      rw [e]
      have := vk.1
      generalize (fpVal n : Rat) = x at *
      grind
    refine ⟨fpVal n, ?_, due_of (by lia) (by lia) ?_ ?_⟩
    · unfold fpow
      rw [if_neg (by lia), if_neg (by lia), if_pos (by lia)]
    · generalize (grown (n * 100000000000000) : Rat) / 100000000000000000000000000000000000000000000000000 = g at *
      generalize (fpVal n : Rat) = x at *
      unfold ab at *
      constructor <;> grind
    · generalize (grown (n * 100000000000000) : Rat) / 100000000000000000000000000000000000000000000000000 = g at *
      grind
  by_cases c3 : 0 ≤ n
  · have eV := vp c3
    by_cases c4 : n ≤ 34538775840655000000000000000000000000
    · have m := grownP_mono c3 c4 (by decide)
      have l := lo_val
      rw [← eV] at m
      refine Or.inr (fin ?_)
      generalize (grownP (34538775840655000000000000000000000000 * 100000000000000) : Rat) / 100000000000000000000000000000000000000000000000000 = g at *
      grind
    · have c5 : 34538776840638000000000000000000000000 ≤ n := by
        rcases (show wh ≤ 33 ∨ wh = 34 ∨ 35 ≤ wh by lia) with z | z | z
        · exfalso; lia
        · subst z; lia
        · lia
      have m := grownP_mono (n := 34538776840638000000000000000000000000) (m := n) (by decide) c5 (by lia)
      have l := hi_val
      rw [← eV] at m
      have hV : 1000000430000000 ≤ V := by
        generalize (grownP (34538776840638000000000000000000000000 * 100000000000000) : Rat) / 100000000000000000000000000000000000000000000000000 = g at *
        grind
      refine Or.inl ⟨?_, dueX_of (by lia) ?_⟩
      · have f1 : 1000000000000000000001 ≤ fpVal n := by
          refine Rat.intCast_le_intCast.mp ?_
          have e : ((1000000000000000000001 : Int) : Rat) = 1000000000000000000001 := rfl
          rw [e]
          have := vk.1
          generalize (fpVal n : Rat) = x at *
          grind
        unfold fpow
        rw [if_neg (by lia), if_neg (by lia), if_neg (by lia)]
      · generalize (grown (n * 100000000000000) : Rat) / 100000000000000000000000000000000000000000000000000 = g at *
        grind
  · exact Or.inr (fin (by have := wn (by lia); grind))
end Mine
end
section
namespace Mine
/-! the finite part -/
noncomputable def wsL : List Int := [1, 2, 333333, 500000, 2718282, 999999, 1000001, 1500000, 10000000, 123456789, 1000000, 1000000000000007]
noncomputable def esL : List Int := [500000, -500000, 333333, 1, -1, 1414214, 65000000, -65000000, 70000000, 100500000, 3000001, -2999999, 12345678, -250000]
noncomputable def dueIB (k part : Int) : Bool :=
  decide (¬ 40 * 100000000000000000000000000000000000000000000000000 < part) && (decide (¬ 1000000000000000000000 < duN part) &&
  (if (2 * duR part - 100000000000000000000000000000000000000000000000000).natAbs < 100000000000000000000000000000000000000000000000 then decide (k = duW part ∨ k = duW part + 1) else decide (k = duN part)))
theorem dueIB_ok {k part : Int} (h : dueIB k part = true) : DueI k part := by
  unfold dueIB at h
  rw [Bool.and_eq_true, Bool.and_eq_true] at h
  obtain ⟨h1, h2, h3⟩ := h
  refine ⟨of_decide_eq_true h1, of_decide_eq_true h2, fun c => ?_, fun c => ?_⟩
  · rw [if_pos c] at h3; exact of_decide_eq_true h3
  · rw [if_neg c] at h3; exact of_decide_eq_true h3
noncomputable def pairB (fl ll e : Int) : Bool :=
  match fpow (divd (fl * e) 1000000) with
  | some x => dueIB x ((ll * e).fdiv 1000000)
  | none => decide (40 * 100000000000000000000000000000000000000000000000000 < (ll * e).fdiv 1000000) || decide (1000000000000000000000 < duN ((ll * e).fdiv 1000000))
theorem pairB_ok {fl ll e : Int} (h : pairB fl ll e = true) :
    (fpow (divd (fl * e) 1000000) = none ∧ DueX ((ll * e).fdiv 1000000)) ∨ ∃ x, fpow (divd (fl * e) 1000000) = some x ∧ DueI x ((ll * e).fdiv 1000000) := by
  unfold pairB at h
  generalize fpow (divd (fl * e) 1000000) = o at *
  cases o with
  | none =>
    refine Or.inl ⟨rfl, ?_⟩
    simp only [Bool.or_eq_true] at h
    rcases h with h | h
    · exact Or.inl (of_decide_eq_true h)
    · exact Or.inr (of_decide_eq_true h)
  | some x => exact Or.inr ⟨x, rfl, dueIB_ok h⟩
noncomputable def worthB (v : Int) : Bool :=
  decide (PySem.Builtin.Int.intBits (flog v) ≤ 200) && (decide ((llIt v 0).natAbs ≤ 12800000000000000000000000000000000000000000000000000 ∧ (llIt v 1).natAbs ≤ 12800000000000000000000000000000000000000000000000000 ∧ (llIt v 2).natAbs ≤ 12800000000000000000000000000000000000000000000000000 ∧ (llIt v 3).natAbs ≤ 12800000000000000000000000000000000000000000000000000 ∧ (llIt v 4).natAbs ≤ 12800000000000000000000000000000000000000000000000000 ∧ (llIt v 5).natAbs ≤ 12800000000000000000000000000000000000000000000000000) &&
  (decide ((flog v * 100000000000000 - llog v).natAbs ≤ 100000000000000000000) && decide (1 ≤ v ∧ v ≤ 2 ^ 60)))
theorem worthB_all : wsL.all worthB = true := by decide +kernel
theorem pairB_all : wsL.all (fun v => esL.all (fun e => pairB (flog v) (llog v) e)) = true := by decide +kernel
theorem flog_one : flog 1000000 = 0 := by decide +kernel
structure Worth (v : Int) : Prop where
  bits : PySem.Builtin.Int.intBits (flog v) ≤ 200
  fine : LlFine v
  near : (flog v * 100000000000000 - llog v).natAbs ≤ 100000000000000000000
  lo : 1 ≤ v
  hi : v ≤ 2 ^ 60
  pair : ∀ e, e ∈ esL → (fpow (divd (flog v * e) 1000000) = none ∧ DueX ((llog v * e).fdiv 1000000)) ∨ ∃ x, fpow (divd (flog v * e) 1000000) = some x ∧ DueI x ((llog v * e).fdiv 1000000)
theorem worth_of {v : Int} (h : v ∈ wsL) : Worth v := by
  have h1 := List.all_eq_true.mp worthB_all v h
  have h2 := List.all_eq_true.mp pairB_all v h
  unfold worthB at h1
  rw [Bool.and_eq_true, Bool.and_eq_true, Bool.and_eq_true] at h1
  obtain ⟨a, b, c, d⟩ := h1
  have b := of_decide_eq_true b
  have d := of_decide_eq_true d
  refine ⟨of_decide_eq_true a, ?_, of_decide_eq_true c, d.1, d.2, fun e he => pairB_ok (List.all_eq_true.mp h2 e he)⟩
  intro i hi
  rcases (show i = 0 ∨ i = 1 ∨ i = 2 ∨ i = 3 ∨ i = 4 ∨ i = 5 by lia) with z | z | z | z | z | z <;> subst z
  · exact b.1
  · exact b.2.1
  · exact b.2.2.1
  · exact b.2.2.2.1
  · exact b.2.2.2.2.1
  · exact b.2.2.2.2.2
structure Expo (e : Int) : Prop where
  hs : ¬ (e.fmod 1000000 = 0 ∧ -64000000 ≤ e ∧ e ≤ 64000000)
  ne : e ≠ 0
  lo : -1000000000 ≤ e
  hi : e ≤ 1000000000
theorem expo_of {e : Int} (h : e ∈ esL) : Expo e := by
  have h1 : esL.all (fun e => decide (¬ (e.fmod 1000000 = 0 ∧ -64000000 ≤ e ∧ e ≤ 64000000) ∧ e ≠ 0 ∧ -1000000000 ≤ e ∧ e ≤ 1000000000)) = true := by decide +kernel
  have h2 := of_decide_eq_true (List.all_eq_true.mp h1 e h)
  exact ⟨h2.1, h2.2.1, h2.2.2.1, h2.2.2.2⟩
end Mine
end
section
open PySem PySem.W PyProof.Rows
namespace Mine
open PySem.Builtin.Int (intBits)
open PySem.Spec PyProof.V PySem.Calls
noncomputable def TurnPost (L : Addr) (s₁ : Shared) (I : Addr) (it : Obj) (rest : Heap → (Str → Option Value) → List (Addr × Obj) → Prop) (Q : Flow → Shared → Prop) (f : Flow) (s₂ : Shared) : Prop :=
  match f with
  | .ret v => Q (.ret v) s₂
  | .brk => Q .next s₂
  | _ => ∃ g' h' tk m' news', s₂ = { s₁ with heap := h', toks := tk } ∧ Fr g' L h' m' ∧ News g' L h' ((I, it) :: news') ∧ (∀ p ∈ news', p.1 ≠ I) ∧ rest g' m' news'
noncomputable def TurnRest (prog : Program) (w : World) (A : Around) (E : Value → Shared → Prop) (env : Env) (x : Str) (body : List Stmt) (Q : Flow → Shared → Prop) (s : Shared) (I : Addr) (n : Nat) : Nat → Nat → Heap → (Str → Option Value) → List (Addr × Obj) → Prop
  | 0, _, g, m, news => ∀ h tk, Fr g env.locals h m → News g env.locals h news → Q .next { s with heap := h, toks := tk }
  | k + 1, i, g, m, news => ∀ t h tk, Fr g env.locals h (fun y => if y = x then some (.int (i : Int) t) else m y) →
      News g env.locals h ((I, itR ((i + 1 : Nat) : Int) ((n : Int) - ((i + 1 : Nat) : Int))) :: news) →
      wpAny (model prog w) A (execs body env) (TurnPost env.locals s I (itR ((i + 1 : Nat) : Int) ((n : Int) - ((i + 1 : Nat) : Int))) (TurnRest prog w A E env x body Q s I n k (i + 1)) Q) E { s with heap := h, toks := tk }
/-- between the turns -/
noncomputable def TInv (prog : Program) (w : World) (A : Around) (E : Value → Shared → Prop) (env : Env) (x : Str) (body : List Stmt) (Q : Flow → Shared → Prop) (s : Shared) (I : Addr) (n : Nat) (k : Nat) (s' : Shared) : Prop :=
  ∃ h' tk g' m' news' i, s' = { s with heap := h', toks := tk } ∧ IsRangeIter h' I (0 + ((i : Nat) : Int) * 1) ((n : Int) - (i : Nat)) 1 ∧ g'.get? I = none ∧ Fr g' env.locals h' m' ∧ News g' env.locals h' news' ∧ (∀ p ∈ news', p.1 ≠ I) ∧ TurnRest prog w A E env x body Q s I n (n - i) i g' m' news' ∧ i ≤ n ∧ k = n + 1 - i
section
variable {prog : Program} {w : World} {A : Around} {s : Shared} {env : Env}
theorem turn_loop {R : Result → Shared → Prop} {E : Value → Shared → Prop} {Q : Flow → Shared → Prop} {x : Str} {px : Pos} {body : List Stmt} {I : Addr} {n : Nat} {g : Heap} {m : Str → Option Value} {news : List (Addr × Obj)}
    (hh : A.handled = none) (hx : env.kindOf x = some .local) (hp : (env.scope.kind == .class || (env.scope.kind == .module && env.locals != env.globals)) = false)
    (hI : env.locals ≠ I) (hgI : g.get? I = none) (hst : IsRangeIter s.heap I 0 (n : Int) 1) (F : Fr g env.locals s.heap m) (N : News g env.locals s.heap news) (hnI : ∀ p ∈ news, p.1 ≠ I)
    (hEE : ∀ {T : Flow → Shared → Prop} (s' : Shared), wpAny (model prog w) A (execs body env) T E s' → wpAny (model prog w) A (execs body env) T (notedBy (model prog w) A env fun e s' => R (.error e) s') s')
    (hR : ∀ f s', Q f s' → R (.ok f) s')
    (J : TurnRest prog w A E env x body Q s I n n 0 g m news) :
    codeAny (model prog w) A (.forLoop (.Name x px) (.ref I) body [] env) R s := by
  have W := Walks.range (prog := prog) (w := w) hh I 0 1 n
  have hLw : env.locals ∉ [I] := fun h => hI (List.mem_singleton.mp h)
  refine codeAny_forLoop
    (TInv prog w A E env x body Q s I n) ?_ (n + 1)
    ⟨s.heap, s.toks, g, m, news, 0, rfl, by simpa using hst, hgI, F, N, hnI, J, Nat.zero_le _, rfl⟩
  rintro k s' ⟨h', tk, g', m', news', i, rfl, hst', hg', F', N', hnw', hJ, hi, rfl⟩
  have next : ∀ h₁ : Heap, (∀ b o, b ∉ [I] → h'.get? b = some o → h₁.get? b = some o) → Fr g' env.locals h₁ m' ∧ News g' env.locals h₁ news' := fun h₁ hk₁ =>
    ⟨⟨F'.ns.at' fun o e => hk₁ _ o hLw e, fun b o e => hk₁ b o (fun q => by rw [List.mem_singleton.mp q, hg'] at e; cases e) (F'.keep b o e), F'.above⟩, fun p hp => ⟨hk₁ _ _ (fun q => hnw' p hp (List.mem_singleton.mp q)) (N' p hp).1, (N' p hp).2⟩⟩
  by_cases hlt : i < n
  · refine W.item i _ _ _ hlt hst' fun v h₁ tk₁ hP hst₁ hk₁ => ?_
    obtain ⟨F₁, N₁⟩ := next h₁ hk₁
    obtain ⟨t, rfl⟩ := hP
    refine wpAny_assign_Name (wpAny_storeName_local hx F₁.ns (fun h₂ hn₂ hs₂ => ?_) hp)
    have F₂ := F₁.set hn₂ hs₂
    have hst₂ := W.frame _ _ _ hst₁ fun b hb o e => (hs₂.2 b fun q => hI (q.symm.trans (List.mem_singleton.mp hb))).trans e
    have e1 : (0 : Int) + (i : Int) * 1 = (i : Int) := by lia
    have hI2 : h₂.get? I = some (itR ((i + 1 : Nat) : Int) ((n : Int) - ((i + 1 : Nat) : Int))) := by
      have q : IsRangeIter h₂ I (0 + ((i + 1 : Nat) : Int) * 1) ((n : Int) - ((i + 1 : Nat) : Int)) 1 := hst₂
      have e2 : (0 : Int) + ((i + 1 : Nat) : Int) * 1 = ((i + 1 : Nat) : Int) := by lia
      rw [e2] at q
      exact q
    have hkk : n - i = (n - (i + 1)) + 1 := by lia
    rw [hkk] at hJ
    rw [e1] at F₂
    have N₂ : News g' env.locals h₂ ((I, itR ((i + 1 : Nat) : Int) ((n : Int) - ((i + 1 : Nat) : Int))) :: news') := fun p hp => by
      rcases List.mem_cons.mp hp with rfl | hp
      · exact ⟨hI2, hI.symm, hg'⟩
      · exact (N₁.set hs₂) p hp
    refine wpAny_mono (hEE _ (hJ t h₂ _ F₂ N₂)) (fun f s₃ h₃ => ?_) fun _ _ e => e
    have fin : TurnPost env.locals s I (itR ((i + 1 : Nat) : Int) ((n : Int) - ((i + 1 : Nat) : Int))) (TurnRest prog w A E env x body Q s I n (n - (i + 1)) (i + 1)) Q .next s₃ →
        ∃ k', k' < n + 1 - i ∧ TInv prog w A E env x body Q s I n k' s₃ := by
      rintro ⟨g'', h'', tk'', m'', news'', rfl, F'', N'', ho, J''⟩
      have hm := N'' _ (.head _)
      refine ⟨n + 1 - (i + 1), by lia, h'', tk'', g'', m'', news'', i + 1, rfl, ?_, hm.2.2, F'', fun p hp => N'' p (.tail _ hp), ho, J'', hlt, rfl⟩
      have e2 : (0 : Int) + ((i + 1 : Nat) : Int) * 1 = ((i + 1 : Nat) : Int) := by lia
      rw [e2]
      exact hm.1
    cases f with
    | ret v => exact hR _ _ h₃
    | brk => exact hR _ _ h₃
    | cont => exact fin h₃
    | next => exact fin h₃
  · have hin : i = n := by lia
    subst hin
    refine W.done _ _ _ hst' fun h₁ tk₁ hk₁ => wpAny_execs_nil ?_
    obtain ⟨F₁, N₁⟩ := next h₁ hk₁
    rw [Nat.sub_self] at hJ
    exact hR _ _ (hJ h₁ tk₁ F₁ N₁)
end
noncomputable def LoopAtT (prog : Program) (w : World) (A : Around) (env : Env) (x : Str) (body : List Stmt) (Q : Flow → Shared → Prop) (E : Value → Shared → Prop) (it : Value) (s₂ : Shared) : Prop :=
  ∃ (I : Addr) (n : Nat) (g : Heap) (m : Str → Option Value) (news : List (Addr × Obj)), it = .ref I ∧ env.locals ≠ I ∧ g.get? I = none ∧ IsRangeIter s₂.heap I 0 (n : Int) 1 ∧ Fr g env.locals s₂.heap m ∧ News g env.locals s₂.heap news ∧ (∀ p ∈ news, p.1 ≠ I) ∧ TurnRest prog w A E env x body Q s₂ I n n 0 g m news
section
variable {prog : Program} {w : World} {A : Around} {s : Shared} {env : Env}
theorem For_T {E : Value → Shared → Prop} {Q : Flow → Shared → Prop} {x : Str} {px pos : Pos} {iter : PySem.Expr} {body : List Stmt} (hh : A.handled = none) (hx : env.kindOf x = some .local)
    (hp : (env.scope.kind == .class || (env.scope.kind == .module && env.locals != env.globals)) = false)
    (h : wpAny (model prog w) A (eval iter env) (fun xv s₁ => wpAny (model prog w) A (pyIter xv) (fun it s₂ => LoopAtT prog w A env x body Q E it s₂) E s₁) E s)
    (hs : ∀ x, foldedSetIterable iter env x = pure x := by intro _; rfl)
    (hE : PassesOwn (model prog w) A env E := by passes_own) :
    wpAny (model prog w) A (exec (.For (.Name x px) iter body [] pos) env) Q E s := by
  refine wpAny_For (wpAny_mono h (fun xv s₁ h₁ => wpAny_mono h₁ (fun it s₂ h₂ => ?_) fun _ _ e => e) fun _ _ e => e) hs
  obtain ⟨I, n, g, m, news, rfl, hI, hgI, hst, F, N, hnI, J⟩ := h₂
  exact turn_loop (R := fun r s' => match r with | .ok f => Q f s' | .error e => cameBackBy (model prog w) A env E e s') hh hx hp hI hgI hst F N hnI (fun _ h => wpAny_passesOwn hE h) (fun _ _ q => q) J
theorem iter_T {E : Value → Shared → Prop} {Q : Flow → Shared → Prop} {x : Str} {body : List Stmt} {r : Addr} {t₀ u₀ v₀ : Tok} {n : Nat} {g : Heap} {m : Str → Option Value} {news : List (Addr × Obj)}
    (hr : IsRange s.heap r 0 (n : Int) 1 t₀ u₀ v₀) (hsmall : Builtin.Range.small 0 (n : Int) 1 = true) (hn : Builtin.Range.rangeSize 0 (n : Int) 1 = (n : Int)) (F : Fr g env.locals s.heap m) (N : News g env.locals s.heap news)
    (J : ∀ I s₂, (∀ p ∈ news, p.1 < I) → (∃ h, s₂ = { s with heap := h }) → TurnRest prog w A E env x body Q s₂ I n n 0 g m news) :
    wpAny (model prog w) A (pyIter (.ref r)) (fun it s₂ => LoopAtT prog w A env x body Q E it s₂) E s := by
  refine wpAny_pyIter_range hr hsmall ?_
  refine ⟨_, n, g, m, news, rfl, ?_, next_is_new F, (by show IsRangeIter _ _ _ _ _; rw [hn]; exact Heap.get?_push_size _ rfl), F.push _, (fun p hp => ⟨Heap.get?_push_of_some _ (N p hp).1, (N p hp).2⟩), fun p hp => Nat.ne_of_lt (Heap.lt_size (N p hp).1), J _ _ (fun p hp => Heap.lt_size (N p hp).1) ⟨_, rfl⟩⟩
  exact Nat.ne_of_lt F.ns.lt
end
end Mine
end
section
open PySem PySem.W PyProof.Rows
namespace Mine
open PySem.Builtin.Int (intBits)
open PySem.Spec PyProof.V PySem.Calls
theorem codeAmong_snoc2 {pos q : Pos} {c : Value} (l : List Value) (h : TriplesOk l) :
    codeAmong pos (l ++ [rawInt q.line, rawInt q.col, c]) = (match codeAmong pos l with | some x => some x | none => if q.line = pos.line ∧ q.col = pos.col then some c else none) := by
  fun_induction TriplesOk l with
  | case1 => simp [codeAmong, rawInt, Int.ofNat_inj]
  | case2 a t b u x rest ih =>
    simp only [List.cons_append, codeAmong]
    split
    · rfl
    · exact ih h
  | case3 l h1 h2 => exact h.elim
/-- every code in the table is a code of this name, at hand in the ledger -/
noncomputable def TabOk (qual : Str) (ps : Array Value) (news : List (Addr × Obj)) : Prop :=
  TriplesOk ps.toList ∧ ∀ pos : Pos, codeAmong pos ps.toList = none ∨ ∃ c oc vs t, codeAmong pos ps.toList = some (.ref c) ∧ (c, oc) ∈ news ∧ oc.data = .fields vs ∧ vs[1]? = some (.str qual t)
theorem TabOk.nil {qual : Str} {news : List (Addr × Obj)} : TabOk qual #[] news := ⟨trivial, fun _ => .inl rfl⟩
theorem TabOk.sub {qual : Str} {ps : Array Value} {news news' : List (Addr × Obj)} (h : TabOk qual ps news) (hs : ∀ p ∈ news, p ∈ news') : TabOk qual ps news' := by
  refine ⟨h.1, fun pos => (h.2 pos).imp id fun z => ?_⟩
  obtain ⟨c, oc, vs, t, a, b, d, e⟩ := z
  exact ⟨c, oc, vs, t, a, hs _ b, d, e⟩
theorem TabOk.snoc {qual : Str} {ps : Array Value} {news : List (Addr × Obj)} {q : Pos} {c : Addr} {oc : Obj} {vs : Array Value} {t : Tok} (h : TabOk qual ps news) (hd : oc.data = .fields vs) (hv : vs[1]? = some (.str qual t)) :
    TabOk qual (ps ++ #[rawInt q.line, rawInt q.col, .ref c]) ((c, oc) :: news) := by
  have e : (ps ++ #[rawInt q.line, rawInt q.col, .ref c]).toList = ps.toList ++ [rawInt q.line, rawInt q.col, .ref c] := by simp
  refine ⟨by rw [e]; exact TriplesOk_snoc _ _ _ _ h.1, fun pos => ?_⟩
  rw [e, codeAmong_snoc2 _ h.1]
  rcases h.2 pos with z | ⟨c₂, oc₂, vs₂, t₂, a, b, d, e⟩
  · rw [z]
    by_cases hq : q.line = pos.line ∧ q.col = pos.col
    · exact .inr ⟨c, oc, vs, t, by rw [if_pos hq], .head _, hd, hv⟩
    · exact .inl (by rw [if_neg hq])
  · rw [a]
    exact .inr ⟨c₂, oc₂, vs₂, t₂, rfl, .tail _ b, d, e⟩
theorem mk_lam {M : Model} {A : Around} {E : Value → Shared → Prop} {s : Shared} {h₀ : Heap} {L a c P : Addr} {m mg mb : Str → Option Value} {cn : Str} {cs : Scope} {ccd : Value} {cl : List (Str × Addr)} {rest codes : List (Addr × Obj)}
  {p : Program} {loose : List Str} {mean : ExcName → Option Value} {params : Arguments} {body : PySem.Expr} {scope : Scope} {ps : Array Value} {pos : Pos} {clos : List (Str × Addr)} {Q : Value → Shared → Prop}
    (F : Fr h₀ L s.heap m) (N : News h₀ L s.heap ((P, tabObj ps) :: rest)) (T : Top p loose mean mg mb h₀) (C : CodeHd h₀ c P) (hcd : ccd = .ref c) (off : ∀ q ∈ rest, q.1 ≠ P) (hsub : ∀ p ∈ codes, p ∈ rest) (K : TabOk ((envX cn cs L a ccd cl).qual ++ "<lambda>") ps codes)
    (hdef : defaultsOf params (envX cn cs L a ccd cl) = ([], [])) (hcl : closureFor scope (envX cn cs L a ccd cl) = pure clos)
    (h : ∀ f c' oc vs t ctv h' tk ps', Fr h₀ L h' m →
      News h₀ L h' ((f, kla_obj "<lambda>" ((envX cn cs L a ccd cl).qual ++ "<lambda>") params body scope clos ((mg "__name__").getD .none) c' ctv) :: (P, tabObj ps') :: (c', oc) :: rest) →
      oc.data = .fields vs → vs[1]? = some (.str ((envX cn cs L a ccd cl).qual ++ "<lambda>") t) → TabOk ((envX cn cs L a ccd cl).qual ++ "<lambda>") ps' ((c', oc) :: codes) → (∀ q ∈ (c', oc) :: rest, q.1 ≠ P) →
      ((∀ q ∈ rest, q.1 < c') ∨ (c', oc) ∈ codes) → (∀ q ∈ rest, q.1 < f) → Q (.ref f) { s with heap := h', toks := tk }) :
    wpAny M A (eval (.Lambda params body scope pos) (envX cn cs L a ccd cl)) Q E s := by
  refine kla_eval hdef ?_
  rcases K.2 pos with z | ⟨c₂, oc₂, vs₂, t₂, ha, hb, hd, he⟩
  · refine kla_nest F N T C hcd (UpdF.head off) K.1 z hcl fun f c' oc vs t ctv h' tk F' N' hd hv l1 l2 => ?_
    refine h f c' oc vs t ctv h' tk _ F' ?_ hd hv (K.snoc (q := pos) hd hv) ?_ (.inl fun q hq => l1 q (.tail _ hq)) fun q hq => Nat.lt_trans (l1 q (.tail _ hq)) l2
    · exact news_c N' mh (news_c N' (mt (mt mh)) (news_c N' (mt mh) (news_sub N' fun q hq => mt (mt (mt hq)))))
    · exact off_cons (Nat.ne_of_gt (l1 _ (.head _))) off
  · refine kla_hit F N T C hcd (.head _) K.1 ha hcl fun f ctv h' tk F' N' l1 => ?_
    have hb2 := hsub _ hb
    refine h f c₂ oc₂ vs₂ t₂ ctv h' tk ps F' ?_ hd he (K.sub fun q hq => .tail _ hq) ?_ (.inr hb) fun q hq => l1 q (.tail _ hq)
    · exact news_c N' mh (news_c N' (mt mh) (news_c N' (mt (mt hb2)) (news_sub N' fun q hq => mt (mt hq))))
    · exact off_cons (off _ hb2) off
theorem ClRN.toT {w : World} {mean : ExcName → Option Value} {mg mb : Str → Option Value} {f : Addr} {dep : Nat} {vs : List Value} {news : List (Addr × Obj)} {R : Tok → Value} (h : ClRN w mean mg mb f dep vs news R) : ClT w mean mg mb f dep vs news R := by
  intro dp un gd cn cs a ccd cl outer A₀ base h₀ L m s Q E B F X N T hk XB TB D hdp hun hret
  refine h dp un gd cn cs a ccd cl outer A₀ base h₀ L m s Q E B F X N T hk hdp hun ?_
  intro t h' tk' F' N'
  exact hret t h₀ h' tk' KtsTurn.refl F' N' B X T D
end Mine
end
section
open PySem PySem.W PyProof.Rows
namespace Mine
open PySem.Builtin.Int (intBits)
section
set_option maxRecDepth 100000 in
set_option maxHeartbeats 8000000 in
theorem c_worths {w : World} {mean : ExcName → Option Value} {mg mb : Str → Option Value}
    (dp un : Nat) (gd : Option (List Code)) (cn : Str) (cs : Scope) (a : Addr) (ccd : Value) (cl : List (Str × Addr)) (outer : List Env) (A₀ : Around) (base h₀ : Heap) (L : Addr) (m : Str → Option Value) (news : List (Addr × Obj)) (s : Shared) (Q E : Value → Shared → Prop)
    (B : Below A₀ base outer h₀) (F : Fr h₀ L s.heap m) (X : (hd.heap_39 w.params).In h₀) (N : News h₀ L s.heap news) (T : Top topProg LS mean mg mb h₀) (hk : cs.kind = .function)
    (hdp : dp + 4 < recursionLimit) (hun : un + 8 * 4 < cLine)
    (hret : ∀ d vals h' tk', Fr h₀ L h' m → News h₀ L h' ((d, W.listOf vals.toArray 0) :: news) → IntsAre vals wsL → (∀ p ∈ news, p.1 < d) → Q (.ref d) { s with heap := h', toks := tk' }) :
    wpAny (model PySem.Challenge.rw_pq0913_01.row.prog w) (ktrTop dp un gd cn cs L a ccd cl outer) (call (.ref 124) []) Q E s := by
  k_with_none; w_top off
  k_with "@bits" => with_reducible assumption
  k_with "@bits" => ((with_reducible apply Mine.bits_divd); bits_by_make)
  k_with "@bits" => ((with_reducible apply Mine.bits_prod) <;> bits_by_make)
  k_with "@binaryOp FloorDiv int int" => (k_here; (with_reducible refine floordiv_int ?kbe ?_ (Or.inl ?kbp)); (case kbe => first | omega | (split <;> omega) | k_dflt (have q9 := Mine.GwOk.kb (by assumption); omega) | k_dflt (have q9 := Mine.SqOk.pos (by assumption); omega)); (case kbp => ((with_reducible apply Mine.py_of_bits); (bits_by_make); decide)))
  k_with "@callWith ref" => (k_here; k_dflt (first | (refine' callWith_K ?k1 ?k2 ?_; (case k1 => with_reducible assumption); (case k2 => k_is); k_whole) | (refine' callWith_K0 ?k1 ?k2 ?_; (case k1 => exact Frag.In.keeps (by with_reducible assumption) (Fr.keep (by with_reducible assumption))); (case k2 => k_is); k_whole)))
  k_with "@execs nil" => (with_reducible refine wpAny_execs_nil ?_)
  k_with "@bits_fit" => ((with_reducible apply Mine.bits_le'); (bits_by_make); decide)
  k_with "@bits" => with_reducible exact Mine.bits_F36
  k_with "@bits" => with_reducible exact Mine.bits_S50
  k_with "@binaryOp Pow int int" => (k_here; (with_reducible refine pow_int_small ?kb1 ?kb2 ?kb3 ?_); (case kb1 => decide); (case kb2 => decide); (case kb3 => decide))
  revert X; k_fill; intro X
  refine wpAny_call ?_
  k_dflt cell_enter
  k_steps
  all_goals
    have e15 : (10 : Int) ^ Int.toNat 15 + 7 = 1000000000000007 := by decide +kernel
    refine hret _ _ _ _ (by k_asm) (by k_asm) ?_ ?_
    · rw [e15]; unfold wsL; repeat' first | exact IntsAre.nil | refine IntsAre.cons _ _ ?_
    · first | assumption | k_asm
set_option maxRecDepth 100000 in
set_option maxHeartbeats 8000000 in
theorem c_expos {w : World} {mean : ExcName → Option Value} {mg mb : Str → Option Value}
    (dp un : Nat) (gd : Option (List Code)) (cn : Str) (cs : Scope) (a : Addr) (ccd : Value) (cl : List (Str × Addr)) (outer : List Env) (A₀ : Around) (base h₀ : Heap) (L : Addr) (m : Str → Option Value) (news : List (Addr × Obj)) (s : Shared) (Q E : Value → Shared → Prop)
    (B : Below A₀ base outer h₀) (F : Fr h₀ L s.heap m) (X : (hd.heap_39 w.params).In h₀) (N : News h₀ L s.heap news) (T : Top topProg LS mean mg mb h₀) (hk : cs.kind = .function)
    (hdp : dp + 4 < recursionLimit) (hun : un + 8 * 4 < cLine)
    (hret : ∀ d vals h' tk', Fr h₀ L h' m → News h₀ L h' ((d, W.listOf vals.toArray 0) :: news) → IntsAre vals esL → (∀ p ∈ news, p.1 < d) → Q (.ref d) { s with heap := h', toks := tk' }) :
    wpAny (model PySem.Challenge.rw_pq0913_01.row.prog w) (ktrTop dp un gd cn cs L a ccd cl outer) (call (.ref 131) []) Q E s := by
  k_with_none; w_top off
  k_with "@bits" => with_reducible assumption
  k_with "@bits" => ((with_reducible apply Mine.bits_divd); bits_by_make)
  k_with "@bits" => ((with_reducible apply Mine.bits_prod) <;> bits_by_make)
  k_with "@binaryOp FloorDiv int int" => (k_here; (with_reducible refine floordiv_int ?kbe ?_ (Or.inl ?kbp)); (case kbe => first | omega | (split <;> omega) | k_dflt (have q9 := Mine.GwOk.kb (by assumption); omega) | k_dflt (have q9 := Mine.SqOk.pos (by assumption); omega)); (case kbp => ((with_reducible apply Mine.py_of_bits); (bits_by_make); decide)))
  k_with "@callWith ref" => (k_here; k_dflt (first | (refine' callWith_K ?k1 ?k2 ?_; (case k1 => with_reducible assumption); (case k2 => k_is); k_whole) | (refine' callWith_K0 ?k1 ?k2 ?_; (case k1 => exact Frag.In.keeps (by with_reducible assumption) (Fr.keep (by with_reducible assumption))); (case k2 => k_is); k_whole)))
  k_with "@execs nil" => (with_reducible refine wpAny_execs_nil ?_)
  k_with "@bits_fit" => ((with_reducible apply Mine.bits_le'); (bits_by_make); decide)
  k_with "@bits" => with_reducible exact Mine.bits_F36
  k_with "@bits" => with_reducible exact Mine.bits_S50
  k_with "@binaryOp Pow int int" => (k_here; (with_reducible refine pow_int_small ?kb1 ?kb2 ?kb3 ?_); (case kb1 => decide); (case kb2 => decide); (case kb3 => decide))
  revert X; k_fill; intro X
  refine wpAny_call ?_
  k_dflt cell_enter
  k_steps
  all_goals
    refine hret _ _ _ _ (by k_asm) (by k_asm) ?_ ?_
    · unfold esL; repeat' first | exact IntsAre.nil | refine IntsAre.cons _ _ ?_
    · first | assumption | k_asm
end
end Mine
end
section
open PySem PySem.W PyProof.Rows
namespace Mine
open PySem.Builtin.Int (intBits)
/-- a mark at which the walk stops -/
noncomputable def Stop (p : Prop) : Prop := p
theorem Stop.mk {p : Prop} (h : Stop p) : p := h
noncomputable def Gone : Prop := True
theorem c_next1 {w : World} {mean : ExcName → Option Value} {mg mb : Str → Option Value} (x : Addr × Obj) (Dh Ds : Addr) (vs : List Value) (ns : List Int) (hI : IntsAre vs ns) (hlen : ns.length ≤ 40) (k : Int) (hk0 : 0 ≤ k) (hk1 : k ≤ 1000) (tk : Tok) (many : Int) (tm : Tok) (hm : 0 < many) (hm2 : many ≤ 2000000) (rest : List (Addr × Obj)) (hne : ∀ p ∈ (Ds, W.listOf vs.toArray 0) :: rest, p.1 ≠ Dh)
    (dp un : Nat) (gd : Option (List Code)) (cn : Str) (cs : Scope) (a : Addr) (ccd : Value) (cl : List (Str × Addr)) (outer : List Env) (A₀ : Around) (base h₀ : Heap) (L : Addr) (m : Str → Option Value) (s : Shared) (Q E : Value → Shared → Prop)
    (B : Below A₀ base outer h₀) (F : Fr h₀ L s.heap m) (X : (hd.heap_39 w.params).In h₀) (N : News h₀ L s.heap (x :: (Dh, handObj Ds k tk) :: (Ds, W.listOf vs.toArray 0) :: rest)) (l1 : ∀ p ∈ (Dh, handObj Ds k tk) :: (Ds, W.listOf vs.toArray 0) :: rest, p.1 < x.1) (T : Top topProg LS mean mg mb h₀) (hk : cs.kind = .function)
    (hdp : dp + 4 < recursionLimit) (hun : un + 8 * 4 < cLine)
    (hret : ∀ r t tk2 h' tk', 0 ≤ r → r < many → Fr h₀ L h' m → News h₀ L h' (x :: (Dh, handObj Ds (k + 1) tk2) :: (Ds, W.listOf vs.toArray 0) :: rest) → Q (.int r t) { s with heap := h', toks := tk' }) :
    wpAny (model PySem.Challenge.rw_pq0913_01.row.prog w) (ktrTop dp un gd cn cs L a ccd cl outer) (call (.ref 138) [.ref Dh, .int many tm]) Q E s := by
  refine c_next Dh Ds vs ns hI hlen k hk0 hk1 tk many tm hm hm2 (x :: rest) ?_ dp un gd cn cs a ccd cl outer A₀ base h₀ L m s Q E B F X ?_ T hk hdp hun ?_
  · exact all_c (hne _ mh) (all_c (Nat.ne_of_gt (l1 _ mh)) fun p hp => hne p (.tail _ hp))
  · exact news_sub N (by with_reducible repeat' (first | exact Mine.sub_rfl | refine Mine.sub_c ?_ ?_ | exact Mine.mh | refine Mine.mt ?_ | refine Mine.sub_tl ?_))
  · intro r t tk2 h' tk' r0 r1 F' N'
    exact hret r t tk2 h' tk' r0 r1 F' (news_sub N' (by with_reducible repeat' (first | exact Mine.sub_rfl | refine Mine.sub_c ?_ ?_ | exact Mine.mh | refine Mine.mt ?_ | refine Mine.sub_tl ?_)))
theorem reord {g : Heap} {L : Addr} {h : Heap} {a b c d e : Addr × Obj} {rest : List (Addr × Obj)} (N : News g L h ([a, b] ++ c :: d :: e :: rest)) : News g L h (c :: d :: e :: a :: b :: rest) := news_sub (l' := a :: b :: c :: d :: e :: rest) N (by with_reducible repeat' (first | exact Mine.sub_rfl | refine Mine.sub_c ?_ ?_ | exact Mine.mh | refine Mine.mt ?_ | refine Mine.sub_tl ?_))
theorem ne_five {Ds Dh a b c : Addr} {o1 o2 o3 o4 : Obj} {rest : List (Addr × Obj)} (h1 : Ds ≠ Dh) (h2 : a ≠ Dh) (h3 : b ≠ Dh) (h4 : c ≠ Dh) (h5 : ∀ p ∈ rest, p.1 ≠ Dh) : ∀ p ∈ (Ds, o1) :: (a, o2) :: (b, o3) :: (c, o4) :: rest, p.1 ≠ Dh := off_cons h1 (off_cons h2 (off_cons h3 (off_cons h4 h5)))
theorem news_tl {h₀ : Heap} {L : Addr} {h : Heap} {x : Addr × Obj} {l : List (Addr × Obj)} (N : News h₀ L h (x :: l)) : News h₀ L h l := fun p hp => N p (.tail _ hp)
theorem item_in {prog : Program} {w : World} {A : Around} {E : Value → Shared → Prop} {s : Shared} {value slice : PySem.Expr} {h₀ : Heap} {L d : Addr} {rest : List (Addr × Obj)} {vals : List Value} {ns : List Int} {r many : Int} {u : Tok} {Q : Value → Shared → Prop}
    (N : News h₀ L s.heap ((d, W.listOf vals.toArray 0) :: rest)) (hi : IntsAre vals ns) (h0 : 0 ≤ r) (h1 : r < many) (hm : many ≤ ns.length) (hf : many ≤ 100) (h : ∀ v t, v ∈ ns → Q (.int v t) s)
    (hs : subscripted slice false (.ref d) (.int r u) = operate [.ref d, .int r u] (getItem (.ref d) (.int r u)) := by with_unfolding_all rfl) :
    wpAny (model prog w) A (subscriptTail value slice (.ref d) (.int r u)) Q E s := by
  have hl : r < ns.length := by lia
  have e63 : (2 : Int) ^ 63 = 9223372036854775808 := by decide
  have hfit : r < 2 ^ 63 := by rw [e63]; lia
  refine item_list_intsR (News.isList N (.head _)) hi h0 hl hfit (fun t => h _ t ?_) hs
  have hlt : r.toNat < ns.length := by lia
  have e := ints_getD h0 hl
  exact List.mem_of_getElem? e
end Mine
end
section
open PySem PySem.W PyProof.Rows
namespace Mine
open PySem.Builtin.Int (intBits)
open PySem.Spec PyProof.V PySem.Calls
theorem turnRest_ind {prog : Program} {w : World} {A : Around} {s : Shared} {env : Env} {E : Value → Shared → Prop} {Q : Flow → Shared → Prop} {x : Str} {body : List Stmt} {I : Addr} {n : Nat} (C : Nat → Heap → (Str → Option Value) → List (Addr × Obj) → Prop)
    (step : ∀ i g m news t h tk, i < n → C i g m news → Fr g env.locals h (fun y => if y = x then some (.int (i : Int) t) else m y) → News g env.locals h ((I, itR ((i + 1 : Nat) : Int) ((n : Int) - ((i + 1 : Nat) : Int))) :: news) →
      wpAny (model prog w) A (execs body env) (TurnPost env.locals s I (itR ((i + 1 : Nat) : Int) ((n : Int) - ((i + 1 : Nat) : Int))) (C (i + 1)) Q) E { s with heap := h, toks := tk })
    (fin : ∀ g m news h tk, C n g m news → Fr g env.locals h m → News g env.locals h news → Q .next { s with heap := h, toks := tk }) :
    ∀ k i, i + k = n → ∀ g m news, C i g m news → TurnRest prog w A E env x body Q s I n k i g m news
  | 0, i, hi, g, m, news, hC => by
    obtain rfl : i = n := hi
    exact fun h tk F N => fin g m news h tk hC F N
  | k + 1, i, hi, g, m, news, hC => by
    intro t h tk F N
    refine wpAny_mono (step i g m news t h tk (by lia) hC F N) (fun f s₂ p => ?_) fun _ _ e => e
    have up : (∃ g' h' tk m' news', s₂ = { s with heap := h', toks := tk } ∧ Fr g' env.locals h' m' ∧ News g' env.locals h' ((I, itR ((i + 1 : Nat) : Int) ((n : Int) - ((i + 1 : Nat) : Int))) :: news') ∧ (∀ p ∈ news', p.1 ≠ I) ∧ C (i + 1) g' m' news') →
        ∃ g' h' tk m' news', s₂ = { s with heap := h', toks := tk } ∧ Fr g' env.locals h' m' ∧ News g' env.locals h' ((I, itR ((i + 1 : Nat) : Int) ((n : Int) - ((i + 1 : Nat) : Int))) :: news') ∧ (∀ p ∈ news', p.1 ≠ I) ∧ TurnRest prog w A E env x body Q s I n k (i + 1) g' m' news' := by
      rintro ⟨g', h', tk, m', news', e, F', N', ho, r⟩
      exact ⟨g', h', tk, m', news', e, F', N', ho, turnRest_ind C step fin k (i + 1) (by lia) _ _ _ r⟩
    cases f with
    | ret v => exact p
    | brk => exact p
    | next => exact up p
    | cont => exact up p
theorem codeHd_turn {fs : List Addr} {g g' : Heap} {c P : Addr} (C : CodeHd g c P) (T : KtsTurn fs g g') : CodeHd g' c P := by
  unfold CodeHd at *
  obtain ⟨o, vs, file, tf, flags, tg, inF, text, tt, h0, h⟩ := C
  obtain ⟨sl, hs⟩ := T.up h0
  exact ⟨_, vs, file, tf, flags, tg, inF, text, tt, hs, h⟩
/-- a code of a lambda of _law_powers_right -/
noncomputable def IsLc (o : Obj) : Prop := ∃ vs t, o.data = .fields vs ∧ vs[1]? = some (.str "_law_powers_right.<locals>.<lambda>" t)
/-- the state of _law_powers_right between the turns of its loop -/
structure PrAt (w : World) (mean : ExcName → Option Value) (mg mb : Str → Option Value) (A₁ : Around) (base₁ : Heap) (outer₁ : List Env) (Dh Ds : Addr) (vs : List Value) (L' : Addr) (v : Int) (tp : Tok) (k₀ : Int) (g₀ : Heap) (rest₀ : List (Addr × Obj)) (i : Nat) (g : Heap) (m : Str → Option Value) (news : List (Addr × Obj)) : Prop where
  ex : ∃ tk ps ow oe rest oev tv, news = (Dh, handObj Ds (k₀ + (i : Int)) tk) :: (Ds, W.listOf vs.toArray 0) :: (168, tabObj ps) :: (L' + 1 + 1, ow) :: (L' + 1, oe) :: rest ∧ ow.data = .cell (some (.int v tv)) ∧ oe.data = .cell oev ∧
    TabOk "_law_powers_right.<locals>.<lambda>" ps rest ∧ (∀ p ∈ rest, p.1 ≠ Dh) ∧ (∀ p ∈ rest, p.1 ≠ 168) ∧ (∀ p ∈ rest, p.1 ≠ L' + 1) ∧ (∀ p ∈ rest, p.1 ≠ L' + 1 + 1) ∧ (∀ p ∈ rest₀, p ∈ rest) ∧ (∀ p ∈ rest, p ∈ rest₀ ∨ IsLc p.2)
  hand : m "hand" = some (.ref Dh)
  part : m "part" = some (.int (llog v) tp)
  B : Below A₁ base₁ outer₁ g
  X : (hd.heap_39 w.params).In g
  T : Top topProg LS mean mg mb g
  D : KtsDicts (outer₁.filterMap (·.frame)) g
  turn : KtsTurn (outer₁.filterMap (·.frame)) g₀ g
  C : CodeHd g 172 168
theorem worth_gap2 {v : Int} (h : Worth v) (hc : (10 : Int) ^ Int.toNat 20 < (if flog v * Int.fdiv 100000000000000000000000000000000000000000000000000 1000000000000000000000000000000000000 - llog v < 0 then -(flog v * Int.fdiv 100000000000000000000000000000000000000000000000000 1000000000000000000000000000000000000 - llog v) else flog v * Int.fdiv 100000000000000000000000000000000000000000000000000 1000000000000000000000000000000000000 - llog v)) : False := by
  have := h.near
  have e : Int.fdiv 100000000000000000000000000000000000000000000000000 1000000000000000000000000000000000000 = 100000000000000 := by decide
  have e2 : (10 : Int) ^ Int.toNat 20 = 100000000000000000000 := by decide
  rw [e, e2] at hc
  split at hc <;> lia
end Mine
end
section
open PySem PySem.W PyProof.Rows
namespace Mine
open PySem.Builtin.Int (intBits)
noncomputable abbrev LIMB : Array UInt8 := #[108, 105, 109, 105, 116, 99, 104, 101, 99, 107]
noncomputable abbrev UNDB : Array UInt8 := #[117, 110, 100, 101, 102, 105, 110, 101, 100, 114, 101, 115, 117, 108, 116]
/-- what a lambda of _law_powers_right gives through _law_done -/
noncomputable def DoneB (w : World) (mean : ExcName → Option Value) (mg mb : Str → Option Value) (bd : PySem.Expr) (sc : Scope) (cl : List (Str × Addr)) (cw ce : Addr) (v e : Int) (V : Tok → Value) : Prop :=
  ∀ (f : Addr) (pm : Value) (c' : Addr) (ctv : Value) (oc : Obj) (vs : Array Value) (tq : Tok) (ow oe : Obj) (tv te : Tok) (rest : List (Addr × Obj)), oc.data = .fields vs → vs[1]? = some (.str "_law_powers_right.<locals>.<lambda>" tq) → ow.data = .cell (some (.int v tv)) → oe.data = .cell (some (.int e te)) →
    ClT w mean mg mb 159 24 [.ref f] ((f, kla_obj "<lambda>" "_law_powers_right.<locals>.<lambda>" noArgs bd sc cl pm c' ctv) :: (c', oc) :: (cw, ow) :: (ce, oe) :: rest) V
section
variable {w : World} {mean : ExcName → Option Value} {mg mb : Str → Option Value} {cw ce : Addr} {v e : Int}
theorem expo_b {e : Int} (E : Expo e) : -2 ^ 40 ≤ e ∧ e ≤ 2 ^ 40 := by
  have h1 := E.lo
  have h2 := E.hi
  have e2 : (2 : Int) ^ 40 = 1099511627776 := by decide
  rw [e2]; lia
theorem worth_b {v : Int} (W : Worth v) : -2 ^ 60 ≤ v ∧ v ≤ 2 ^ 60 ∧ -2 ^ 60 ≤ 0 - v ∧ 0 - v ≤ 2 ^ 60 := by
  have h1 := W.lo
  have h2 := W.hi
  have e2 : (2 : Int) ^ 60 = 1152921504606846976 := by decide
  rw [e2] at h2 ⊢; lia
theorem abs_pos' {v : Int} (W : Worth v) : (if v < 0 then -v else v) = v := by have := W.lo; rw [if_neg (by lia)]
theorem abs_neg' {v : Int} (W : Worth v) : (if 0 - v < 0 then -(0 - v) else 0 - v) = v := by have := W.lo; rw [if_pos (by lia)]; lia
theorem d1_int (W : Worth v) (E : Expo e) {x : Int} (hx : fpow (divd (flog v * e) 1000000) = some x) (p1 p2 p3 p4 : Pos) :
    DoneB w mean mg mb (bd1 p1 p2 p3 p4) scW [("worth", cw), ("exponent", ce)] cw ce v e (fun t => .int x t) := by
  intro f pm c' ctv oc vs tq ow oe tv te rest hd1 hd2 hw he
  refine ClRN.toT (c_done_r _ _ _ _ _ _ _ _ _ _ _ _ (c_lam1_r f _ p1 p2 p3 p4 pm c' ctv oc vs tq ce cw oe ow v e tv te rest x hd1 hd2 hw he fun tv te => ?_))
  have h := c_pow_ret (w := w) (mean := mean) (mg := mg) (mb := mb) v e tv te (expo_b E).1 (expo_b E).2 E.hs (by have := W.lo; lia) (worth_b W).1 (worth_b W).2.1 (by have := W.lo; lia) (by rw [abs_pos' W]; exact W.bits) x (by rw [abs_pos' W]; exact hx)
  have e1 : (if v < 0 ∧ (e.fdiv 1000000).fmod 2 = 1 then -x else x) = x := by have := W.lo; rw [if_neg (by lia)]
  rw [e1] at h
  exact h
theorem d1_lim (W : Worth v) (E : Expo e) (hx : fpow (divd (flog v * e) 1000000) = none) (p1 p2 p3 p4 : Pos) :
    DoneB w mean mg mb (bd1 p1 p2 p3 p4) scW [("worth", cw), ("exponent", ce)] cw ce v e (fun t => .bytes LIMB t) := by
  intro f pm c' ctv oc vs tq ow oe tv te rest hd1 hd2 hw he
  refine c_done_x _ _ _ _ _ _ _ _ _ _ _ _ (c_lam1_x f _ p1 p2 p3 p4 pm c' ctv oc vs tq ce cw oe ow v e tv te rest _ hd1 hd2 hw he fun tv te => ?_)
  exact c_pow_lim (w := w) (mean := mean) (mg := mg) (mb := mb) v e tv te (expo_b E).1 (expo_b E).2 E.hs (by have := W.lo; lia) (worth_b W).1 (worth_b W).2.1 (by have := W.lo; lia) (by rw [abs_pos' W]; exact W.bits) 0 (by rw [abs_pos' W]; exact hx)
theorem d2_int (W : Worth v) (E : Expo e) (hf : e.fmod 1000000 = 0) {x : Int} (hx : fpow (divd (flog v * e) 1000000) = some x) (p1 p2 p3 p4 p5 p6 : Pos) :
    DoneB w mean mg mb (bd2 p1 p2 p3 p4 p5 p6) scW [("worth", cw), ("exponent", ce)] cw ce v e (fun t => .int (if (e.fdiv 1000000).fmod 2 = 1 then -x else x) t) := by
  intro f pm c' ctv oc vs tq ow oe tv te rest hd1 hd2 hw he
  refine ClRN.toT (c_done_r _ _ _ _ _ _ _ _ _ _ _ _ (c_lam2_r f _ p1 p2 p3 p4 p5 p6 pm c' ctv oc vs tq ce cw oe ow v e tv te rest _ hd1 hd2 hw he fun tv te => ?_))
  have h := c_pow_ret (w := w) (mean := mean) (mg := mg) (mb := mb) (0 - v) e tv te (expo_b E).1 (expo_b E).2 E.hs (by have := W.lo; lia) (worth_b W).2.2.1 (worth_b W).2.2.2 (fun _ => hf) (by rw [abs_neg' W]; exact W.bits) x (by rw [abs_neg' W]; exact hx)
  have e1 : (if 0 - v < 0 ∧ (e.fdiv 1000000).fmod 2 = 1 then -x else x) = (if (e.fdiv 1000000).fmod 2 = 1 then -x else x) := by
    have := W.lo
    have : 0 - v < 0 := by lia
    simp only [this, true_and]
  rw [e1] at h
  exact h
theorem d2_lim (W : Worth v) (E : Expo e) (hf : e.fmod 1000000 = 0) (hx : fpow (divd (flog v * e) 1000000) = none) (p1 p2 p3 p4 p5 p6 : Pos) :
    DoneB w mean mg mb (bd2 p1 p2 p3 p4 p5 p6) scW [("worth", cw), ("exponent", ce)] cw ce v e (fun t => .bytes LIMB t) := by
  intro f pm c' ctv oc vs tq ow oe tv te rest hd1 hd2 hw he
  refine c_done_x _ _ _ _ _ _ _ _ _ _ _ _ (c_lam2_x f _ p1 p2 p3 p4 p5 p6 pm c' ctv oc vs tq ce cw oe ow v e tv te rest _ hd1 hd2 hw he fun tv te => ?_)
  exact c_pow_lim (w := w) (mean := mean) (mg := mg) (mb := mb) (0 - v) e tv te (expo_b E).1 (expo_b E).2 E.hs (by have := W.lo; lia) (worth_b W).2.2.1 (worth_b W).2.2.2 (fun _ => hf) (by rw [abs_neg' W]; exact W.bits) 0 (by rw [abs_neg' W]; exact hx)
theorem d2_und (W : Worth v) (E : Expo e) (hf : e.fmod 1000000 ≠ 0) (p1 p2 p3 p4 p5 p6 : Pos) :
    DoneB w mean mg mb (bd2 p1 p2 p3 p4 p5 p6) scW [("worth", cw), ("exponent", ce)] cw ce v e (fun t => .bytes UNDB t) := by
  intro f pm c' ctv oc vs tq ow oe tv te rest hd1 hd2 hw he
  refine c_done_x _ _ _ _ _ _ _ _ _ _ _ _ (c_lam2_x f _ p1 p2 p3 p4 p5 p6 pm c' ctv oc vs tq ce cw oe ow v e tv te rest _ hd1 hd2 hw he fun tv te => ?_)
  exact c_pow_und (w := w) (mean := mean) (mg := mg) (mb := mb) (0 - v) e tv te (expo_b E).1 (expo_b E).2 E.hs (by have := W.lo; lia) hf ⟨⟩ ⟨⟩ ⟨⟩ ⟨⟩ ⟨⟩
theorem d3_int (E : Expo e) (hp : 0 < e) (p1 p2 p3 p4 : Pos) :
    DoneB w mean mg mb (bd3 p1 p2 p3 p4) scE [("exponent", ce)] cw ce v e (fun t => .int 0 t) := by
  intro f pm c' ctv oc vs tq ow oe tv te rest hd1 hd2 hw he
  refine ClRN.toT (c_done_r _ _ _ _ _ _ _ _ _ _ _ _ (c_lam3_r f _ p1 p2 p3 p4 pm c' ctv oc vs tq ce cw oe ow e te rest _ hd1 hd2 he fun tv te => ?_))
  exact c_pow_0p (w := w) (mean := mean) (mg := mg) (mb := mb) 0 e tv te (expo_b E).1 (expo_b E).2 E.hs rfl (by lia) ⟨⟩ ⟨⟩ ⟨⟩ ⟨⟩ ⟨⟩
theorem d3_und (E : Expo e) (hp : ¬ 0 < e) (p1 p2 p3 p4 : Pos) :
    DoneB w mean mg mb (bd3 p1 p2 p3 p4) scE [("exponent", ce)] cw ce v e (fun t => .bytes UNDB t) := by
  intro f pm c' ctv oc vs tq ow oe tv te rest hd1 hd2 hw he
  refine c_done_x _ _ _ _ _ _ _ _ _ _ _ _ (c_lam3_x f _ p1 p2 p3 p4 pm c' ctv oc vs tq ce cw oe ow e te rest _ hd1 hd2 he fun tv te => ?_)
  exact c_pow_0n (w := w) (mean := mean) (mg := mg) (mb := mb) 0 e tv te (expo_b E).1 (expo_b E).2 E.hs rfl (by have := E.ne; lia) ⟨⟩ ⟨⟩ ⟨⟩ ⟨⟩ ⟨⟩
end
theorem ClT.use {w : World} {mean : ExcName → Option Value} {mg mb : Str → Option Value} {f : Addr} {dep : Nat} {vs : List Value} {R : Tok → Value}
    {dp un : Nat} {gd : Option (List Code)} {cn : Str} {cs : Scope} {a : Addr} {ccd : Value} {cl : List (Str × Addr)} {outer : List Env} {A₀ : Around} {base h₀ : Heap} {L : Addr} {m : Str → Option Value} {news : List (Addr × Obj)} {s : Shared} {Q E : Value → Shared → Prop}
    (C : ClT w mean mg mb f dep vs news R) (B : Below A₀ base outer h₀) (F : Fr h₀ L s.heap m) (X : (hd.heap_39 w.params).In h₀) (N : News h₀ L s.heap news) (T : Top topProg LS mean mg mb h₀) (hk : cs.kind = .function)
    (XB : (hd.heap_39 w.params).In base) (TB : Top topProg LS mean mg mb base) (D : KtsDicts (outer.filterMap (·.frame)) h₀)
    (hd : dp + dep < recursionLimit) (hu : un + 8 * dep < cLine)
    (ret : ∀ t h₀' h' tk', KtsTurn (outer.filterMap (·.frame)) h₀ h₀' → Fr h₀' L h' m → News h₀' L h' news → Below A₀ base outer h₀' → (Mine.hd.heap_39 w.params).In h₀' → Top topProg LS mean mg mb h₀' → KtsDicts (outer.filterMap (·.frame)) h₀' → Q (R t) { s with heap := h', toks := tk' }) :
    wpAny (model PySem.Challenge.rw_pq0913_01.row.prog w) (ktrTop dp un gd cn cs L a ccd cl outer) (call (.ref f) vs) Q E s :=
  C _ _ _ _ _ _ _ _ _ _ _ _ _ _ _ _ _ B F X N T hk XB TB D hd hu ret
end Mine
end
section
open PySem PySem.W PyProof.Rows
namespace Mine
open PySem.Builtin.Int (intBits)
open PySem.Spec PyProof.V PySem.Calls
/-- what is known of the ledger of _law_powers_right -/
structure Led (Dh Ds cw ce : Addr) (ps : Array Value) (ow oe : Obj) (v e : Int) (rest : List (Addr × Obj)) : Prop where
  hne : Ds ≠ Dh
  d1 : Dh ≠ 168
  d2 : Ds ≠ 168
  d3 : cw ≠ 168
  d4 : ce ≠ 168
  w1 : Dh ≠ cw
  w2 : Ds ≠ cw
  w3 : ce ≠ cw
  e1 : Dh ≠ ce
  e2 : Ds ≠ ce
  o1 : ∀ p ∈ rest, p.1 ≠ Dh
  o2 : ∀ p ∈ rest, p.1 ≠ 168
  o3 : ∀ p ∈ rest, p.1 ≠ ce
  o4 : ∀ p ∈ rest, p.1 ≠ cw
  K : TabOk "_law_powers_right.<locals>.<lambda>" ps rest
  dw : ∃ t, ow.data = .cell (some (.int v t))
  de : ∃ t, oe.data = .cell (some (.int e t))
theorem mk_lam2 {M : Model} {A : Around} {E : Value → Shared → Prop} {s : Shared} {h₀ : Heap} {L a Dh Ds cw ce : Addr} {m mg mb : Str → Option Value} {cn : Str} {cs : Scope} {cl : List (Str × Addr)} {rest : List (Addr × Obj)}
  {p : Program} {loose : List Str} {mean : ExcName → Option Value} {params : Arguments} {body : PySem.Expr} {scope : Scope} {ps : Array Value} {pos : Pos} {clos : List (Str × Addr)} {Q : Value → Shared → Prop} {oh os ow oe : Obj} {v e : Int}
    (F : Fr h₀ L s.heap m) (N : News h₀ L s.heap ((Dh, oh) :: (Ds, os) :: (168, tabObj ps) :: (cw, ow) :: (ce, oe) :: rest)) (T : Top p loose mean mg mb h₀) (C : CodeHd h₀ 172 168) (LD : Led Dh Ds cw ce ps ow oe v e rest)
    (hq : (envX cn cs L a (.ref 172) cl).qual ++ "<lambda>" = "_law_powers_right.<locals>.<lambda>") (hdef : defaultsOf params (envX cn cs L a (.ref 172) cl) = ([], [])) (hcl : closureFor scope (envX cn cs L a (.ref 172) cl) = pure clos)
    (h : ∀ f c' oc vs t ctv h' tk ps', Fr h₀ L h' m →
      News h₀ L h' ((f, kla_obj "<lambda>" "_law_powers_right.<locals>.<lambda>" params body scope clos ((mg "__name__").getD .none) c' ctv) :: (c', oc) :: (cw, ow) :: (ce, oe) :: (168, tabObj ps') :: (Dh, oh) :: (Ds, os) :: rest) →
      oc.data = .fields vs → vs[1]? = some (.str "_law_powers_right.<locals>.<lambda>" t) → Led Dh Ds cw ce ps' ow oe v e ((c', oc) :: rest) → Q (.ref f) { s with heap := h', toks := tk }) :
    wpAny M A (eval (.Lambda params body scope pos) (envX cn cs L a (.ref 172) cl)) Q E s := by
  have N2 : News h₀ L s.heap ((168, tabObj ps) :: (Dh, oh) :: (Ds, os) :: (cw, ow) :: (ce, oe) :: rest) := news_sub N (by with_reducible repeat' (first | exact Mine.sub_rfl | refine Mine.sub_c ?_ ?_ | exact Mine.mh | refine Mine.mt ?_ | refine Mine.sub_tl ?_))
  have off : ∀ q ∈ (Dh, oh) :: (Ds, os) :: (cw, ow) :: (ce, oe) :: rest, q.1 ≠ 168 := off_cons LD.d1 (off_cons LD.d2 (off_cons LD.d3 (off_cons LD.d4 LD.o2)))
  refine mk_lam F N2 T C rfl off (fun p hp => .tail _ (.tail _ (.tail _ (.tail _ hp)))) (by rw [hq]; exact LD.K) hdef hcl fun f c' oc vs t ctv h' tk ps' F' N' hd hv K' off' hc _ => ?_
  rw [hq] at N' hv K'
  have low : ∀ b, (b = Dh ∨ b = ce ∨ b = cw) → (∀ q ∈ rest, q.1 ≠ b) → c' ≠ b := fun b hb hr => by
    rcases hc with hc | hc
    · rcases hb with rfl | rfl | rfl
      · exact Nat.ne_of_gt (hc _ (.head _))
      · exact Nat.ne_of_gt (hc _ (.tail _ (.tail _ (.tail _ (.head _)))))
      · exact Nat.ne_of_gt (hc _ (.tail _ (.tail _ (.head _))))
    · exact hr _ hc
  refine h f c' oc vs t ctv h' tk ps' F' (news_sub N' (by with_reducible repeat' (first | exact Mine.sub_rfl | refine Mine.sub_c ?_ ?_ | exact Mine.mh | refine Mine.mt ?_ | refine Mine.sub_tl ?_))) hd hv ⟨LD.hne, LD.d1, LD.d2, LD.d3, LD.d4, LD.w1, LD.w2, LD.w3, LD.e1, LD.e2, off_cons (low _ (.inl rfl) LD.o1) LD.o1, off_cons (off' _ (.head _)) LD.o2, off_cons (low _ (.inr (.inl rfl)) LD.o3) LD.o3, off_cons (low _ (.inr (.inr rfl)) LD.o4) LD.o4, K', LD.dw, LD.de⟩
theorem lam_call {w : World} {mean : ExcName → Option Value} {mg mb : Str → Option Value} {bd : PySem.Expr} {sc : Scope} {clos : List (Str × Addr)} {Dh Ds cw ce f c' : Addr} {pm ctv : Value} {oc oh os ow oe : Obj} {ps ps₀ : Array Value} {v e : Int} {V : Tok → Value} {vs : Array Value} {tq : Tok} {rest rest₀ : List (Addr × Obj)}
    {dp un : Nat} {gd : Option (List Code)} {cn : Str} {cs : Scope} {a : Addr} {ccd : Value} {cl : List (Str × Addr)} {outer : List Env} {A₀ : Around} {base h₀ : Heap} {L : Addr} {m : Str → Option Value} {s : Shared} {Q E : Value → Shared → Prop}
    (N : News h₀ L s.heap ((f, kla_obj "<lambda>" "_law_powers_right.<locals>.<lambda>" noArgs bd sc clos pm c' ctv) :: (c', oc) :: (cw, ow) :: (ce, oe) :: (168, tabObj ps) :: (Dh, oh) :: (Ds, os) :: rest)) (hd1 : oc.data = .fields vs) (hd2 : vs[1]? = some (.str "_law_powers_right.<locals>.<lambda>" tq)) (LD : Led Dh Ds cw ce ps₀ ow oe v e rest₀)
    (HD : DoneB w mean mg mb bd sc clos cw ce v e V)
    (B : Below A₀ base outer h₀) (F : Fr h₀ L s.heap m) (X : (Mine.hd.heap_39 w.params).In h₀) (T : Top topProg LS mean mg mb h₀) (hk : cs.kind = .function)
    (XB : (Mine.hd.heap_39 w.params).In base) (TB : Top topProg LS mean mg mb base) (D : KtsDicts (outer.filterMap (·.frame)) h₀) (C : CodeHd h₀ 172 168)
    (hd : dp + 24 < recursionLimit) (hu : un + 8 * 24 < cLine)
    (ret : ∀ t h₀' h' tk', KtsTurn (outer.filterMap (·.frame)) h₀ h₀' → Fr h₀' L h' m → News h₀' L h' ((Dh, oh) :: (Ds, os) :: (168, tabObj ps) :: (cw, ow) :: (ce, oe) :: (c', oc) :: rest) → Below A₀ base outer h₀' → (Mine.hd.heap_39 w.params).In h₀' → Top topProg LS mean mg mb h₀' → KtsDicts (outer.filterMap (·.frame)) h₀' → CodeHd h₀' 172 168 → Q (V t) { s with heap := h', toks := tk' }) :
    wpAny (model PySem.Challenge.rw_pq0913_01.row.prog w) (ktrTop dp un gd cn cs L a ccd cl outer) (call (.ref 159) [.ref f]) Q E s := by
  obtain ⟨tv, hw⟩ := LD.dw
  obtain ⟨te, he⟩ := LD.de
  refine ClT.use (HD f pm c' ctv oc vs tq ow oe tv te _ hd1 hd2 hw he) B F X N T hk XB TB D hd hu fun t h₀' h' tk' kT kF kN kB kX kP kD => ?_
  refine ret t h₀' h' tk' kT kF (news_sub kN (by with_reducible repeat' (first | exact Mine.sub_rfl | refine Mine.sub_c ?_ ?_ | exact Mine.mh | refine Mine.mt ?_ | refine Mine.sub_tl ?_))) kB kX kP kD (codeHd_turn C kT)
theorem worth_llbits {v : Int} (W : Worth v) : PySem.Builtin.Int.intBits (llog v) ≤ 400 := by
  have e : llog v = flog v * 100000000000000 - (flog v * 100000000000000 - llog v) := by lia
  have h1 := bits_mul W.bits (show PySem.Builtin.Int.intBits (100000000000000 : Int) ≤ 50 from by decide)
  have h2 : PySem.Builtin.Int.intBits (flog v * 100000000000000 - llog v) ≤ 70 := intBits_le (Nat.lt_of_le_of_lt W.near (by decide))
  rw [e]
  exact Nat.le_trans (bits_sub h1 h2) (by decide)
theorem expo_bits {e : Int} (E : Expo e) : PySem.Builtin.Int.intBits e ≤ 64 := intBits_le_64 (by have := E.lo; lia) (by have := E.hi; lia)
end Mine
end
section
open PySem PySem.W PyProof.Rows
namespace Mine
open PySem.Builtin.Int (intBits)
open PySem.Spec PyProof.V PySem.Calls
theorem TabOk.drop {qual : Str} {ps : Array Value} {news news' : List (Addr × Obj)} (h : TabOk qual ps news) (hs : ∀ p ∈ news, p ∈ news' ∨ ∀ vs t, p.2.data = .fields vs → vs[1]? ≠ some (.str qual t)) : TabOk qual ps news' := by
  refine ⟨h.1, fun pos => (h.2 pos).imp id fun z => ?_⟩
  obtain ⟨c, oc, vs, t, a, b, d, e⟩ := z
  exact ⟨c, oc, vs, t, a, (hs _ b).elim id fun k => (k vs t d e).elim, d, e⟩
theorem itR_no (x l : Int) : ∀ (vs : Array Value) (q : Str) (t : Tok), (itR x l).data = .fields vs → vs[1]? ≠ some (.str q t) := by
  intro vs q t h
  unfold itR at h
  have h2 : #[rawInt x, rawInt l, rawInt 1] = vs := by injection h
  subst h2
  intro h3
  exact nomatch h3
theorem code_ne {g h : Heap} {L I c : Addr} {news : List (Addr × Obj)} {oc : Obj} {x l : Int} {vs : Array Value} {q : Str} {t : Tok} (N : News g L h news) (h1 : (I, itR x l) ∈ news) (h2 : (c, oc) ∈ news) (hd : oc.data = .fields vs) (hv : vs[1]? = some (.str q t)) : c ≠ I := by
  intro e
  have a := (N _ h1).1
  have b := (N _ h2).1
  simp only at a b
  rw [e, a] at b
  have := Option.some.inj b
  subst this
  exact itR_no x l vs q t hd hv
theorem pr_next {w : World} {mean : ExcName → Option Value} {mg mb : Str → Option Value} {A₁ : Around} {base₁ : Heap} {outer₁ : List Env} {Dh Ds : Addr} {vs : List Value} {L' : Addr} {v : Int} {tp : Tok} {k₀ : Int} {g₀ : Heap} {rest₀ : List (Addr × Obj)} {i : Nat}
    {s : Shared} {I c1 c2 c3 : Addr} {oc1 oc2 oc3 ow oS : Obj} {x l e : Int} {tk : Tok} {ps : Array Value} {rest : List (Addr × Obj)} {g1 g2 g3 gT h : Heap} {m : Str → Option Value} {vs1 vs2 vs3 : Array Value} {t1 t2 t3 : Tok} {kk : Int} {tks : Nat}
    (F : Fr gT L' h m) (N : News gT L' h ((Dh, handObj Ds kk tk) :: (Ds, W.listOf vs.toArray 0) :: (168, tabObj ps) :: (L' + 1 + 1, ow) :: (L' + 1, oS) :: (c3, oc3) :: (c2, oc2) :: (c1, oc1) :: (I, itR x l) :: rest))
    (hkk : kk = k₀ + (i : Int) + 1)
    (LD : Led Dh Ds (L' + 1 + 1) (L' + 1) ps ow oS v e ((c3, oc3) :: (c2, oc2) :: (c1, oc1) :: (I, itR x l) :: rest))
    (d1 : oc1.data = .fields vs1) (e1 : vs1[1]? = some (.str "_law_powers_right.<locals>.<lambda>" t1)) (d2 : oc2.data = .fields vs2) (e2 : vs2[1]? = some (.str "_law_powers_right.<locals>.<lambda>" t2)) (d3 : oc3.data = .fields vs3) (e3 : vs3[1]? = some (.str "_law_powers_right.<locals>.<lambda>" t3))
    (T3 : KtsTurn (outer₁.filterMap (·.frame)) g3 gT) (T2 : KtsTurn (outer₁.filterMap (·.frame)) g2 g3) (T1 : KtsTurn (outer₁.filterMap (·.frame)) g1 g2) (T0 : KtsTurn (outer₁.filterMap (·.frame)) g₀ g1)
    (n1 : Dh < I) (n2 : Ds < I) (n3 : 168 < I) (n4 : L' + 1 + 1 < I) (n5 : L' + 1 < I) (n6 : ∀ p ∈ rest, p.1 ≠ I)
    (hsub : ∀ p ∈ rest₀, p ∈ rest) (hlc : ∀ p ∈ rest, p ∈ rest₀ ∨ IsLc p.2) (hand : m "hand" = some (.ref Dh)) (part : m "part" = some (.int (llog v) tp))
    (B : Below A₁ base₁ outer₁ gT) (X : (hd.heap_39 w.params).In gT) (T : Top topProg LS mean mg mb gT) (D : KtsDicts (outer₁.filterMap (·.frame)) gT) (C : CodeHd gT 172 168) :
    ∃ g' h' tk m' news', ({ s with heap := h, toks := tks } : Shared) = { s with heap := h', toks := tk } ∧ Fr g' L' h' m' ∧ News g' L' h' ((I, itR x l) :: news') ∧ (∀ p ∈ news', p.1 ≠ I) ∧
      (PrAt w mean mg mb A₁ base₁ outer₁ Dh Ds vs L' v tp k₀ g₀ rest₀ (i + 1) g' m' news' ∧ ∀ p ∈ news', p.1 ≠ I) := by
  subst hkk
  have hI : (I, itR x l) ∈ (Dh, handObj Ds (k₀ + (i : Int) + 1) tk) :: (Ds, W.listOf vs.toArray 0) :: (168, tabObj ps) :: (L' + 1 + 1, ow) :: (L' + 1, oS) :: (c3, oc3) :: (c2, oc2) :: (c1, oc1) :: (I, itR x l) :: rest := mt (mt (mt (mt (mt (mt (mt (mt mh)))))))
  have a1 := code_ne N hI (c := c1) (oc := oc1) (mt (mt (mt (mt (mt (mt (mt mh))))))) d1 e1
  have a2 := code_ne N hI (c := c2) (oc := oc2) (mt (mt (mt (mt (mt (mt mh)))))) d2 e2
  have a3 := code_ne N hI (c := c3) (oc := oc3) (mt (mt (mt (mt (mt mh))))) d3 e3
  have sub : ∀ p ∈ (c3, oc3) :: (c2, oc2) :: (c1, oc1) :: rest, p ∈ (c3, oc3) :: (c2, oc2) :: (c1, oc1) :: (I, itR x l) :: rest := sub_c mh (sub_c (mt mh) (sub_c (mt (mt mh)) fun p hp => .tail _ (.tail _ (.tail _ (.tail _ hp)))))
  have off : ∀ p ∈ (Dh, handObj Ds (k₀ + (i : Int) + 1) tk) :: (Ds, W.listOf vs.toArray 0) :: (168, tabObj ps) :: (L' + 1 + 1, ow) :: (L' + 1, oS) :: (c3, oc3) :: (c2, oc2) :: (c1, oc1) :: rest, p.1 ≠ I := off_cons (Nat.ne_of_lt n1) (off_cons (Nat.ne_of_lt n2) (off_cons (Nat.ne_of_lt n3) (off_cons (Nat.ne_of_lt n4) (off_cons (Nat.ne_of_lt n5) (off_cons a3 (off_cons a2 (off_cons a1 n6)))))))
  refine ⟨gT, h, tks, m, (Dh, handObj Ds (k₀ + (i : Int) + 1) tk) :: (Ds, W.listOf vs.toArray 0) :: (168, tabObj ps) :: (L' + 1 + 1, ow) :: (L' + 1, oS) :: (c3, oc3) :: (c2, oc2) :: (c1, oc1) :: rest, rfl, F, news_sub N (by with_reducible repeat' (first | exact Mine.sub_rfl | refine Mine.sub_c ?_ ?_ | exact Mine.mh | refine Mine.mt ?_ | refine Mine.sub_tl ?_)), off, ?_, off⟩
  · obtain ⟨tw, dw⟩ := LD.dw
    obtain ⟨te, de⟩ := LD.de
    have lc : ∀ p ∈ (c3, oc3) :: (c2, oc2) :: (c1, oc1) :: rest, p ∈ rest₀ ∨ IsLc p.2 := all_c (.inr ⟨vs3, t3, d3, e3⟩) (all_c (.inr ⟨vs2, t2, d2, e2⟩) (all_c (.inr ⟨vs1, t1, d1, e1⟩) hlc))
    refine ⟨⟨tk, ps, ow, oS, (c3, oc3) :: (c2, oc2) :: (c1, oc1) :: rest, _, tw, ?_, dw, de, LD.K.drop ?_, fun p hp => LD.o1 p (sub p hp), fun p hp => LD.o2 p (sub p hp), fun p hp => LD.o3 p (sub p hp), fun p hp => LD.o4 p (sub p hp), fun p hp => .tail _ (.tail _ (.tail _ (hsub p hp))), lc⟩, hand, part, B, X, T, D, T0.trans (T1.trans (T2.trans T3)), C⟩
    · have e : k₀ + (i : Int) + 1 = k₀ + ((i + 1 : Nat) : Int) := by lia
      rw [e]
    · exact all_c (.inl mh) (all_c (.inl (mt mh)) (all_c (.inl (mt (mt mh))) (all_c (.inr fun vs t => itR_no x l vs _ t) fun p hp => .inl (.tail _ (.tail _ (.tail _ hp))))))
theorem ine_no {x y : Int} {P Q : Prop} (h : x = y) (q : Q) : if (x != y) = true then P else Q := by
  have : (x != y) = false := by simp [h]
  rw [this]; exact q
theorem ine_yes {x y : Int} {P Q : Prop} (h : ¬ x = y) (p : P) : if (x != y) = true then P else Q := by
  have : (x != y) = true := by simp [h]
  rw [this]; exact p
theorem ieq_no {x y : Int} {P Q : Prop} (h : ¬ x = y) (q : Q) : if (x == y) = true then P else Q := by
  have : (x == y) = false := by simp [h]
  rw [this]; exact q
theorem ieq_yes {x y : Int} {P Q : Prop} (h : x = y) (p : P) : if (x == y) = true then P else Q := by
  have : (x == y) = true := by simp [h]
  rw [this]; exact p
theorem pr_init {w : World} {mean : ExcName → Option Value} {mg mb : Str → Option Value} {A₁ : Around} {base₁ : Heap} {outer₁ : List Env} {Dh Ds : Addr} {vs : List Value} {L' : Addr} {v : Int} {tp : Tok} {k₀ : Int} {g₀ : Heap} {rest₀ : List (Addr × Obj)}
    {I : Addr} {ow oe : Obj} {tk tv : Tok} {oev : Option Value} {ps : Array Value} {m : Str → Option Value}
    (dw : ow.data = .cell (some (.int v tv))) (de : oe.data = .cell oev) (hK : TabOk "_law_powers_right.<locals>.<lambda>" ps rest₀) (o1 : ∀ p ∈ rest₀, p.1 ≠ Dh) (o2 : ∀ p ∈ rest₀, p.1 ≠ 168) (o3 : ∀ p ∈ rest₀, p.1 ≠ L' + 1) (o4 : ∀ p ∈ rest₀, p.1 ≠ L' + 1 + 1)
    (lI : ∀ p ∈ (Dh, handObj Ds k₀ tk) :: (Ds, W.listOf vs.toArray 0) :: (168, tabObj ps) :: (L' + 1 + 1, ow) :: (L' + 1, oe) :: rest₀, p.1 < I) (hand : m "hand" = some (.ref Dh)) (part : m "part" = some (.int (llog v) tp))
    (B : Below A₁ base₁ outer₁ g₀) (X : (hd.heap_39 w.params).In g₀) (T : Top topProg LS mean mg mb g₀) (D : KtsDicts (outer₁.filterMap (·.frame)) g₀) (C : CodeHd g₀ 172 168) :
    PrAt w mean mg mb A₁ base₁ outer₁ Dh Ds vs L' v tp k₀ g₀ rest₀ 0 g₀ m ((Dh, handObj Ds k₀ tk) :: (Ds, W.listOf vs.toArray 0) :: (168, tabObj ps) :: (L' + 1 + 1, ow) :: (L' + 1, oe) :: rest₀) ∧ ∀ p ∈ (Dh, handObj Ds k₀ tk) :: (Ds, W.listOf vs.toArray 0) :: (168, tabObj ps) :: (L' + 1 + 1, ow) :: (L' + 1, oe) :: rest₀, p.1 ≠ I := by
  refine ⟨⟨⟨tk, ps, ow, oe, rest₀, oev, tv, ?_, dw, de, hK, o1, o2, o3, o4, fun _ h => h, fun _ h => .inl h⟩, hand, part, B, X, T, D, KtsTurn.refl, C⟩, fun p hp => Nat.ne_of_lt (lI p hp)⟩
  have e : k₀ + ((0 : Nat) : Int) = k₀ := by lia
  rw [e]
end Mine
end
section
open PySem PySem.W PyProof.Rows
namespace Mine
open PySem.Builtin.Int (intBits)
theorem par_e {x : Int} (h : x.fmod 2 = 0) : ¬ x.fmod 2 = 1 := by lia
theorem par_o {x : Int} (h : ¬ x.fmod 2 = 0) : x.fmod 2 = 1 := by have := fmod_in x (n := 2) (by lia); lia
set_option maxRecDepth 100000 in
set_option maxHeartbeats 80000000 in
theorem c_pr {w : World} {mean : ExcName → Option Value} {mg mb : Str → Option Value} (Dh Ds : Addr) (vs : List Value) (ns : List Int) (hI : IntsAre vs ns) (hlen : ns.length ≤ 40) (k : Int) (hk0 : 0 ≤ k) (hk1 : k ≤ 900) (tk : Tok) (ps : Array Value) (rest : List (Addr × Obj)) (hne : Ds ≠ Dh) (off1 : ∀ p ∈ rest, p.1 ≠ Dh) (off2 : ∀ p ∈ rest, p.1 ≠ 168) (hK : TabOk "_law_powers_right.<locals>.<lambda>" ps rest)
    (dp un : Nat) (gd : Option (List Code)) (cn : Str) (cs : Scope) (a : Addr) (ccd : Value) (cl : List (Str × Addr)) (outer : List Env) (A₀ : Around) (base h₀ : Heap) (L : Addr) (m : Str → Option Value) (s : Shared) (Q E : Value → Shared → Prop)
    (B : Below A₀ base outer h₀) (F : Fr h₀ L s.heap m) (X : (hd.heap_39 w.params).In h₀) (N : News h₀ L s.heap ((Dh, handObj Ds k tk) :: (Ds, W.listOf vs.toArray 0) :: (168, tabObj ps) :: rest)) (T : Top topProg LS mean mg mb h₀) (hk : cs.kind = .function)
    (XB : (hd.heap_39 w.params).In base) (TB : Top topProg LS mean mg mb base) (D : KtsDicts (outer.filterMap (·.frame)) h₀) (C : CodeHd h₀ 172 168)
    (hdp : dp + 50 < recursionLimit) (hun : un + 8 * 50 < cLine)
    (hret : ∀ (h₀' h' : Heap) (tk' : Nat) (tk2 : Tok) (ps' : Array Value) (rest' : List (Addr × Obj)), KtsTurn (outer.filterMap (·.frame)) h₀ h₀' → Fr h₀' L h' m → News h₀' L h' ((Dh, handObj Ds (k + 3) tk2) :: (Ds, W.listOf vs.toArray 0) :: (168, tabObj ps') :: rest') → TabOk "_law_powers_right.<locals>.<lambda>" ps' rest' → (∀ p ∈ rest, p ∈ rest') → (∀ p ∈ rest', p ∈ rest ∨ Mine.IsLc p.2) → (∀ p ∈ rest', p.1 ≠ Dh) → (∀ p ∈ rest', p.1 ≠ 168) →
      Below A₀ base outer h₀' → (Mine.hd.heap_39 w.params).In h₀' → Top topProg LS mean mg mb h₀' → KtsDicts (outer.filterMap (·.frame)) h₀' → CodeHd h₀' 172 168 → Q (.bool true) { s with heap := h', toks := tk' }) :
    wpAny (model PySem.Challenge.rw_pq0913_01.row.prog w) (ktrTop dp un gd cn cs L a ccd cl outer) (call (.ref 173) [.ref Dh]) Q E s := by
  have hT : Dh ≠ 168 := fun q => by
    have h1 := (N _ (.head _)).1
    have h2 := (N (168, tabObj ps) (.tail _ (.tail _ (.head _)))).1
    rw [q] at h1
    rw [h1] at h2
    have := congrArg Obj.cls (Option.some.inj h2)
    exact nomatch this
  have hT2 : Ds ≠ 168 := fun q => by
    have h1 := (N _ (.tail _ (.head _))).1
    have h2 := (N (168, tabObj ps) (.tail _ (.tail _ (.head _)))).1
    rw [q] at h1
    rw [h1] at h2
    have := congrArg Obj.cls (Option.some.inj h2)
    exact nomatch this
  k_with_none; w_top off
  k_with "@bits" => with_reducible assumption
  k_with "@bits" => ((with_reducible apply Mine.bits_divd); bits_by_make)
  k_with "@bits" => ((with_reducible apply Mine.bits_prod) <;> bits_by_make)
  k_with "@binaryOp FloorDiv int int" => (k_here; (with_reducible refine floordiv_int ?kbe ?_ (Or.inl ?kbp)); (case kbe => first | omega | (split <;> omega) | k_dflt (have q9 := Mine.GwOk.kb (by assumption); omega) | k_dflt (have q9 := Mine.SqOk.pos (by assumption); omega)); (case kbp => ((with_reducible apply Mine.py_of_bits); (bits_by_make); decide)))
  k_with "@callWith ref" => (k_here; k_dflt (first | (refine' callWith_K ?k1 ?k2 ?_; (case k1 => with_reducible assumption); (case k2 => k_is); k_whole) | (refine' callWith_K0 ?k1 ?k2 ?_; (case k1 => exact Frag.In.keeps (by with_reducible assumption) (Fr.keep (by with_reducible assumption))); (case k2 => k_is); k_whole)))
  k_with "@execs nil" => (with_reducible refine wpAny_execs_nil ?_)
  k_with "@eval Name" => (k_here; name_kind "local"; k_dflt (refine' nameX_L ?qF ?qv ?_ ?qa ?qb; (case qa => rfl); (case qb => rfl); (case qF => with_reducible assumption); (case qv => rfl); k_whole))
  k_with "@eval Name" => (k_here; name_kind "globalImplicit"; k_dflt (refine' nameX_K ?qF ?qX ?qT ?qe ?_ ?qa ?qb; (case qa => rfl); (case qb => rfl); (case qF => with_reducible assumption); (case qX => with_reducible assumption); (case qT => with_reducible assumption); (case qe => k_is); k_whole))
  k_with "@bits_fit" => ((with_reducible apply Mine.bits_le'); (bits_by_make); decide)
  k_with "@bits" => with_reducible exact Mine.bits_F36
  k_with "@bits" => with_reducible exact Mine.bits_S50
  k_with "@call ref" => (k_here; (with_reducible show wpAny _ _ (PySem.call (Value.ref 124) _) _ _ _); k_dflt (refine' Mine.c_worths _ _ _ _ _ _ _ _ _ _ _ _ _ _ _ _ _ _ ?qB ?qF ?qX ?qN ?qT ?hk ?hd ?hu ?_; (case qB => k_asm); (case qF => k_asm); (case qX => k_asm); (case qN => k_asm); (case qT => k_asm); (case hk => first | exact rfl | assumption); (case hd => ktr_room); (case hu => ktr_units)); intro d9 v9 h9 tk9 F9 N9 I9 l9; (try dsimp only); (try k_fold))
  k_with "@call ref" => (k_here; (with_reducible show wpAny _ _ (PySem.call (Value.ref 131) _) _ _ _); k_dflt (refine' Mine.c_expos _ _ _ _ _ _ _ _ _ _ _ _ _ _ _ _ _ _ ?qB ?qF ?qX ?qN ?qT ?hk ?hd ?hu ?_; (case qB => k_asm); (case qF => k_asm); (case qX => k_asm); (case qN => k_asm); (case qT => k_asm); (case hk => first | exact rfl | assumption); (case hd => ktr_room); (case hu => ktr_units)); intro d9 v9 h9 tk9 F9 N9 I9 l9; (try dsimp only); (try k_fold))
  k_with "@call ref" => (k_here; (with_reducible show wpAny _ _ (PySem.call (Value.ref 138) _) _ _ _); k_dflt (refine' Mine.c_next1 _ _ _ _ _ ?hI ?hl _ ?k0 ?k1 _ _ _ ?hm ?hm2 _ ?hne _ _ _ _ _ _ _ _ _ _ _ _ _ _ _ _ _ ?qB ?qF ?qX ?qN ?l1 ?qT ?hk ?hd ?hu ?_); (case qN => k_asm); (case l1 => assumption); (case hI => assumption); (case hl => assumption); (case k0 => omega); (case k1 => omega); (case hm => decide); (case hm2 => decide); (case hne => assumption); (case qB => k_asm); (case qF => k_asm); (case qX => k_asm); (case qT => k_asm); (case hk => first | exact rfl | assumption); (case hd => ktr_room); (case hu => ktr_units); intro r9 t9 tk9 h9 tk8 ra9 rb9 F9 N9; (try dsimp only); (try k_fold))
  k_with "@subscriptTail" => (k_here; (with_reducible show wpAny _ _ (subscriptTail _ _ (Value.ref _) (Value.int _ _)) _ _ _); (with_reducible rename IntsAre _ Mine.wsL => hI9); k_dflt (refine' Mine.item_in ?qN hI9 ?h0 ?h1 ?hm ?hf ?_); (case qN => k_asm); (case h0 => assumption); (case h1 => assumption); (case hm => decide); (case hf => decide); clear hI9; intro vW tW hvW; (have WW := Mine.worth_of hvW); (try dsimp only))
  k_with "@subscriptTail" => (k_here; (with_reducible show wpAny _ _ (subscriptTail _ _ (Value.ref _) (Value.int _ _)) _ _ _); (with_reducible rename IntsAre _ Mine.esL => hI9); k_dflt (refine' Mine.item_in ?qN hI9 ?h0 ?h1 ?hm ?hf ?_); (case qN => k_asm); (case h0 => assumption); (case h1 => assumption); (case hm => decide); (case hf => decide); clear hI9; intro vE tE hvE; (have WE := Mine.expo_of hvE); (try dsimp only))
  k_with "@storeName" => (k_here; k_dflt (refine' storeX_C ?qF (Mine.news_tl ?qN) ?qc ?qU ?qd ?_ ?qa ?qb; (case qa => exact rfl); (case qb => exact rfl); (case qF => k_asm); (case qN => k_asm); (case qc => exact rfl); (case qU => first | exact UpdF.tail (by assumption) (UpdF.tail (by assumption) (UpdF.tail (by assumption) (UpdF.head (Mine.off_cons (by assumption) (by assumption))))) | exact UpdF.tail (by assumption) (UpdF.tail (by assumption) (UpdF.tail (by assumption) (UpdF.tail (by assumption) (UpdF.head (by assumption)))))); (case qd => assumption); k_whole); intro hS oS FS NS dS; (try dsimp only at NS); (try dsimp only); (try k_fold))
  k_with "@call ref" => (k_here; (with_reducible show wpAny _ _ (PySem.call (Value.ref 152) [Value.int _ _]) _ _ _); k_dflt (refine' ClR.use (c_ll _ _ ?c1 ?c2 ?c3) ?k1 ?k2 ?k3 ?k4 ?k5 ?kK ?kd ?ku ?_; (case c1 => exact Mine.Worth.lo (by assumption)); (case c2 => exact Mine.Worth.hi (by assumption)); (case c3 => exact Mine.Worth.fine (by assumption)); (case k1 => k_asm); (case k2 => k_asm); (case k3 => k_asm); (case k4 => k_asm); (case k5 => k_asm); (case kK => first | exact rfl | assumption); (case kd => ktr_room); (case ku => ktr_units)); intro tL hL9 tkL9 FL9 NL9; (try dsimp only); (try k_fold))
  k_with "@call ref" => (k_here; (with_reducible show wpAny _ _ (PySem.call (Value.ref 89) [Value.int _ _]) _ _ _); k_dflt (refine' ClR.use (c_lg _ _ ?c1 ?c2) ?k1 ?k2 ?k3 ?k4 ?k5 ?kK ?kd ?ku ?_; (case c1 => exact Mine.Worth.lo (by assumption)); (case c2 => exact Mine.Worth.hi (by assumption)); (case k1 => k_asm); (case k2 => k_asm); (case k3 => k_asm); (case k4 => k_asm); (case k5 => k_asm); (case kK => first | exact rfl | assumption); (case kd => ktr_room); (case ku => ktr_units)); intro t9 h9 tk9 F9 N9; (try dsimp only); (try k_fold))
  k_with "@exec For Name Call cons nil" => (k_here; refine Mine.Stop.mk ?_)
  k_with "@exec Assign" => (k_here; (fail_if_success (have q9 : Mine.Gone := by assumption)); (with_reducible show wpAny _ _ (exec (Stmt.Assign [PySem.Expr.Name (Str.ofString "told") _] _ _) _) _ _ _); refine Mine.Stop.mk ?_)
  k_with "@eval Name" => (k_here; k_dflt (refine' nameX_L ?qF ?qv ?_ ?qa ?qb ?qc; (case qa => exact rfl); (case qb => exact rfl); (case qc => decide); (case qF => k_asm); (case qv => assumption); k_whole))
  k_with "@eval Lambda" => (k_here; k_dflt (refine' Mine.mk_lam2 ?qF ?qN ?qT ?qC ?LD ?qq ?df ?cl ?_; (case qF => k_asm); (case qN => k_asm); (case qT => k_asm); (case qC => assumption); (case LD => assumption); (case qq => exact rfl); (case df => exact rfl); (case cl => exact rfl); k_whole); intro f9 c9 oc9 vs9 t9 ctv9 h9 tk9 ps9 F9 N9 d9 e9 LD9; (try dsimp only); (try k_fold))
  k_with "@call ref" => (k_here; (with_reducible show wpAny _ _ (PySem.call (Value.ref 159) [Value.ref _]) _ _ _); k_dflt (refine' Mine.lam_call ?qN ?h1 ?h2 ?LD ?HD ?qB ?qF ?qX ?qT ?hk ?XB ?TB ?qD ?qC ?hd ?hu ?_); (case qN => k_asm); (case h1 => assumption); (case h2 => assumption); (case LD => assumption); (case qB => k_asm); (case qF => k_asm); (case qX => k_asm); (case qT => k_asm); (case HD => k_dflt (first | exact HD1 _ _ _ _ | exact HD2 _ _ _ _ _ _ | exact HD3 _ _ _ _)); (case hk => first | exact rfl | assumption); (case XB => assumption); (case TB => assumption); (case qD => assumption); (case qC => assumption); (case hd => ktr_room); (case hu => ktr_units); intro tT gT hT9 tkT TT FT NT BT XT PT DT CT; (try dsimp only); (try k_fold))
  k_with "@call ref" => (k_here; (with_reducible show wpAny _ _ (PySem.call (Value.ref 166) _) _ _ _); k_dflt (refine' Mine.ClR.use (HU _ _) ?k1 ?k2 ?k3 ?k4 ?k5 ?kK ?kd ?ku ?_); (case k1 => k_asm); (case k2 => k_asm); (case k3 => k_asm); (case k4 => k_asm); (case k5 => k_asm); (case kK => first | exact rfl | assumption); (case kd => ktr_room); (case ku => ktr_units); intro tU hU9 tkU FU NU; (try dsimp only); (try k_fold))
  k_with "@call ref" => (k_here; (with_reducible show wpAny _ _ (PySem.call (Value.ref 117) _) _ _ _); k_dflt (show wpAny _ _ (PySem.call (Value.ref 117) []) _ _ _); k_dflt (refine' ClR.use (c_sc) ?k1 ?k2 ?k3 ?k4 ?k5 ?kK ?kd ?ku ?_; (case k1 => k_asm); (case k2 => k_asm); (case k3 => k_asm); (case k4 => k_asm); (case k5 => k_asm); (case kK => first | exact rfl | assumption); (case kd => ktr_room); (case ku => ktr_units)); intro t9 h9 tk9 F9 N9; (try dsimp only); (try k_fold))
  k_with "@ite" => (k_here; first | with_reducible refine Mine.ine_no (by with_reducible assumption) ?_ | with_reducible refine Mine.ine_yes (by with_reducible assumption) ?_ | with_reducible refine Mine.ieq_yes (by with_reducible assumption) ?_ | with_reducible refine Mine.ieq_no (by with_reducible assumption) ?_ | with_reducible refine Mine.ine_no (by omega) ?_)
  revert X; k_fill; intro X
  refine wpAny_call ?_
  k_dflt (refine' code_TC ?k1 ?k2 ?k3 ?k4 ?k5 ?XB ?TB ?D ?kA ?kF ?kK ?k6 ?k7 ?k8 ?k9 ?kB ?kN ?_ ?c2 ?c3 ?c4; (case kA => exact rfl); (case kF => exact rfl); (case kK => assumption); (case k2 => k_asm); (case k1 => k_asm); (case XB => assumption); (case TB => assumption); (case D => assumption); (case k3 => k_asm); (case k4 => k_asm); (case k5 => k_asm); (case k6 => k_is); (case k7 => k_is); (case k8 => ktr_room); (case k9 => exact BindsTo.of_eq rfl); (case kB => exact rfl); (case kN => decide); (case c2 => exact rfl); (case c3 => exact rfl); (case c4 => exact rfl); k_whole; intro g' L' h' tk' cells FG' F' N' Y' B' X' T' D' l1; (try dsimp only); (try k_lift B'); (try k_fold))
  obtain ⟨ow, oe, he, dw, de⟩ := CellsAre.two Y'
  subst he
  clear Y'
  have N2 := Mine.reord N'
  clear N'
  have lDh : Dh < L' := l1 _ (.head _)
  have lDs : Ds < L' := l1 _ (.tail _ (.head _))
  have l168 : 168 < L' := l1 _ (.tail _ (.tail _ (.head _)))
  have lr : ∀ p ∈ rest, p.1 < L' := fun p hp => l1 p (.tail _ (.tail _ (.tail _ hp)))
  have hne2 : ∀ p ∈ (Ds, W.listOf vs.toArray 0) :: (168, tabObj ps) :: (L' + 1 + 1, ow) :: (L' + 1, oe) :: rest, p.1 ≠ Dh := Mine.ne_five hne (Ne.symm hT) (Nat.ne_of_gt (Nat.lt_succ_of_lt (Nat.lt_succ_of_lt lDh))) (Nat.ne_of_gt (Nat.lt_succ_of_lt lDh)) off1
  have n1 : Dh ≠ L' + 1 := Nat.ne_of_lt (Nat.lt_succ_of_lt lDh)
  have n2 : Ds ≠ L' + 1 := Nat.ne_of_lt (Nat.lt_succ_of_lt lDs)
  have n3 : 168 ≠ L' + 1 := Nat.ne_of_lt (Nat.lt_succ_of_lt l168)
  have n4 : L' + 1 + 1 ≠ L' + 1 := Nat.ne_of_gt (Nat.lt_succ_self _)
  have n5 : ∀ p ∈ rest, p.1 ≠ L' + 1 := fun p hp => Nat.ne_of_lt (Nat.lt_succ_of_lt (lr p hp))
  have m1 : Dh ≠ L' + 1 + 1 := Nat.ne_of_lt (Nat.lt_succ_of_lt (Nat.lt_succ_of_lt lDh))
  have m2 : Ds ≠ L' + 1 + 1 := Nat.ne_of_lt (Nat.lt_succ_of_lt (Nat.lt_succ_of_lt lDs))
  have m3 : 168 ≠ L' + 1 + 1 := Nat.ne_of_lt (Nat.lt_succ_of_lt (Nat.lt_succ_of_lt l168))
  have m4 : L' + 1 ≠ L' + 1 + 1 := Nat.ne_of_lt (Nat.lt_succ_self _)
  have m5 : ∀ p ∈ rest, p.1 ≠ L' + 1 + 1 := fun p hp => Nat.ne_of_lt (Nat.lt_succ_of_lt (Nat.lt_succ_of_lt (lr p hp)))
  clear N F B X T
  have Cg : CodeHd g' 172 168 := C.keeps FG'.keep
  clear FG'
  k_steps
  · exact (Mine.worth_gap2 (by assumption) (by assumption)).elim
  · unfold Mine.Stop
    refine For_T (by with_unfolding_all rfl) (by with_unfolding_all rfl) (by with_unfolding_all rfl) ?_
    k_steps
    refine iter_T (n := 2) (by assumption) (by decide) (by decide) (by assumption) (by assumption) ?_
    intro I s₂ lI hs2
    obtain ⟨h2, rfl⟩ := hs2
    refine turnRest_ind (fun i g m news => PrAt w mean mg mb (ktrTop dp un gd cn cs L a ccd cl outer) base (envX cn cs L a ccd cl :: outer) Dh Ds vs L' vW tL (k + 1) g' rest i g m news ∧ ∀ p ∈ news, p.1 ≠ I) ?_ ?_ 2 0 rfl _ _ _ ?_
    · intro i g m news t h tk hi hC F N
      obtain ⟨⟨⟨tk9, ps9, ow9, oe9, rest9, oev, tv, rfl, dw9, de9, K9, o1, o2, o3, o4, hsub, hlc⟩, hH, hP, B9, X9, T9, D9, turn9, C9⟩, hoI⟩ := hC
      have ho9 : ∀ p ∈ rest9, p.1 ≠ I := fun p hp => hoI p (.tail _ (.tail _ (.tail _ (.tail _ (.tail _ hp)))))
      clear hoI
      have lI1 : L' + 1 < I := lI (L' + 1, _) (.tail _ (.tail _ (.tail _ (.tail _ (.head _)))))
      have lI2 : L' + 1 + 1 < I := lI (L' + 1 + 1, _) (.tail _ (.tail _ (.tail _ (.head _))))
      have lI3 : Dh < I := lI (Dh, _) (.head _)
      have lI5 : Ds < I := lI (Ds, _) (.tail _ (.head _))
      have lI4 : 168 < I := lI (168, _) (.tail _ (.tail _ (.head _)))
      have p1 := Mine.off_cons (o := itR ((i + 1 : Nat) : Int) (((2 : Nat) : Int) - ((i + 1 : Nat) : Int))) (Nat.ne_of_gt lI3) o1
      have p2 := Mine.off_cons (o := itR ((i + 1 : Nat) : Int) (((2 : Nat) : Int) - ((i + 1 : Nat) : Int))) (Nat.ne_of_gt lI4) o2
      have p3 := Mine.off_cons (o := itR ((i + 1 : Nat) : Int) (((2 : Nat) : Int) - ((i + 1 : Nat) : Int))) (Nat.ne_of_gt lI1) o3
      have p4 := Mine.off_cons (o := itR ((i + 1 : Nat) : Int) (((2 : Nat) : Int) - ((i + 1 : Nat) : Int))) (Nat.ne_of_gt lI2) o4
      have hne3 : ∀ p ∈ (Ds, W.listOf vs.toArray 0) :: (168, tabObj ps9) :: (L' + 1 + 1, ow9) :: (L' + 1, oe9) :: (I, itR ((i + 1 : Nat) : Int) (((2 : Nat) : Int) - ((i + 1 : Nat) : Int))) :: rest9, p.1 ≠ Dh := Mine.ne_five hne (Ne.symm hT) (Ne.symm m1) (Ne.symm n1) p1
      have N10 : News g L' h ((Dh, handObj Ds (k + 1 + (i : Int)) tk9) :: (Ds, W.listOf vs.toArray 0) :: (168, tabObj ps9) :: (L' + 1 + 1, ow9) :: (L' + 1, oe9) :: (I, itR ((i + 1 : Nat) : Int) (((2 : Nat) : Int) - ((i + 1 : Nat) : Int))) :: rest9) := news_sub N (by with_reducible repeat' (first | exact Mine.sub_rfl | refine Mine.sub_c ?_ ?_ | exact Mine.mh | refine Mine.mt ?_ | refine Mine.sub_tl ?_))
      clear N
      k_steps
      unfold Mine.Stop
      have gone : Mine.Gone := trivial
      have bL := worth_llbits WW
      have bE := expo_bits WE
      have LD : Led Dh Ds (L' + 1 + 1) (L' + 1) ps9 ow9 oS vW vE ((I, itR ((i + 1 : Nat) : Int) (((2 : Nat) : Int) - ((i + 1 : Nat) : Int))) :: rest9) := ⟨hne, hT, hT2, Ne.symm m3, Ne.symm n3, m1, m2, m4, n1, n2, p1, p2, p3, p4, K9.sub fun _ h => .tail _ h, ⟨_, dw9⟩, ⟨_, dS⟩⟩
      clear K9 o1 o2 o3 o4 p1 p2 p3 p4 hne3
      rcases WW.pair vE hvE with ⟨hx, hX⟩ | ⟨x, hx, hI9⟩
      · have HD1 := fun p1 p2 p3 p4 => d1_lim (w := w) (mean := mean) (mg := mg) (mb := mb) (cw := L' + 1 + 1) (ce := L' + 1) WW WE hx p1 p2 p3 p4
        have HU := fun (t t2 : Tok) => c_due_x (w := w) (mean := mean) (mg := mg) (mb := mb) ((llog vW * vE).fdiv 1000000) t t2 hX
        have z0 := True.intro
        by_cases hf : vE.fmod 1000000 = 0
        · have HD2 := fun p1 p2 p3 p4 p5 p6 => d2_lim (w := w) (mean := mean) (mg := mg) (mb := mb) (cw := L' + 1 + 1) (ce := L' + 1) WW WE hf hx p1 p2 p3 p4 p5 p6
          have z1 := True.intro
          have z2 := True.intro
          by_cases hp : 0 < vE
          · have HD3 := fun p1 p2 p3 p4 => d3_int (w := w) (mean := mean) (mg := mg) (mb := mb) (v := vW) (cw := L' + 1 + 1) (ce := L' + 1) WE hp p1 p2 p3 p4
            k_steps
            all_goals first
              | (exfalso; exact hf (by assumption))
              | (exfalso; exact (by assumption : ¬ _) hf)
              | (exfalso; exact hpar (by assumption))
              | (exfalso; exact (by assumption : ¬ _) hpar)
              | (exfalso; exact hp (by assumption))
              | (exfalso; exact (by assumption : ¬ _) hp)
              | (exfalso; omega)
              | (unfold Mine.TurnPost; dsimp only
                 k_dflt (refine' Mine.pr_next ?F ?N rfl ?LD ?d1 ?e1 ?d2 ?e2 ?d3 ?e3 ?T3 ?T2 ?T1 turn9 lI3 lI5 lI4 lI2 lI1 ho9 hsub hlc ?hh ?hp ?B ?X ?T ?D ?C; (case F => k_asm); (case N => k_asm); (case LD => assumption); (case d1 => assumption); (case e1 => assumption); (case d2 => assumption); (case e2 => assumption); (case d3 => assumption); (case e3 => assumption); (case T3 => assumption); (case T2 => assumption); (case T1 => assumption); (case hh => repeat' (first | exact hH | rw [if_neg (by decide)])); (case hp => repeat' (first | exact hP | rw [if_neg (by decide)])); (case B => assumption); (case X => assumption); (case T => assumption); (case D => assumption); (case C => assumption)))
          · have HD3 := fun p1 p2 p3 p4 => d3_und (w := w) (mean := mean) (mg := mg) (mb := mb) (v := vW) (cw := L' + 1 + 1) (ce := L' + 1) WE hp p1 p2 p3 p4
            k_steps
            all_goals first
              | (exfalso; exact hf (by assumption))
              | (exfalso; exact (by assumption : ¬ _) hf)
              | (exfalso; exact hpar (by assumption))
              | (exfalso; exact (by assumption : ¬ _) hpar)
              | (exfalso; exact hp (by assumption))
              | (exfalso; exact (by assumption : ¬ _) hp)
              | (exfalso; omega)
              | (unfold Mine.TurnPost; dsimp only
                 k_dflt (refine' Mine.pr_next ?F ?N rfl ?LD ?d1 ?e1 ?d2 ?e2 ?d3 ?e3 ?T3 ?T2 ?T1 turn9 lI3 lI5 lI4 lI2 lI1 ho9 hsub hlc ?hh ?hp ?B ?X ?T ?D ?C; (case F => k_asm); (case N => k_asm); (case LD => assumption); (case d1 => assumption); (case e1 => assumption); (case d2 => assumption); (case e2 => assumption); (case d3 => assumption); (case e3 => assumption); (case T3 => assumption); (case T2 => assumption); (case T1 => assumption); (case hh => repeat' (first | exact hH | rw [if_neg (by decide)])); (case hp => repeat' (first | exact hP | rw [if_neg (by decide)])); (case B => assumption); (case X => assumption); (case T => assumption); (case D => assumption); (case C => assumption)))
        · have HD2 := fun p1 p2 p3 p4 p5 p6 => d2_und (w := w) (mean := mean) (mg := mg) (mb := mb) (cw := L' + 1 + 1) (ce := L' + 1) WW WE hf p1 p2 p3 p4 p5 p6
          have z1 := True.intro
          have z2 := True.intro
          by_cases hp : 0 < vE
          · have HD3 := fun p1 p2 p3 p4 => d3_int (w := w) (mean := mean) (mg := mg) (mb := mb) (v := vW) (cw := L' + 1 + 1) (ce := L' + 1) WE hp p1 p2 p3 p4
            k_steps
            all_goals first
              | (exfalso; exact hf (by assumption))
              | (exfalso; exact (by assumption : ¬ _) hf)
              | (exfalso; exact hpar (by assumption))
              | (exfalso; exact (by assumption : ¬ _) hpar)
              | (exfalso; exact hp (by assumption))
              | (exfalso; exact (by assumption : ¬ _) hp)
              | (exfalso; omega)
              | (unfold Mine.TurnPost; dsimp only
                 k_dflt (refine' Mine.pr_next ?F ?N rfl ?LD ?d1 ?e1 ?d2 ?e2 ?d3 ?e3 ?T3 ?T2 ?T1 turn9 lI3 lI5 lI4 lI2 lI1 ho9 hsub hlc ?hh ?hp ?B ?X ?T ?D ?C; (case F => k_asm); (case N => k_asm); (case LD => assumption); (case d1 => assumption); (case e1 => assumption); (case d2 => assumption); (case e2 => assumption); (case d3 => assumption); (case e3 => assumption); (case T3 => assumption); (case T2 => assumption); (case T1 => assumption); (case hh => repeat' (first | exact hH | rw [if_neg (by decide)])); (case hp => repeat' (first | exact hP | rw [if_neg (by decide)])); (case B => assumption); (case X => assumption); (case T => assumption); (case D => assumption); (case C => assumption)))
          · have HD3 := fun p1 p2 p3 p4 => d3_und (w := w) (mean := mean) (mg := mg) (mb := mb) (v := vW) (cw := L' + 1 + 1) (ce := L' + 1) WE hp p1 p2 p3 p4
            k_steps
            all_goals first
              | (exfalso; exact hf (by assumption))
              | (exfalso; exact (by assumption : ¬ _) hf)
              | (exfalso; exact hpar (by assumption))
              | (exfalso; exact (by assumption : ¬ _) hpar)
              | (exfalso; exact hp (by assumption))
              | (exfalso; exact (by assumption : ¬ _) hp)
              | (exfalso; omega)
              | (unfold Mine.TurnPost; dsimp only
                 k_dflt (refine' Mine.pr_next ?F ?N rfl ?LD ?d1 ?e1 ?d2 ?e2 ?d3 ?e3 ?T3 ?T2 ?T1 turn9 lI3 lI5 lI4 lI2 lI1 ho9 hsub hlc ?hh ?hp ?B ?X ?T ?D ?C; (case F => k_asm); (case N => k_asm); (case LD => assumption); (case d1 => assumption); (case e1 => assumption); (case d2 => assumption); (case e2 => assumption); (case d3 => assumption); (case e3 => assumption); (case T3 => assumption); (case T2 => assumption); (case T1 => assumption); (case hh => repeat' (first | exact hH | rw [if_neg (by decide)])); (case hp => repeat' (first | exact hP | rw [if_neg (by decide)])); (case B => assumption); (case X => assumption); (case T => assumption); (case D => assumption); (case C => assumption)))
      · have HD1 := fun p1 p2 p3 p4 => d1_int (w := w) (mean := mean) (mg := mg) (mb := mb) (cw := L' + 1 + 1) (ce := L' + 1) WW WE hx p1 p2 p3 p4
        have HU := fun (t t2 : Tok) => c_due_i (w := w) (mean := mean) (mg := mg) (mb := mb) x ((llog vW * vE).fdiv 1000000) t t2 hI9
        by_cases hf : vE.fmod 1000000 = 0
        · have HD2 := fun p1 p2 p3 p4 p5 p6 => d2_int (w := w) (mean := mean) (mg := mg) (mb := mb) (cw := L' + 1 + 1) (ce := L' + 1) WW WE hf hx p1 p2 p3 p4 p5 p6
          by_cases hpar : (vE.fdiv 1000000).fmod 2 = 0
          · rw [if_neg (Mine.par_e hpar)] at HD2
            by_cases hp : 0 < vE
            · have HD3 := fun p1 p2 p3 p4 => d3_int (w := w) (mean := mean) (mg := mg) (mb := mb) (v := vW) (cw := L' + 1 + 1) (ce := L' + 1) WE hp p1 p2 p3 p4
              k_steps
              all_goals first
                | (exfalso; exact hf (by assumption))
                | (exfalso; exact (by assumption : ¬ _) hf)
                | (exfalso; exact hpar (by assumption))
                | (exfalso; exact (by assumption : ¬ _) hpar)
                | (exfalso; exact hp (by assumption))
                | (exfalso; exact (by assumption : ¬ _) hp)
                | (exfalso; omega)
                | (unfold Mine.TurnPost; dsimp only
                   k_dflt (refine' Mine.pr_next ?F ?N rfl ?LD ?d1 ?e1 ?d2 ?e2 ?d3 ?e3 ?T3 ?T2 ?T1 turn9 lI3 lI5 lI4 lI2 lI1 ho9 hsub hlc ?hh ?hp ?B ?X ?T ?D ?C; (case F => k_asm); (case N => k_asm); (case LD => assumption); (case d1 => assumption); (case e1 => assumption); (case d2 => assumption); (case e2 => assumption); (case d3 => assumption); (case e3 => assumption); (case T3 => assumption); (case T2 => assumption); (case T1 => assumption); (case hh => repeat' (first | exact hH | rw [if_neg (by decide)])); (case hp => repeat' (first | exact hP | rw [if_neg (by decide)])); (case B => assumption); (case X => assumption); (case T => assumption); (case D => assumption); (case C => assumption)))
            · have HD3 := fun p1 p2 p3 p4 => d3_und (w := w) (mean := mean) (mg := mg) (mb := mb) (v := vW) (cw := L' + 1 + 1) (ce := L' + 1) WE hp p1 p2 p3 p4
              k_steps
              all_goals first
                | (exfalso; exact hf (by assumption))
                | (exfalso; exact (by assumption : ¬ _) hf)
                | (exfalso; exact hpar (by assumption))
                | (exfalso; exact (by assumption : ¬ _) hpar)
                | (exfalso; exact hp (by assumption))
                | (exfalso; exact (by assumption : ¬ _) hp)
                | (exfalso; omega)
                | (unfold Mine.TurnPost; dsimp only
                   k_dflt (refine' Mine.pr_next ?F ?N rfl ?LD ?d1 ?e1 ?d2 ?e2 ?d3 ?e3 ?T3 ?T2 ?T1 turn9 lI3 lI5 lI4 lI2 lI1 ho9 hsub hlc ?hh ?hp ?B ?X ?T ?D ?C; (case F => k_asm); (case N => k_asm); (case LD => assumption); (case d1 => assumption); (case e1 => assumption); (case d2 => assumption); (case e2 => assumption); (case d3 => assumption); (case e3 => assumption); (case T3 => assumption); (case T2 => assumption); (case T1 => assumption); (case hh => repeat' (first | exact hH | rw [if_neg (by decide)])); (case hp => repeat' (first | exact hP | rw [if_neg (by decide)])); (case B => assumption); (case X => assumption); (case T => assumption); (case D => assumption); (case C => assumption)))
          · rw [if_pos (Mine.par_o hpar)] at HD2
            by_cases hp : 0 < vE
            · have HD3 := fun p1 p2 p3 p4 => d3_int (w := w) (mean := mean) (mg := mg) (mb := mb) (v := vW) (cw := L' + 1 + 1) (ce := L' + 1) WE hp p1 p2 p3 p4
              k_steps
              all_goals first
                | (exfalso; exact hf (by assumption))
                | (exfalso; exact (by assumption : ¬ _) hf)
                | (exfalso; exact hpar (by assumption))
                | (exfalso; exact (by assumption : ¬ _) hpar)
                | (exfalso; exact hp (by assumption))
                | (exfalso; exact (by assumption : ¬ _) hp)
                | (exfalso; omega)
                | (unfold Mine.TurnPost; dsimp only
                   k_dflt (refine' Mine.pr_next ?F ?N rfl ?LD ?d1 ?e1 ?d2 ?e2 ?d3 ?e3 ?T3 ?T2 ?T1 turn9 lI3 lI5 lI4 lI2 lI1 ho9 hsub hlc ?hh ?hp ?B ?X ?T ?D ?C; (case F => k_asm); (case N => k_asm); (case LD => assumption); (case d1 => assumption); (case e1 => assumption); (case d2 => assumption); (case e2 => assumption); (case d3 => assumption); (case e3 => assumption); (case T3 => assumption); (case T2 => assumption); (case T1 => assumption); (case hh => repeat' (first | exact hH | rw [if_neg (by decide)])); (case hp => repeat' (first | exact hP | rw [if_neg (by decide)])); (case B => assumption); (case X => assumption); (case T => assumption); (case D => assumption); (case C => assumption)))
            · have HD3 := fun p1 p2 p3 p4 => d3_und (w := w) (mean := mean) (mg := mg) (mb := mb) (v := vW) (cw := L' + 1 + 1) (ce := L' + 1) WE hp p1 p2 p3 p4
              k_steps
              all_goals first
                | (exfalso; exact hf (by assumption))
                | (exfalso; exact (by assumption : ¬ _) hf)
                | (exfalso; exact hpar (by assumption))
                | (exfalso; exact (by assumption : ¬ _) hpar)
                | (exfalso; exact hp (by assumption))
                | (exfalso; exact (by assumption : ¬ _) hp)
                | (exfalso; omega)
                | (unfold Mine.TurnPost; dsimp only
                   k_dflt (refine' Mine.pr_next ?F ?N rfl ?LD ?d1 ?e1 ?d2 ?e2 ?d3 ?e3 ?T3 ?T2 ?T1 turn9 lI3 lI5 lI4 lI2 lI1 ho9 hsub hlc ?hh ?hp ?B ?X ?T ?D ?C; (case F => k_asm); (case N => k_asm); (case LD => assumption); (case d1 => assumption); (case e1 => assumption); (case d2 => assumption); (case e2 => assumption); (case d3 => assumption); (case e3 => assumption); (case T3 => assumption); (case T2 => assumption); (case T1 => assumption); (case hh => repeat' (first | exact hH | rw [if_neg (by decide)])); (case hp => repeat' (first | exact hP | rw [if_neg (by decide)])); (case B => assumption); (case X => assumption); (case T => assumption); (case D => assumption); (case C => assumption)))
        · have HD2 := fun p1 p2 p3 p4 p5 p6 => d2_und (w := w) (mean := mean) (mg := mg) (mb := mb) (cw := L' + 1 + 1) (ce := L' + 1) WW WE hf p1 p2 p3 p4 p5 p6
          have z1 := True.intro
          have z2 := True.intro
          by_cases hp : 0 < vE
          · have HD3 := fun p1 p2 p3 p4 => d3_int (w := w) (mean := mean) (mg := mg) (mb := mb) (v := vW) (cw := L' + 1 + 1) (ce := L' + 1) WE hp p1 p2 p3 p4
            k_steps
            all_goals first
              | (exfalso; exact hf (by assumption))
              | (exfalso; exact (by assumption : ¬ _) hf)
              | (exfalso; exact hpar (by assumption))
              | (exfalso; exact (by assumption : ¬ _) hpar)
              | (exfalso; exact hp (by assumption))
              | (exfalso; exact (by assumption : ¬ _) hp)
              | (exfalso; omega)
              | (unfold Mine.TurnPost; dsimp only
                 k_dflt (refine' Mine.pr_next ?F ?N rfl ?LD ?d1 ?e1 ?d2 ?e2 ?d3 ?e3 ?T3 ?T2 ?T1 turn9 lI3 lI5 lI4 lI2 lI1 ho9 hsub hlc ?hh ?hp ?B ?X ?T ?D ?C; (case F => k_asm); (case N => k_asm); (case LD => assumption); (case d1 => assumption); (case e1 => assumption); (case d2 => assumption); (case e2 => assumption); (case d3 => assumption); (case e3 => assumption); (case T3 => assumption); (case T2 => assumption); (case T1 => assumption); (case hh => repeat' (first | exact hH | rw [if_neg (by decide)])); (case hp => repeat' (first | exact hP | rw [if_neg (by decide)])); (case B => assumption); (case X => assumption); (case T => assumption); (case D => assumption); (case C => assumption)))
          · have HD3 := fun p1 p2 p3 p4 => d3_und (w := w) (mean := mean) (mg := mg) (mb := mb) (v := vW) (cw := L' + 1 + 1) (ce := L' + 1) WE hp p1 p2 p3 p4
            k_steps
            all_goals first
              | (exfalso; exact hf (by assumption))
              | (exfalso; exact (by assumption : ¬ _) hf)
              | (exfalso; exact hpar (by assumption))
              | (exfalso; exact (by assumption : ¬ _) hpar)
              | (exfalso; exact hp (by assumption))
              | (exfalso; exact (by assumption : ¬ _) hp)
              | (exfalso; omega)
              | (unfold Mine.TurnPost; dsimp only
                 k_dflt (refine' Mine.pr_next ?F ?N rfl ?LD ?d1 ?e1 ?d2 ?e2 ?d3 ?e3 ?T3 ?T2 ?T1 turn9 lI3 lI5 lI4 lI2 lI1 ho9 hsub hlc ?hh ?hp ?B ?X ?T ?D ?C; (case F => k_asm); (case N => k_asm); (case LD => assumption); (case d1 => assumption); (case e1 => assumption); (case d2 => assumption); (case e2 => assumption); (case d3 => assumption); (case e3 => assumption); (case T3 => assumption); (case T2 => assumption); (case T1 => assumption); (case hh => repeat' (first | exact hH | rw [if_neg (by decide)])); (case hp => repeat' (first | exact hP | rw [if_neg (by decide)])); (case B => assumption); (case X => assumption); (case T => assumption); (case D => assumption); (case C => assumption)))
    · intro g m news h tk hC F N
      obtain ⟨⟨⟨tk9, ps9, ow9, oe9, rest9, oev, tv, rfl, dw9, de9, K9, o1, o2, o3, o4, hsub, hlc⟩, hH, hP, B9, X9, T9, D9, turn9, C9⟩, hoI⟩ := hC
      have ho9 : ∀ p ∈ rest9, p.1 ≠ I := fun p hp => hoI p (.tail _ (.tail _ (.tail _ (.tail _ (.tail _ hp)))))
      clear hoI
      k_steps
      refine ⟨g, L', _, _, turn9, by k_asm, by k_asm, fun h₀' kT kF kN kB kX kP kD => ?_⟩
      have e3 : k + 1 + ((0 + 2 : Nat) : Int) = k + 3 := by omega
      rw [e3] at kN
      exact hret h₀' _ _ tk9 ps9 rest9 kT kF (news_sub kN (by with_reducible repeat' (first | exact Mine.sub_rfl | refine Mine.sub_c ?_ ?_ | exact Mine.mh | refine Mine.mt ?_ | refine Mine.sub_tl ?_))) K9 hsub hlc o1 o2 kB kX kP kD (Mine.codeHd_turn C kT)
    · k_dflt (refine' Mine.pr_init ?dw ?de hK off1 off2 ?o3 ?o4 lI ?hh ?hp ?B ?X ?T ?D Cg; (case dw => assumption); (case de => assumption); (case o3 => assumption); (case o4 => assumption); (case hh => repeat' (first | exact rfl | rw [if_neg (by decide)])); (case hp => repeat' (first | exact rfl | rw [if_neg (by decide)])); (case B => assumption); (case X => assumption); (case T => assumption); (case D => assumption))
end Mine
end
section
open PySem PySem.W PyProof.Rows
namespace Mine
open PySem.Builtin.Int (intBits)
open PySem.Spec PyProof.V PySem.Calls
theorem fr_back {fs : List Addr} {g g' h : Heap} {L : Addr} {m : Str → Option Value} (T : KtsTurn fs g g') (hf : fs = []) (F : Fr g' L h m) : Fr g L h m := by
  subst hf
  exact ⟨F.ns, fun b o e => F.keep b o (T.other b o e (by simp)), by rw [← T.size]; exact F.above⟩
theorem news_back {fs : List Addr} {g g' h : Heap} {L : Addr} {news : List (Addr × Obj)} (T : KtsTurn fs g g') (hf : fs = []) (N : News g' L h news) : News g L h news := by
  subst hf
  refine fun p hp => ⟨(N p hp).1, (N p hp).2.1, ?_⟩
  cases q : g.get? p.1 with
  | none => rfl
  | some o => have := T.other _ o q (by simp); rw [(N p hp).2.2] at this; cases this
/-- _law_powers_right called from the law's own frame -/
theorem c_pr0 {w : World} {mean : ExcName → Option Value} {mg mb : Str → Option Value} (Dh Ds : Addr) (vs : List Value) (ns : List Int) (hI : IntsAre vs ns) (hlen : ns.length ≤ 40) (k : Int) (hk0 : 0 ≤ k) (hk1 : k ≤ 900) (tk : Tok) (ps : Array Value) (rest : List (Addr × Obj)) (hne : Ds ≠ Dh) (off1 : ∀ p ∈ rest, p.1 ≠ Dh) (off2 : ∀ p ∈ rest, p.1 ≠ 168) (hK : TabOk "_law_powers_right.<locals>.<lambda>" ps rest)
    (dp un : Nat) (gd : Option (List Code)) (cn : Str) (cs : Scope) (a : Addr) (ccd : Value) (cl : List (Str × Addr)) (A₀ : Around) (h₀ : Heap) (L : Addr) (m : Str → Option Value) (s : Shared) (Q E : Value → Shared → Prop)
    (B : Below A₀ h₀ [] h₀) (F : Fr h₀ L s.heap m) (X : (hd.heap_39 w.params).In h₀) (N : News h₀ L s.heap ((Dh, handObj Ds k tk) :: (Ds, W.listOf vs.toArray 0) :: (168, tabObj ps) :: rest)) (T : Top topProg LS mean mg mb h₀) (hk : cs.kind = .function)
    (C : CodeHd h₀ 172 168) (hdp : dp + 50 < recursionLimit) (hun : un + 8 * 50 < cLine)
    (hret : ∀ (h' : Heap) (tk' : Nat) (tk2 : Tok) (ps' : Array Value) (rest' : List (Addr × Obj)), Fr h₀ L h' m → News h₀ L h' ((Dh, handObj Ds (k + 3) tk2) :: (Ds, W.listOf vs.toArray 0) :: (168, tabObj ps') :: rest') → TabOk "_law_powers_right.<locals>.<lambda>" ps' rest' → (∀ p ∈ rest, p ∈ rest') → (∀ p ∈ rest', p.1 ≠ Dh) → (∀ p ∈ rest', p.1 ≠ 168) →
      Q (.bool true) { s with heap := h', toks := tk' }) :
    wpAny (model PySem.Challenge.rw_pq0913_01.row.prog w) (ktrTop dp un gd cn cs L a ccd cl []) (call (.ref 173) [.ref Dh]) Q E s :=
  c_pr Dh Ds vs ns hI hlen k hk0 hk1 tk ps rest hne off1 off2 hK dp un gd cn cs a ccd cl [] A₀ h₀ h₀ L m s Q E B F X N T hk X T ktsDicts_nil C hdp hun
    fun h₀' h' tk' tk2 ps' rest' kT kF kN kK hsub _ o1 o2 _ _ _ _ _ => hret h' tk' tk2 ps' rest' (fr_back kT rfl kF) (news_back kT rfl kN) kK hsub o1 o2
/-- between the turns of the law's first loop -/
structure La1 (Dh Ds I : Addr) (vs : List Value) (h₀ : Heap) (rest₀ : List (Addr × Obj)) (i : Nat) (g : Heap) (m : Str → Option Value) (news : List (Addr × Obj)) : Prop where
  eg : g = h₀
  ex : ∃ tk ps rest, news = (Dh, handObj Ds (3 * (i : Int)) tk) :: (Ds, W.listOf vs.toArray 0) :: (168, tabObj ps) :: rest ∧ TabOk "_law_powers_right.<locals>.<lambda>" ps rest ∧ (∀ p ∈ rest₀, p ∈ rest) ∧ (∀ p ∈ rest, p.1 ≠ Dh) ∧ (∀ p ∈ rest, p.1 ≠ 168)
  hand : m "hand" = some (.ref Dh)
  off : ∀ p ∈ news, p.1 ≠ I
theorem la1_next {Dh Ds I L : Addr} {vs : List Value} {h₀ h : Heap} {rest₀ rest rest' : List (Addr × Obj)} {i : Nat} {m : Str → Option Value} {k x l : Int} {tk : Tok} {ps : Array Value} {s : Shared} {tks : Nat}
    (F : Fr h₀ L h m) (N : News h₀ L h ((Dh, handObj Ds k tk) :: (Ds, W.listOf vs.toArray 0) :: (168, tabObj ps) :: rest')) (hk : k = 3 * (i : Int) + 3) (hK : TabOk "_law_powers_right.<locals>.<lambda>" ps rest') (hsub : ∀ p ∈ (I, itR x l) :: rest, p ∈ rest') (o1 : ∀ p ∈ rest', p.1 ≠ Dh) (o2 : ∀ p ∈ rest', p.1 ≠ 168)
    (h0 : ∀ p ∈ rest₀, p ∈ rest) (n1 : Dh < I) (n2 : Ds < I) (n3 : 168 < I) (no : ∀ p ∈ rest, p.1 ≠ I) (hand : m "hand" = some (.ref Dh)) :
    ∃ g' h' tk m' news', ({ s with heap := h, toks := tks } : Shared) = { s with heap := h', toks := tk } ∧ Fr g' L h' m' ∧ News g' L h' ((I, itR x l) :: news') ∧ (∀ p ∈ news', p.1 ≠ I) ∧ La1 Dh Ds I vs h₀ rest₀ (i + 1) g' m' news' := by
  subst hk
  have mf : ∀ p, p ∈ rest'.filter (fun p => decide (p.1 ≠ I)) ↔ p ∈ rest' ∧ p.1 ≠ I := fun p => by rw [List.mem_filter]; simp
  have hI : (I, itR x l) ∈ (Dh, handObj Ds (3 * (i : Int) + 3) tk) :: (Ds, W.listOf vs.toArray 0) :: (168, tabObj ps) :: rest' := .tail _ (.tail _ (.tail _ (hsub _ (.head _))))
  have off : ∀ p ∈ (Dh, handObj Ds (3 * (i : Int) + 3) tk) :: (Ds, W.listOf vs.toArray 0) :: (168, tabObj ps) :: rest'.filter (fun p => decide (p.1 ≠ I)), p.1 ≠ I := off_cons (Nat.ne_of_lt n1) (off_cons (Nat.ne_of_lt n2) (off_cons (Nat.ne_of_lt n3) fun p hp => ((mf p).mp hp).2))
  refine ⟨h₀, h, tks, m, (Dh, handObj Ds (3 * (i : Int) + 3) tk) :: (Ds, W.listOf vs.toArray 0) :: (168, tabObj ps) :: rest'.filter (fun p => decide (p.1 ≠ I)), rfl, F, news_c N hI (news_c N mh (news_c N (mt mh) (news_c N (mt (mt mh)) (news_sub N fun p hp => mt (mt (mt ((mf p).mp hp).1)))))), off, rfl, ⟨tk, ps, rest'.filter (fun p => decide (p.1 ≠ I)), ?_, hK.drop ?_, fun p hp => (mf p).mpr ⟨hsub p (.tail _ (h0 p hp)), no p (h0 p hp)⟩, fun p hp => o1 p ((mf p).mp hp).1, fun p hp => o2 p ((mf p).mp hp).1⟩, hand, off⟩
  · have e : 3 * (i : Int) + 3 = 3 * ((i + 1 : Nat) : Int) := by lia
    rw [e]
  · intro p hp
    by_cases z : p.1 = I
    · refine .inr fun vs t hd hv => ?_
      have h1 := N p (.tail _ (.tail _ (.tail _ hp)))
      obtain ⟨pa, po⟩ := p
      exact code_ne N hI (.tail _ (.tail _ (.tail _ hp))) hd hv z
    · exact .inl ((mf p).mpr ⟨hp, z⟩)
theorem la1_init {Dh Ds I : Addr} {vs : List Value} {h₀ : Heap} {rest₀ : List (Addr × Obj)} {m : Str → Option Value} {tk : Tok} (hand : m "hand" = some (.ref Dh)) (o1 : ∀ p ∈ rest₀, p.1 ≠ Dh) (o2 : ∀ p ∈ rest₀, p.1 ≠ 168)
    (off : ∀ p ∈ (Dh, handObj Ds 0 tk) :: (Ds, W.listOf vs.toArray 0) :: (168, tabObj #[]) :: rest₀, p.1 < I) : La1 Dh Ds I vs h₀ rest₀ 0 h₀ m ((Dh, handObj Ds 0 tk) :: (Ds, W.listOf vs.toArray 0) :: (168, tabObj #[]) :: rest₀) :=
  ⟨rfl, ⟨tk, #[], rest₀, rfl, TabOk.nil, (fun _ h => h), o1, o2⟩, hand, fun p hp => Nat.ne_of_lt (off p hp)⟩
/-- between the turns of the law's second loop -/
structure La2 (Dh Ds I ce : Addr) (vs : List Value) (h₀ : Heap) (i : Nat) (g : Heap) (m : Str → Option Value) (news : List (Addr × Obj)) : Prop where
  eg : g = h₀
  ex : ∃ tk ps oc ov codes, news = (Dh, handObj Ds (6 + 2 * (i : Int)) tk) :: (Ds, W.listOf vs.toArray 0) :: (175, tabObj ps) :: (ce, oc) :: codes ∧ oc.data = .cell ov ∧ TabOk "law.<locals>.<lambda>" ps codes ∧ (∀ p ∈ codes, p.1 ≠ Dh) ∧ (∀ p ∈ codes, p.1 ≠ 175) ∧ (∀ p ∈ codes, p.1 ≠ ce) ∧ ∃ ps1, (168, tabObj ps1) ∈ codes
  hand : m "hand" = some (.ref Dh)
  off : ∀ p ∈ news, p.1 ≠ I
end Mine
end
section
open PySem PySem.W PyProof.Rows
namespace Mine
open PySem.Builtin.Int (intBits)
open PySem.Spec PyProof.V PySem.Calls
theorem ClR.mono {w : World} {mean : ExcName → Option Value} {mg mb : Str → Option Value} {f : Addr} {d d' : Nat} {vs : List Value} {R : Tok → Value} (h : ClR w mean mg mb f d vs R) (hd : d ≤ d') : ClR w mean mg mb f d' vs R := by
  intro dp un gd cn cs a ccd cl outer A₀ base h₀ L m news s Q E B F X N T hk hdp hun hret
  exact h dp un gd cn cs a ccd cl outer A₀ base h₀ L m news s Q E B F X N T hk (by lia) (by lia) hret
theorem ClX.mono {w : World} {mean : ExcName → Option Value} {mg mb : Str → Option Value} {f : Addr} {d d' : Nat} {vs : List Value} {b : Array UInt8} (h : ClX w mean mg mb f d vs b) (hd : d ≤ d') : ClX w mean mg mb f d' vs b := by
  intro dp un gd cn cs a ccd cl outer A₀ base h₀ L m news s Q E B F X N T hk hdp hun hret
  exact h dp un gd cn cs a ccd cl outer A₀ base h₀ L m news s Q E B F X N T hk (by lia) (by lia) hret
/-- what the law's lambda gives through _law_done -/
noncomputable def DoneN (w : World) (mean : ExcName → Option Value) (mg mb : Str → Option Value) (bd : PySem.Expr) (ce : Addr) (n : Int) (V : Tok → Value) : Prop :=
  ∀ (f : Addr) (pm : Value) (c' : Addr) (ctv : Value) (oc : Obj) (vs : Array Value) (tq : Tok) (oe : Obj) (te : Tok) (rest : List (Addr × Obj)), oc.data = .fields vs → vs[1]? = some (.str "law.<locals>.<lambda>" tq) → oe.data = .cell (some (.int n te)) →
    ClT w mean mg mb 159 24 [.ref f] ((f, kla_obj "<lambda>" "law.<locals>.<lambda>" noArgs bd scN [("number", ce)] pm c' ctv) :: (c', oc) :: (ce, oe) :: rest) V
theorem dN_int {w : World} {mean : ExcName → Option Value} {mg mb : Str → Option Value} {ce : Addr} {n x : Int} (hb : intBits n ≤ 4000) (hx : fpow n = some x) (p1 p2 p3 : Pos) : DoneN w mean mg mb (bdN p1 p2 p3) ce n (fun t => .int x t) := by
  intro f pm c' ctv oc vs tq oe te rest hd1 hd2 he
  exact ClRN.toT (c_done_r _ _ _ _ _ _ _ _ _ _ _ _ (c_lamN_r f _ p1 p2 p3 pm c' ctv oc vs tq ce oe n te rest x hd1 hd2 he fun tv => (c_fp n tv x hb hx).mono (by decide)))
theorem dN_lim {w : World} {mean : ExcName → Option Value} {mg mb : Str → Option Value} {ce : Addr} {n : Int} (hb : intBits n ≤ 4000) (hx : fpow n = none) (p1 p2 p3 : Pos) : DoneN w mean mg mb (bdN p1 p2 p3) ce n (fun t => .bytes LIMB t) := by
  intro f pm c' ctv oc vs tq oe te rest hd1 hd2 he
  exact c_done_x _ _ _ _ _ _ _ _ _ _ _ _ (c_lamN_x f _ p1 p2 p3 pm c' ctv oc vs tq ce oe n te rest _ hd1 hd2 he fun tv => (c_fpx n tv hb hx).mono (by decide))
/-- what is known of the ledger in the law's second loop -/
structure LedN (Dh Ds ce : Addr) (ps : Array Value) (oe : Obj) (n : Int) (rest : List (Addr × Obj)) : Prop where
  d1 : Dh ≠ 175
  d2 : Ds ≠ 175
  d3 : ce ≠ 175
  o1 : ∀ p ∈ rest, p.1 ≠ Dh
  o2 : ∀ p ∈ rest, p.1 ≠ 175
  o3 : ∀ p ∈ rest, p.1 ≠ ce
  K : TabOk "law.<locals>.<lambda>" ps rest
  de : ∃ t, oe.data = .cell (some (.int n t))
theorem mk_lamN {M : Model} {A : Around} {E : Value → Shared → Prop} {s : Shared} {h₀ : Heap} {L a Dh Ds ce : Addr} {m mg mb : Str → Option Value} {cn : Str} {cs : Scope} {cl : List (Str × Addr)} {rest : List (Addr × Obj)}
  {p : Program} {loose : List Str} {mean : ExcName → Option Value} {params : Arguments} {body : PySem.Expr} {scope : Scope} {ps : Array Value} {pos : Pos} {clos : List (Str × Addr)} {Q : Value → Shared → Prop} {oh os oe : Obj} {n : Int}
    (F : Fr h₀ L s.heap m) (N : News h₀ L s.heap ((Dh, oh) :: (Ds, os) :: (175, tabObj ps) :: (ce, oe) :: rest)) (T : Top p loose mean mg mb h₀) (C : CodeHd h₀ 179 175) (LD : LedN Dh Ds ce ps oe n rest)
    (hq : (envX cn cs L a (.ref 179) cl).qual ++ "<lambda>" = "law.<locals>.<lambda>") (hdef : defaultsOf params (envX cn cs L a (.ref 179) cl) = ([], [])) (hcl : closureFor scope (envX cn cs L a (.ref 179) cl) = pure clos)
    (h : ∀ f c' oc vs t ctv h' tk ps', Fr h₀ L h' m →
      News h₀ L h' ((f, kla_obj "<lambda>" "law.<locals>.<lambda>" params body scope clos ((mg "__name__").getD .none) c' ctv) :: (c', oc) :: (ce, oe) :: (175, tabObj ps') :: (Dh, oh) :: (Ds, os) :: rest) →
      oc.data = .fields vs → vs[1]? = some (.str "law.<locals>.<lambda>" t) → LedN Dh Ds ce ps' oe n ((c', oc) :: rest) → Q (.ref f) { s with heap := h', toks := tk }) :
    wpAny M A (eval (.Lambda params body scope pos) (envX cn cs L a (.ref 179) cl)) Q E s := by
  have N2 : News h₀ L s.heap ((175, tabObj ps) :: (Dh, oh) :: (Ds, os) :: (ce, oe) :: rest) := news_sub N (by with_reducible repeat' (first | exact Mine.sub_rfl | refine Mine.sub_c ?_ ?_ | exact Mine.mh | refine Mine.mt ?_ | refine Mine.sub_tl ?_))
  have off : ∀ q ∈ (Dh, oh) :: (Ds, os) :: (ce, oe) :: rest, q.1 ≠ 175 := off_cons LD.d1 (off_cons LD.d2 (off_cons LD.d3 LD.o2))
  refine mk_lam F N2 T C rfl off (fun p hp => .tail _ (.tail _ (.tail _ hp))) (by rw [hq]; exact LD.K) hdef hcl fun f c' oc vs t ctv h' tk ps' F' N' hd hv K' off' hc _ => ?_
  rw [hq] at N' hv K'
  have low : ∀ b, (b = Dh ∨ b = ce) → (∀ q ∈ rest, q.1 ≠ b) → c' ≠ b := fun b hb hr => by
    rcases hc with hc | hc
    · rcases hb with rfl | rfl
      · exact Nat.ne_of_gt (hc _ (.head _))
      · exact Nat.ne_of_gt (hc _ (.tail _ (.tail _ (.head _))))
    · exact hr _ hc
  refine h f c' oc vs t ctv h' tk ps' F' (news_sub N' (by with_reducible repeat' (first | exact Mine.sub_rfl | refine Mine.sub_c ?_ ?_ | exact Mine.mh | refine Mine.mt ?_ | refine Mine.sub_tl ?_))) hd hv ⟨LD.d1, LD.d2, LD.d3, off_cons (low _ (.inl rfl) LD.o1) LD.o1, off_cons (off' _ (.head _)) LD.o2, off_cons (low _ (.inr rfl) LD.o3) LD.o3, K', LD.de⟩
theorem lamN_call {w : World} {mean : ExcName → Option Value} {mg mb : Str → Option Value} {bd : PySem.Expr} {Dh Ds ce f c' : Addr} {pm ctv : Value} {oc oh os oe : Obj} {ps ps₀ : Array Value} {n : Int} {V : Tok → Value} {vs : Array Value} {tq : Tok} {rest rest₀ : List (Addr × Obj)}
    {dp un : Nat} {gd : Option (List Code)} {cn : Str} {cs : Scope} {a : Addr} {ccd : Value} {cl : List (Str × Addr)} {A₀ : Around} {h₀ : Heap} {L : Addr} {m : Str → Option Value} {s : Shared} {Q E : Value → Shared → Prop}
    (N : News h₀ L s.heap ((f, kla_obj "<lambda>" "law.<locals>.<lambda>" noArgs bd scN [("number", ce)] pm c' ctv) :: (c', oc) :: (ce, oe) :: (175, tabObj ps) :: (Dh, oh) :: (Ds, os) :: rest)) (hd1 : oc.data = .fields vs) (hd2 : vs[1]? = some (.str "law.<locals>.<lambda>" tq)) (LD : LedN Dh Ds ce ps₀ oe n rest₀)
    (HD : DoneN w mean mg mb bd ce n V)
    (B : Below A₀ h₀ [] h₀) (F : Fr h₀ L s.heap m) (X : (Mine.hd.heap_39 w.params).In h₀) (T : Top topProg LS mean mg mb h₀) (hk : cs.kind = .function)
    (hd : dp + 24 < recursionLimit) (hu : un + 8 * 24 < cLine)
    (ret : ∀ t h' tk', Fr h₀ L h' m → News h₀ L h' ((Dh, oh) :: (Ds, os) :: (175, tabObj ps) :: (ce, oe) :: (c', oc) :: rest) → Q (V t) { s with heap := h', toks := tk' }) :
    wpAny (model PySem.Challenge.rw_pq0913_01.row.prog w) (ktrTop dp un gd cn cs L a ccd cl []) (call (.ref 159) [.ref f]) Q E s := by
  obtain ⟨te, he⟩ := LD.de
  refine ClT.use (HD f pm c' ctv oc vs tq oe te _ hd1 hd2 he) B F X N T hk X T ktsDicts_nil hd hu fun t h₀' h' tk' kT kF kN kB kX kP kD => ?_
  refine ret t h' tk' (fr_back kT rfl kF) (news_back kT rfl (news_sub kN (by with_reducible repeat' (first | exact Mine.sub_rfl | refine Mine.sub_c ?_ ?_ | exact Mine.mh | refine Mine.mt ?_ | refine Mine.sub_tl ?_))))
theorem la2_next {Dh Ds I ce c' L : Addr} {vs : List Value} {h₀ h : Heap} {codes : List (Addr × Obj)} {i : Nat} {m : Str → Option Value} {k x l n : Int} {tk tq : Tok} {ps vc : Array Value} {s : Shared} {tks : Nat} {oe oc : Obj}
    (F : Fr h₀ L h m) (N : News h₀ L h ((Dh, handObj Ds k tk) :: (Ds, W.listOf vs.toArray 0) :: (175, tabObj ps) :: (ce, oe) :: (c', oc) :: (I, itR x l) :: codes)) (hk : k = 6 + 2 * (i : Int) + 1 + 1) (LD : LedN Dh Ds ce ps oe n ((c', oc) :: (I, itR x l) :: codes))
    (hd1 : oc.data = .fields vc) (hd2 : vc[1]? = some (.str "law.<locals>.<lambda>" tq)) (n1 : Dh < I) (n2 : Ds < I) (n3 : 175 < I) (n4 : ce < I) (no : ∀ p ∈ codes, p.1 ≠ I) (h168 : ∃ ps1, (168, tabObj ps1) ∈ codes) (hand : m "hand" = some (.ref Dh)) :
    ∃ g' h' tk m' news', ({ s with heap := h, toks := tks } : Shared) = { s with heap := h', toks := tk } ∧ Fr g' L h' m' ∧ News g' L h' ((I, itR x l) :: news') ∧ (∀ p ∈ news', p.1 ≠ I) ∧ La2 Dh Ds I ce vs h₀ (i + 1) g' m' news' := by
  subst hk
  have hI : (I, itR x l) ∈ (Dh, handObj Ds (6 + 2 * (i : Int) + 1 + 1) tk) :: (Ds, W.listOf vs.toArray 0) :: (175, tabObj ps) :: (ce, oe) :: (c', oc) :: (I, itR x l) :: codes := mt (mt (mt (mt (mt mh))))
  have a1 := code_ne N hI (c := c') (oc := oc) (mt (mt (mt (mt mh)))) hd1 hd2
  have off : ∀ p ∈ (Dh, handObj Ds (6 + 2 * (i : Int) + 1 + 1) tk) :: (Ds, W.listOf vs.toArray 0) :: (175, tabObj ps) :: (ce, oe) :: (c', oc) :: codes, p.1 ≠ I := off_cons (Nat.ne_of_lt n1) (off_cons (Nat.ne_of_lt n2) (off_cons (Nat.ne_of_lt n3) (off_cons (Nat.ne_of_lt n4) (off_cons a1 no))))
  have sub : ∀ p ∈ (c', oc) :: codes, p ∈ (c', oc) :: (I, itR x l) :: codes := sub_c mh fun p hp => .tail _ (.tail _ hp)
  obtain ⟨te, de⟩ := LD.de
  refine ⟨h₀, h, tks, m, (Dh, handObj Ds (6 + 2 * (i : Int) + 1 + 1) tk) :: (Ds, W.listOf vs.toArray 0) :: (175, tabObj ps) :: (ce, oe) :: (c', oc) :: codes, rfl, F, news_sub N (by with_reducible repeat' (first | exact Mine.sub_rfl | refine Mine.sub_c ?_ ?_ | exact Mine.mh | refine Mine.mt ?_ | refine Mine.sub_tl ?_)), off, rfl, ⟨tk, ps, oe, _, (c', oc) :: codes, ?_, de, LD.K.drop ?_, fun p hp => LD.o1 p (sub p hp), fun p hp => LD.o2 p (sub p hp), (fun p hp => LD.o3 p (sub p hp)), h168.imp fun _ h => .tail _ h⟩, hand, off⟩
  · have e : 6 + 2 * (i : Int) + 1 + 1 = 6 + 2 * ((i + 1 : Nat) : Int) := by lia
    rw [e]
  · exact all_c (.inl mh) (all_c (.inr fun vs t => itR_no x l vs _ t) fun p hp => .inl (.tail _ hp))
theorem la2_init {Dh Ds I ce : Addr} {vs : List Value} {h₀ : Heap} {m : Str → Option Value} {tk : Tok} {ps1 : Array Value} {oc : Obj} {ov : Option Value} (hand : m "hand" = some (.ref Dh)) (hc : oc.data = .cell ov) (n1 : 168 ≠ Dh) (n2 : 168 ≠ ce)
    (off : ∀ p ∈ (Dh, handObj Ds 6 tk) :: (Ds, W.listOf vs.toArray 0) :: (175, tabObj #[]) :: (ce, oc) :: (168, tabObj ps1) :: [], p.1 < I) : La2 Dh Ds I ce vs h₀ 0 h₀ m ((Dh, handObj Ds 6 tk) :: (Ds, W.listOf vs.toArray 0) :: (175, tabObj #[]) :: (ce, oc) :: (168, tabObj ps1) :: []) :=
  ⟨rfl, ⟨tk, #[], oc, ov, [(168, tabObj ps1)], rfl, hc, TabOk.nil, off_cons n1 fun _ h => (nomatch h), off_cons (by decide) fun _ h => (nomatch h), off_cons n2 fun _ h => (nomatch h), ps1, .head _⟩, hand, fun p hp => Nat.ne_of_lt (off p hp)⟩
theorem c_lg1 {w : World} {mean : ExcName → Option Value} {mg mb : Str → Option Value} (tv : Tok) : ClR w mean mg mb 89 10 [.int 1000000 tv] (fun t => .int 0 t) := by
  have h := c_lg (w := w) (mean := mean) (mg := mg) (mb := mb) 1000000 tv (by decide) (by decide)
  rw [flog_one] at h
  exact h
theorem reord5 {g : Heap} {L : Addr} {h : Heap} {a b c d e : Addr × Obj} (N : News g L h [a, b, c, d, e]) : News g L h [a, b, d, c, e] := news_sub N (by with_reducible repeat' (first | exact Mine.sub_rfl | refine Mine.sub_c ?_ ?_ | exact Mine.mh | refine Mine.mt ?_ | refine Mine.sub_tl ?_))
theorem reordI {g : Heap} {L : Addr} {h : Heap} {x a b c : Addr × Obj} {rest : List (Addr × Obj)} (N : News g L h (x :: a :: b :: c :: rest)) : News g L h (a :: b :: c :: x :: rest) := news_sub N (by with_reducible repeat' (first | exact Mine.sub_rfl | refine Mine.sub_c ?_ ?_ | exact Mine.mh | refine Mine.mt ?_ | refine Mine.sub_tl ?_))
theorem reordJ {g : Heap} {L : Addr} {h : Heap} {x a b c d : Addr × Obj} {rest : List (Addr × Obj)} (N : News g L h (x :: a :: b :: c :: d :: rest)) : News g L h (a :: b :: c :: d :: x :: rest) := news_sub N (by with_reducible repeat' (first | exact Mine.sub_rfl | refine Mine.sub_c ?_ ?_ | exact Mine.mh | refine Mine.mt ?_ | refine Mine.sub_tl ?_))
theorem to_two {g : Heap} {L : Addr} {h : Heap} {Dh Ds ce : Addr} {tk : Tok} {vs : Array Value} {ps : Array Value} {oc : Obj} {rest : List (Addr × Obj)} (N : News g L h ((Dh, handObj Ds (3 * ((0 + 2 : Nat) : Int)) tk) :: (Ds, W.listOf vs 0) :: (168, tabObj ps) :: rest)) (hs : ∀ p ∈ [(ce, oc), (175, tabObj #[])], p ∈ rest) :
    News g L h [(Dh, handObj Ds 6 tk), (Ds, W.listOf vs 0), (175, tabObj #[]), (ce, oc), (168, tabObj ps)] := fun p hp => by
  have e : 3 * ((0 + 2 : Nat) : Int) = 6 := by decide
  rw [e] at N
  exact news_c N mh (news_c N (mt mh) (news_c N (mt (mt (mt (hs _ (mt mh))))) (news_c N (mt (mt (mt (hs _ mh)))) (news_c N (mt (mt mh)) (show News g L h [] from fun _ h => nomatch h))))) p hp
noncomputable def Gone2 : Prop := True
theorem law_case {rW rR n : Int} (h1 : 0 ≤ rW) (h2 : rW < 101) (h3 : 0 ≤ rR) (h4 : rR < 1000003) (hn : (rW - 50) * 1000000000000000000000000000000000000 + rR * 999983 * 10 ^ Int.toNat 24 = n) :
    intBits n ≤ 4000 ∧ ((fpow n = none ∧ DueX (n * Int.fdiv (10 ^ Int.toNat 50) 1000000000000000000000000000000000000)) ∨ ∃ x, fpow n = some x ∧ DueI x (n * Int.fdiv (10 ^ Int.toNat 50) 1000000000000000000000000000000000000)) := by
  have e : Int.fdiv (10 ^ Int.toNat 50) 1000000000000000000000000000000000000 = 100000000000000 := by decide +kernel
  have e2 : (10 : Int) ^ Int.toNat 24 = 1000000000000000000000000 := by decide
  rw [e2] at hn
  rw [e]
  refine ⟨?_, plain_law (wh := rW - 50) (re := rR) (by lia) (by lia) h3 h4 (by lia)⟩
  refine intBits_le (Nat.lt_of_le_of_lt (show n.natAbs ≤ 1000000000000000000000000000000000000000000 by lia) ?_)
  exact Nat.lt_of_lt_of_le (show 1000000000000000000000000000000000000000000 < 2 ^ 200 by decide) (Nat.pow_le_pow_right (by decide) (by decide))
end Mine
end
section
open PySem PySem.W PyProof.Rows
namespace Mine
open PySem.Builtin.Int (intBits)
/-- an equation held back from the walk -/
noncomputable def Hid {α : Type} (a b : α) : Prop := a = b
theorem wp_hide {M : Model} {A : Around} {body : List Stmt} {env : Env} {Q : Flow → Shared → Prop} {E : Value → Shared → Prop} {s : Shared} (hE : PassesOwn M A env E) (h : ∀ Q' E', Hid Q' Q → PassesOwn M A env E' → wpAny M A (execs body env) Q' E' s) : wpAny M A (execs body env) Q E s := h Q E rfl hE
set_option maxRecDepth 100000 in
set_option maxHeartbeats 80000000 in
theorem cw : PySem.Challenge.rw_pq0913_01.Holds := by
  k_with_none
  k_with "@bits" => with_reducible assumption
  k_with "@bits" => ((with_reducible apply Mine.bits_divd); bits_by_make)
  k_with "@bits" => ((with_reducible apply Mine.bits_prod) <;> bits_by_make)
  k_with "@binaryOp FloorDiv int int" => (k_here; (with_reducible refine floordiv_int ?kbe ?_ (Or.inl ?kbp)); (case kbe => first | omega | (split <;> omega) | k_dflt (have q9 := Mine.GwOk.kb (by assumption); omega) | k_dflt (have q9 := Mine.SqOk.pos (by assumption); omega)); (case kbp => ((with_reducible apply Mine.py_of_bits); (bits_by_make); decide)))
  k_with "@callWith ref" => (k_here; k_dflt (first | (refine' callWith_K ?k1 ?k2 ?_; (case k1 => with_reducible assumption); (case k2 => k_is); k_whole) | (refine' callWith_K0 ?k1 ?k2 ?_; (case k1 => exact Frag.In.keeps (by with_reducible assumption) (Fr.keep (by with_reducible assumption))); (case k2 => k_is); k_whole)))
  k_with "@execs nil" => (with_reducible refine wpAny_execs_nil ?_)
  k_with "@eval Name" => (k_here; name_kind "local"; k_dflt (refine' nameX_L ?qF ?qv ?_ ?qa ?qb; (case qa => rfl); (case qb => rfl); (case qF => with_reducible assumption); (case qv => rfl); k_whole))
  k_with "@eval Name" => (k_here; name_kind "globalImplicit"; k_dflt (refine' nameX_K ?qF ?qX ?qT ?qe ?_ ?qa ?qb; (case qa => rfl); (case qb => rfl); (case qF => with_reducible assumption); (case qX => with_reducible assumption); (case qT => with_reducible assumption); (case qe => k_is); k_whole))
  k_with "@bits_fit" => ((with_reducible apply Mine.bits_le'); (bits_by_make); decide)
  k_with "@bits" => with_reducible exact Mine.bits_F36
  k_with "@bits" => with_reducible exact Mine.bits_S50
  k_with "@exec For Name Call cons nil" => (k_here; refine Mine.Stop.mk ?_)
  k_with "@call ref" => (k_here; (with_reducible show wpAny _ _ (PySem.call (Value.ref 173) _) _ _ _); k_dflt (refine' Mine.c_pr0 Dh Ds vs _ hIs ?hlen _ ?k0 ?k1 _ _ _ ?hne ?o1 ?o2 ?hK _ _ _ _ _ _ _ _ _ _ _ _ _ _ _ ?qB ?qF ?qX ?qN ?qT ?hk ?qC ?hd ?hu ?_; (case qN => assumption); (case hlen => assumption); (case k0 => omega); (case k1 => omega); (case hne => assumption); (case o1 => assumption); (case o2 => assumption); (case hK => assumption); (case qB => k_asm); (case qF => k_asm); (case qX => k_asm); (case qT => k_asm); (case hk => first | exact rfl | assumption); (case qC => assumption); (case hd => ktr_room); (case hu => ktr_units)); intro hP9 tkP tkP2 psP restP FP NP KP subP o1P o2P; (try dsimp only); (try k_fold))
  k_with "@eval Name" => (k_here; k_dflt (refine' nameX_L ?qF ?qv ?_ ?qa ?qb ?qc; (case qa => exact rfl); (case qb => exact rfl); (case qc => decide); (case qF => k_asm); (case qv => assumption); k_whole))
  k_with "@call ref" => (k_here; (with_reducible show wpAny _ _ (PySem.call (Value.ref 138) [Value.ref _, Value.int 101 _]) _ _ _); k_dflt (refine' Mine.c_next _ _ _ _ hIs hlen _ ?k0 ?k1 _ _ _ ?hm ?hm2 _ ?hne _ _ _ _ _ _ _ _ _ _ _ _ _ _ _ _ _ ?qB ?qF ?qX ?qN ?qT ?hk ?hd ?hu ?_; (case qN => k_asm); (case k0 => omega); (case k1 => omega); (case hm => decide); (case hm2 => decide); (case hne => assumption); (case qB => k_asm); (case qF => k_asm); (case qX => k_asm); (case qT => k_asm); (case hk => first | exact rfl | assumption); (case hd => ktr_room); (case hu => ktr_units)); intro rW tW tkW hW9 tkW8 raW rbW FW NW; (try dsimp only); (try k_fold))
  k_with "@call ref" => (k_here; (with_reducible show wpAny _ _ (PySem.call (Value.ref 138) [Value.ref _, Value.int 1000003 _]) _ _ _); k_dflt (refine' Mine.c_next _ _ _ _ hIs hlen _ ?k0 ?k1 _ _ _ ?hm ?hm2 _ ?hne _ _ _ _ _ _ _ _ _ _ _ _ _ _ _ _ _ ?qB ?qF ?qX ?qN ?qT ?hk ?hd ?hu ?_; (case qN => k_asm); (case k0 => omega); (case k1 => omega); (case hm => decide); (case hm2 => decide); (case hne => assumption); (case qB => k_asm); (case qF => k_asm); (case qX => k_asm); (case qT => k_asm); (case hk => first | exact rfl | assumption); (case hd => ktr_room); (case hu => ktr_units)); intro rR tR tkR hR9 tkR8 raR rbR FR NR; (try dsimp only); (try k_fold))
  k_with "@binaryOp Pow int int" => (k_here; (with_reducible refine pow_int_small ?kb1 ?kb2 ?kb3 ?_); (case kb1 => decide); (case kb2 => decide); (case kb3 => decide))
  k_with "@call ref" => (k_here; (with_reducible show wpAny _ _ (PySem.call (Value.ref 117) _) _ _ _); (show wpAny _ _ (PySem.call (Value.ref 117) []) _ _ _); k_dflt (refine' ClR.use (c_sc) ?k1 ?k2 ?k3 ?k4 ?k5 ?kK ?kd ?ku ?_; (case k1 => k_asm); (case k2 => k_asm); (case k3 => k_asm); (case k4 => k_asm); (case k5 => k_asm); (case kK => first | exact rfl | assumption); (case kd => ktr_room); (case ku => ktr_units)); intro t9 h9 tk9 F9 N9; (try dsimp only); (try k_fold))
  k_with "@exec Assign" => (k_here; (fail_if_success (have q9 : Mine.Gone := by assumption)); (with_reducible show wpAny _ _ (exec (Stmt.Assign [PySem.Expr.Name (Str.ofString "number") _] _ _) _) _ _ _); refine Mine.Stop.mk ?_)
  k_with "@call ref" => (k_here; (with_reducible show wpAny _ _ (PySem.call (Value.ref 89) [Value.int _ _]) _ _ _); k_dflt (refine' ClR.use (c_lg1 _) ?k1 ?k2 ?k3 ?k4 ?k5 ?kK ?kd ?ku ?_; (case k1 => k_asm); (case k2 => k_asm); (case k3 => k_asm); (case k4 => k_asm); (case k5 => k_asm); (case kK => first | exact rfl | assumption); (case kd => ktr_room); (case ku => ktr_units)); intro t9 h9 tk9 F9 N9; (try dsimp only); (try k_fold))
  k_with "@exec If" => (k_here; (have q9 : Mine.Gone := by assumption); (fail_if_success (have q9 : Mine.Gone2 := by assumption)); refine Mine.Stop.mk ?_)
  k_with "@storeName" => (k_here; k_dflt (refine' storeX_C ?qF (Mine.news_tl ?qN) ?qc ?qU ?qd ?_ ?qa ?qb; (case qa => exact rfl); (case qb => exact rfl); (case qF => k_asm); (case qN => k_asm); (case qc => exact rfl); (case qU => exact UpdF.tail (by assumption) (UpdF.tail (by assumption) (UpdF.tail (by assumption) (UpdF.head (by assumption))))); (case qd => assumption); k_whole); intro hS oS FS NS dS; (try dsimp only at NS); (try dsimp only); (try k_fold))
  k_with "@eval Lambda" => (k_here; k_dflt (refine' Mine.mk_lamN ?qF ?qN ?qT ?qC ?qLD ?qq ?qdf ?qcl ?_; (case qF => k_asm); (case qN => k_asm); (case qT => k_asm); (case qC => assumption); (case qLD => assumption); (case qq => exact rfl); (case qdf => exact rfl); (case qcl => exact rfl); k_whole); intro f9 c9 oc9 vs9 t9 ctv9 h9 tk9 ps9 F9 N9 d9 e9 LD9; (try dsimp only); (try k_fold))
  k_with "@call ref" => (k_here; (with_reducible show wpAny _ _ (PySem.call (Value.ref 159) [Value.ref _]) _ _ _); k_dflt (refine' Mine.lamN_call ?qN ?qh1 ?qh2 ?qLD ?qHD ?qB ?qF ?qX ?qT ?qhk ?qhd ?qhu ?_; (case qN => k_asm); (case qh1 => assumption); (case qh2 => assumption); (case qLD => assumption); (case qB => k_asm); (case qF => k_asm); (case qX => k_asm); (case qT => k_asm); (case qHD => k_dflt (first | exact Mine.dN_int bn hx _ _ _ | exact Mine.dN_lim bn hx _ _ _)); (case qhk => first | exact rfl | assumption); (case qhd => ktr_room); (case qhu => ktr_units); intro tT hT9 tkT FT NT; (try dsimp only); (try k_fold)))
  k_with "@call ref" => (k_here; (with_reducible show wpAny _ _ (PySem.call (Value.ref 166) _) _ _ _); k_dflt (refine' Mine.ClR.use (Mine.c_due_x _ _ _ hX) ?k1 ?k2 ?k3 ?k4 ?k5 ?kK ?kd ?ku ?_; (case k1 => k_asm); (case k2 => k_asm); (case k3 => k_asm); (case k4 => k_asm); (case k5 => k_asm); (case kK => first | exact rfl | assumption); (case kd => ktr_room); (case ku => ktr_units)); intro tU hU9 tkU FU NU; (try dsimp only); (try k_fold))
  k_with "@call ref" => (k_here; (with_reducible show wpAny _ _ (PySem.call (Value.ref 166) _) _ _ _); k_dflt (refine' Mine.ClR.use (Mine.c_due_i _ _ _ _ hI9) ?k1 ?k2 ?k3 ?k4 ?k5 ?kK ?kd ?ku ?_; (case k1 => k_asm); (case k2 => k_asm); (case k3 => k_asm); (case k4 => k_asm); (case k5 => k_asm); (case kK => first | exact rfl | assumption); (case kd => ktr_room); (case ku => ktr_units)); intro tU hU9 tkU FU NU; (try dsimp only); (try k_fold))
  k_with "@GrownAll" => refine Mine.Stop.mk ?_
  refine hd ?_
  k_go0
  all_goals try k_fold
  refine wp_hide (by passes_own) fun Q' E' hQ' hE' => ?_
  k_steps
  unfold Mine.Stop
  rename_i Ds vs hx1 hIs hC hLL l1a Dh hx2 l1b hx3 FF NN
  have hlen := Nat.le_trans (Nat.le_of_eq hC) (Nat.min_le_left 40 _)
  have NN2 := Mine.reord5 NN
  clear NN
  have gDs : Ds < Dh := l1b.1
  have gce : _ + 1 < Dh := l1b.2.1
  have g168 : 168 < Dh := l1b.2.2.1
  have g175 : 175 < Dh := l1b.2.2.2
  have s168 : 168 < Ds := l1a.2.1
  have s175 : 175 < Ds := l1a.2.2
  have sce : _ + 1 < Ds := l1a.1
  have hsz := (by assumption : 168 < _ ∧ 175 < _)
  have hne : Ds ≠ Dh := Nat.ne_of_lt gDs
  refine For_T (by with_unfolding_all rfl) (by with_unfolding_all rfl) (by with_unfolding_all rfl) ?_ (hE := hE')
  k_steps
  refine iter_T (n := 2) (by assumption) (by decide) (by decide) (by assumption) (by assumption) ?_
  intro I s₂ lI hs2
  obtain ⟨h2, rfl⟩ := hs2
  refine' turnRest_ind (fun i g m news => La1 Dh Ds I vs _ _ i g m news) ?step ?fin 2 0 rfl _ _ _ (Mine.la1_init ?hand ?o1 ?o2 lI)
  case hand => repeat' (first | exact rfl | rw [if_neg (by decide)])
  case o1 => exact Mine.off_cons (Nat.ne_of_lt gce) (Mine.off_cons (Nat.ne_of_lt g175) Mine.off_nil)
  case o2 => exact Mine.off_cons (Nat.ne_of_gt (Nat.lt_succ_of_lt hsz.1)) (Mine.off_cons (by decide) Mine.off_nil)
  case step =>
    intro i g m news t h tk hi hC1 F N
    obtain ⟨rfl, ⟨tk9, ps9, rest9, rfl, K9, hsub, o1, o2⟩, hH, hoI⟩ := hC1
    have ho9 : ∀ p ∈ rest9, p.1 ≠ I := fun p hp => hoI p (.tail _ (.tail _ (.tail _ hp)))
    have lI3 : Dh < I := lI (Dh, _) (.head _)
    have lI5 : Ds < I := lI (Ds, _) (.tail _ (.head _))
    have lI4 : 168 < I := lI (168, _) (.tail _ (.tail _ (.head _)))
    have o1b := Mine.off_cons (o := itR ((i + 1 : Nat) : Int) (((0 + 2 : Nat) : Int) - ((i + 1 : Nat) : Int))) (Nat.ne_of_gt lI3) o1
    have o2b := Mine.off_cons (o := itR ((i + 1 : Nat) : Int) (((0 + 2 : Nat) : Int) - ((i + 1 : Nat) : Int))) (Nat.ne_of_gt lI4) o2
    have K9b : TabOk "_law_powers_right.<locals>.<lambda>" ps9 ((I, itR ((i + 1 : Nat) : Int) (((0 + 2 : Nat) : Int) - ((i + 1 : Nat) : Int))) :: rest9) := K9.sub fun _ h => .tail _ h
    have N10 := Mine.reordI N
    clear N o1 o2 K9 hoI
    k_steps
    unfold Mine.TurnPost
    dsimp only
    k_dflt (refine' Mine.la1_next ?F ?N rfl KP subP o1P o2P hsub lI3 lI5 lI4 ho9 ?hh; (case F => k_asm); (case N => k_asm); (case hh => repeat' (first | exact hH | rw [if_neg (by decide)])))
  case fin =>
    intro g m news h tk hC1 F N
    obtain ⟨rfl, ⟨tk9, ps9, rest9, rfl, K9, hsub, o1, o2⟩, hH, hoI⟩ := hC1
    have N3 := Mine.to_two N hsub
    clear N hsub K9 o1 o2 hoI lI
    k_steps
    unfold Mine.Stop
    refine For_T (by with_unfolding_all rfl) (by with_unfolding_all rfl) (by with_unfolding_all rfl) ?_ (hE := hE')
    k_steps
    refine iter_T (n := 2) (by assumption) (by decide) (by decide) (by assumption) (by assumption) ?_
    intro I2 s₂ lI hs2
    obtain ⟨h3, rfl⟩ := hs2
    refine' turnRest_ind (fun i g m news => La2 Dh Ds I2 _ vs _ i g m news) ?step2 ?fin2 2 0 rfl _ _ _ (Mine.la2_init ?hand2 ?hc2 (Nat.ne_of_lt g168) ?h168 lI)
    case hand2 => repeat' (first | exact hH | rw [if_neg (by decide)])
    case hc2 => assumption
    case h168 => exact Nat.ne_of_lt (Nat.lt_succ_of_lt hsz.1)
    case step2 =>
      intro i g m news t h tk hi hC2 F N
      obtain ⟨rfl, ⟨tk8, ps8, oc8, ov8, codes, rfl, dc8, K8, o1, o2, o3, h168⟩, hH2, hoI⟩ := hC2
      have ho9 : ∀ p ∈ codes, p.1 ≠ I2 := fun p hp => hoI p (.tail _ (.tail _ (.tail _ (.tail _ hp))))
      have lI3 : Dh < I2 := lI (Dh, _) (.head _)
      have lI5 : Ds < I2 := lI (Ds, _) (.tail _ (.head _))
      have lI4 : 175 < I2 := lI (175, _) (.tail _ (.tail _ (.head _)))
      have lI6 : _ + 1 < I2 := lI (_ + 1, _) (.tail _ (.tail _ (.tail _ (.head _))))
      have o1b := Mine.off_cons (o := itR ((i + 1 : Nat) : Int) (((0 + 2 : Nat) : Int) - ((i + 1 : Nat) : Int))) (Nat.ne_of_gt lI3) o1
      have o2b := Mine.off_cons (o := itR ((i + 1 : Nat) : Int) (((0 + 2 : Nat) : Int) - ((i + 1 : Nat) : Int))) (Nat.ne_of_gt lI4) o2
      have o3b := Mine.off_cons (o := itR ((i + 1 : Nat) : Int) (((0 + 2 : Nat) : Int) - ((i + 1 : Nat) : Int))) (Nat.ne_of_gt lI6) o3
      have z1 : Dh ≠ _ + 1 := Nat.ne_of_gt gce
      have z2 : Ds ≠ _ + 1 := Nat.ne_of_gt sce
      have z3 : 175 ≠ _ + 1 := Nat.ne_of_lt (Nat.lt_succ_of_lt hsz.2)
      have n3a : ∀ p ∈ (Ds, W.listOf vs.toArray 0) :: (175, tabObj ps8) :: (_ + 1, oc8) :: (I2, itR ((i + 1 : Nat) : Int) (((0 + 2 : Nat) : Int) - ((i + 1 : Nat) : Int))) :: codes, p.1 ≠ Dh := Mine.off_cons hne (Mine.off_cons (Nat.ne_of_lt g175) (Mine.off_cons (Nat.ne_of_lt gce) o1b))
      have N10 := Mine.reordJ N
      clear N o1 o2 o3 hoI
      k_steps
      unfold Mine.Stop
      have gone : Mine.Gone := trivial
      have bW : intBits (rW - 50) ≤ 64 := intBits_le_64 (by omega) (by omega)
      have bR : intBits rR ≤ 64 := intBits_le_64 (by omega) (by omega)
      k_steps
      unfold Mine.Stop
      have gone2 : Mine.Gone2 := trivial
      obtain ⟨n, hn⟩ : ∃ n : Int, (rW - 50) * 1000000000000000000000000000000000000 + rR * 999983 * 10 ^ Int.toNat 24 = n := ⟨_, rfl⟩
      obtain ⟨tN, dS2⟩ : ∃ t, oS.data = Data.cell (some (Value.int n t)) := by rw [← hn]; exact ⟨_, dS⟩
      clear dS
      have LD : LedN Dh Ds _ ps8 oS n ((I2, itR ((i + 1 : Nat) : Int) (((0 + 2 : Nat) : Int) - ((i + 1 : Nat) : Int))) :: codes) := ⟨Nat.ne_of_gt g175, Nat.ne_of_gt s175, Ne.symm z3, o1b, o2b, o3b, K8.sub fun _ h => .tail _ h, ⟨tN, dS2⟩⟩
      obtain ⟨bn, ⟨hx, hX⟩ | ⟨x, hx, hI9⟩⟩ := Mine.law_case raW rbW raR rbR hn
      · have z0 := True.intro
        k_steps
        unfold Mine.TurnPost
        dsimp only
        k_dflt (refine' Mine.la2_next ?F ?N rfl ?LD ?d1 ?e1 lI3 lI5 lI4 lI6 ho9 h168 ?hh; (case F => k_asm); (case N => k_asm); (case LD => assumption); (case d1 => assumption); (case e1 => assumption); (case hh => repeat' (first | exact hH2 | rw [if_neg (by decide)])))
      · k_steps
        unfold Mine.TurnPost
        dsimp only
        k_dflt (refine' Mine.la2_next ?F ?N rfl ?LD ?d1 ?e1 lI3 lI5 lI4 lI6 ho9 h168 ?hh; (case F => k_asm); (case N => k_asm); (case LD => assumption); (case d1 => assumption); (case e1 => assumption); (case hh => repeat' (first | exact hH2 | rw [if_neg (by decide)])))
    case fin2 =>
      intro g m news h tk hC2 F N
      obtain ⟨rfl, ⟨tk8, ps8, oc8, ov8, codes, rfl, dc8, K8, o1, o2, o3, h168⟩, hH2, hoI⟩ := hC2
      obtain ⟨ps1, h168⟩ := h168
      k_steps
      unfold Hid at hQ'
      subst hQ'
      k_steps
      unfold Mine.Stop
      refine And.intro (GrownAt.of (by k_asm) (.tail _ (.tail _ (.tail _ (.tail _ h168))))) (And.intro (GrownAt.of (by k_asm) (by k_mem)) True.intro)
end Mine
end
theorem PySem.Challenge.cw_pq0913_01_holds : PySem.Challenge.rw_pq0913_01.Holds :=
  Mine.cw

/-
  An environment's text: the program's is the reference's.
-/
import Derived.Test.YtgajbbadidobfaaDoorPureEnv
set_option linter.unusedVariables false
set_option linter.unusedSimpArgs false
namespace Go.Pev.F
open Go.Lib (itoa join)

def ivT (a : IvT) : List UInt8 := (itoa a.1 ++ [46, 46]) ++ itoa a.2.1
def IvFits (a : IvT) : Prop := (-9223372036854775808 ≤ a.1 ∧ a.1 ≤ 9223372036854775807) ∧ (-9223372036854775808 ≤ a.2.1 ∧ a.2.1 ≤ 9223372036854775807)

theorem ivT_len {a : IvT} (ha : IvFits a) : (ivT a).length ≤ 44 := by
  have h1 := itoa_len a.1 ha.1.1 ha.1.2
  have h2 := itoa_len a.2.1 ha.2.1 ha.2.2
  simp [ivT]; omega

theorem l13Iv_is (k : Nat) (hk : 20 ≤ k) (a : IvT) (ha : IvFits a) : spec_l13Iv k (a, ()) = some ((ivT a, ()), ((), ())) := by
  have h1 := itoa_len a.1 ha.1.1 ha.1.2
  have h2 := itoa_len a.2.1 ha.2.1 ha.2.2
  have l1 : (((itoa a.1).length + ([46, 46] : List UInt8).length : Nat) : Int) ≤ maxInt64 := by simp [maxInt64]; omega
  have l2 : (((itoa a.1 ++ [46, 46]).length + (itoa a.2.1).length : Nat) : Int) ≤ maxInt64 := by simp [maxInt64]; omega
  unfold spec_l13Iv
  simp only [l1Dec_is k hk a.1 ha.1.1 ha.1.2, bd_some, br_dec, if_pos l1]
  rw [l1Dec_is k hk a.2.1 ha.2.1 ha.2.2]
  simp only [bd_some, if_pos l2]
  rfl

def told (p : List UInt8 × List UInt8) : List UInt8 := (p.1 ++ [32]) ++ p.2
def both (p : List UInt8 × List UInt8) : Names := [p.1, p.2]

theorem map_next {α β : Type} (f : α → β) {l : List α} {i : Nat} (hi : i < l.length) : (l.take (i + 1)).map f = (l.take i).map f ++ [f l[i]] := by
  rw [← List.take_append_getElem hi, List.map_append]; rfl

theorem flat_next {α β : Type} (f : α → List β) {l : List α} {i : Nat} (hi : i < l.length) : (l.take (i + 1)).flatMap f = (l.take i).flatMap f ++ f l[i] := by
  rw [← List.take_append_getElem hi, List.flatMap_append]; simp

def zero (d : DeclT) (e : EnvT) : List (List UInt8 × List UInt8) := d.1.zip (e.2.1.map ivT)
def ones (d : DeclT) (e : EnvT) : List (List UInt8 × List UInt8) := (d.2.2.1.map (·.1)).zip (e.2.2.1.map ivT)
def envT (d : DeclT) (e : EnvT) : List UInt8 :=
  cond e.1 (cond ((((zero d e ++ ones d e).map told).length : Int) == 0) [97, 108, 108] (join ((zero d e ++ ones d e).map told) [32])) [110, 111, 110, 101]

structure Fine (d : DeclT) (e : EnvT) : Prop where
  l0 : d.1.length ≤ 5
  l2 : d.2.2.1.length ≤ 2
  e1 : e.2.1.length = d.1.length
  e2 : e.2.2.1.length = d.2.2.1.length
  f1 : ∀ a ∈ e.2.1, IvFits a
  f2 : ∀ a ∈ e.2.2.1, IvFits a

theorem fine_of {d : DeclT} {e : EnvT} (h : envOk d e = true) (he : e.1 = true) (hw : envKd.WF e) : Fine d e := by
  simp only [envOk, declOk, envFits, he, cond_true, Bool.and_eq_true, decide_eq_true_eq, beq_iff_eq] at h
  obtain ⟨⟨⟨h0, h1, h2⟩, _⟩, h3, h4, _⟩ := h
  obtain ⟨_, ⟨_, b2⟩, ⟨_, c2⟩, _⟩ := hw
  exact ⟨h0, h2, by omega, by omega, fun a ha => ⟨(b2 a ha).1, (b2 a ha).2.1⟩, fun a ha => ⟨(c2 a ha).1, (c2 a ha).2.1⟩⟩

theorem told_len {d : DeclT} {e : EnvT} (hd : DSmall d) (hf : Fine d e) : ∀ p ∈ zero d e ++ ones d e, p.1.length ≤ 1048576 ∧ p.2.length ≤ 44 := by
  intro p hp
  rcases List.mem_append.1 hp with hp | hp
  · have h := List.of_mem_zip hp
    obtain ⟨a, ha, e⟩ := List.mem_map.1 h.2
    exact ⟨hd.s0 _ h.1, e ▸ ivT_len (hf.f1 a ha)⟩
  · have h := List.of_mem_zip hp
    obtain ⟨a, ha, e⟩ := List.mem_map.1 h.2
    obtain ⟨b, hb, e'⟩ := List.mem_map.1 h.1
    exact ⟨e' ▸ hd.s2 b hb, e ▸ ivT_len (hf.f2 a ha)⟩

theorem l13Env_l2 (k : Nat) (hk : 4194304 < k) (hk2 : k ≤ 4611686018427387903) (d : DeclT) (hd : DSmall d) (e : EnvT) (hf : Fine d e) (he : e.1 = true) :
    iter (spec_l13Env.l2 k) k ((d.1, d.2.1, d.2.2.1, ()), (e.1, e.2.1, e.2.2.1, ()), (zero d e).map told, 0, ()) = some ((envT d e, ()), ((), (), ())) := by
  have l0 := hf.l0
  have l2 := hf.l2
  have x1 := hf.e1
  have x2 := hf.e2
  have z0 : (zero d e).length = d.1.length := by simp [zero]; omega
  have z1 : (ones d e).length = d.2.2.1.length := by simp [ones]; omega
  have h := iter_for (b := spec_l13Env.l2 k) (fun i => ((d.1, d.2.1, d.2.2.1, ()), (e.1, e.2.1, e.2.2.1, ()), (zero d e).map told ++ ((ones d e).take i).map told, (i : Int), ())) e.2.2.1.length (r := some ((envT d e, ()), ((), (), ()))) (fun G i hi => by
    have hi2 : i < d.2.2.1.length := by omega
    have hi3 : i < (ones d e).length := by omega
    have h2 : ((i : Int) < (e.2.2.1.length : Int)) := by omega
    have h3 : (0 : Int) ≤ (i : Int) := by omega
    have s1 := hd.s2 d.2.2.1[i] (List.getElem_mem _)
    have hfi := hf.f2 e.2.2.1[i] (List.getElem_mem _)
    have s2 := ivT_len hfi
    have h4 : (((d.2.2.1[i].1.length + ([32] : List UInt8).length : Nat) : Int) ≤ maxInt64) := by simp [maxInt64]; omega
    have h5 : ((((d.2.2.1[i].1 ++ [32]).length + (ivT e.2.2.1[i]).length : Nat) : Int) ≤ maxInt64) := by simp [maxInt64]; omega
    have h6 : (((zero d e).map told ++ ((ones d e).take i).map told).length + ([(d.2.2.1[i].1 ++ [32]) ++ ivT e.2.2.1[i]] : List (List UInt8)).length) * 16 ≤ maxBytes := by simp [maxBytes]; omega
    have eo : told (ones d e)[i] = (d.2.2.1[i].1 ++ [32]) ++ ivT e.2.2.1[i] := by simp [ones, told]
    simp only [spec_l13Env.l2, br_dec, if_pos h2, if_pos h3, Int.toNat_natCast, List.getElem?_eq_getElem hi, List.getElem?_eq_getElem hi2, bd_some, if_pos h4, l13Iv_is k (by omega) e.2.2.1[i] hfi, if_pos h5, if_pos h6]
    rw [wrap_succ (by omega), map_next told hi3, eo, List.append_assoc (bs := List.map _ _)]) (fun G => by
    have h2 : ¬ ((e.2.2.1.length : Int) < (e.2.2.1.length : Int)) := by omega
    have ht : (ones d e).take e.2.2.1.length = ones d e := by rw [List.take_of_length_le (by omega)]
    have hlen : ((zero d e ++ ones d e).map told).length = d.1.length + d.2.2.1.length := by simp; omega
    have hj := l13Joined_is k ((zero d e ++ ones d e).map told) [32] (by omega) hk2 1048700 (fun x hx => by
      obtain ⟨p, hp, rfl⟩ := List.mem_map.1 hx
      have := told_len hd hf p hp
      simp [told]; omega) (by rw [hlen]; exact Nat.le_trans (Nat.mul_le_mul_right _ (show d.1.length + d.2.2.1.length ≤ 7 by omega)) (by decide))
    simp only [spec_l13Env.l2, br_dec, if_neg h2, ht, ← List.map_append, hj, bd_some, envT, he, cond_true]
    cases ((((zero d e ++ ones d e).map told).length : Int) == 0) <;> simp) (f := k) (by omega)
  simp only [List.take_zero, List.map_nil, List.append_nil] at h
  exact h

theorem l13Env_is (k : Nat) (hk : 4194304 < k) (hk2 : k ≤ 4611686018427387903) (d : DeclT) (hd : DSmall d) (e : EnvT) (hf : e.1 = true → Fine d e) : spec_l13Env k (d, e, ()) = some ((envT d e, ()), ((), (), ())) := by
  unfold spec_l13Env
  cases he : e.1 with
  | false => simp [he, envT]
  | true =>
    have hf := hf he
    have l0 := hf.l0
    have l2 := hf.l2
    have x1 := hf.e1
    have z0 : (zero d e).length = d.1.length := by simp [zero]; omega
    simp only [he, Bool.not_true, br_false]
    have h := iter_for (b := spec_l13Env.l0 k) (fun i => ((d.1, d.2.1, d.2.2.1, ()), (e.1, e.2.1, e.2.2.1, ()), ((zero d e).take i).map told, (i : Int), ())) e.2.1.length (r := some ((envT d e, ()), ((), (), ()))) (fun G i hi => by
      have hi2 : i < d.1.length := by omega
      have hi3 : i < (zero d e).length := by omega
      have h2 : ((i : Int) < (e.2.1.length : Int)) := by omega
      have h3 : (0 : Int) ≤ (i : Int) := by omega
      have s1 := hd.s0 d.1[i] (List.getElem_mem _)
      have hfi := hf.f1 e.2.1[i] (List.getElem_mem _)
      have s2 := ivT_len hfi
      have h4 : (((d.1[i].length + ([32] : List UInt8).length : Nat) : Int) ≤ maxInt64) := by simp [maxInt64]; omega
      have h5 : ((((d.1[i] ++ [32]).length + (ivT e.2.1[i]).length : Nat) : Int) ≤ maxInt64) := by simp [maxInt64]; omega
      have h6 : ((((zero d e).take i).map told).length + ([(d.1[i] ++ [32]) ++ ivT e.2.1[i]] : List (List UInt8)).length) * 16 ≤ maxBytes := by simp [maxBytes]; omega
      have eo : told (zero d e)[i] = (d.1[i] ++ [32]) ++ ivT e.2.1[i] := by simp [zero, told]
      simp only [spec_l13Env.l0, br_dec, if_pos h2, if_pos h3, Int.toNat_natCast, List.getElem?_eq_getElem hi, List.getElem?_eq_getElem hi2, bd_some, if_pos h4, l13Iv_is k (by omega) e.2.1[i] hfi, if_pos h5, if_pos h6]
      rw [wrap_succ (by omega), map_next told hi3, eo]) (fun G => by
      have h2 : ¬ ((e.2.1.length : Int) < (e.2.1.length : Int)) := by omega
      have ht : (zero d e).take e.2.1.length = zero d e := by rw [List.take_of_length_le (by omega)]
      simp only [spec_l13Env.l0, br_dec, if_neg h2, ht]
      exact l13Env_l2 k hk hk2 d hd e hf he) (f := k) (by omega)
    simp only [List.take_zero, List.map_nil, he] at h
    exact h

/-! ### The program -/

theorem named_is (k : Nat) (hk : 4194304 < k) (ns : Names) (l : List IvT) (hl : l.length ≤ 5) (hn : l.length ≤ ns.length) (hf : ∀ a ∈ l, IvFits a) : impl_named k (ns, l, ()) = some (((ns.zip (l.map ivT)).flatMap both, ()), ((), (), ())) := by
  have z0 : (ns.zip (l.map ivT)).length = l.length := by simp; omega
  have h := iter_for (b := impl_named.l0 k) (fun i => (ns, ((ns.zip (l.map ivT)).take i).flatMap both, l, (l.length : Int), (i : Int), ())) l.length (r := some (((ns.zip (l.map ivT)).flatMap both, ()), ((), (), ()))) (fun G i hi => by
    have hi2 : i < ns.length := by omega
    have hi3 : i < (ns.zip (l.map ivT)).length := by omega
    have h2 : ((i : Int) < (l.length : Int)) := by omega
    have h3 : (0 : Int) ≤ (i : Int) := by omega
    have hfi := hf l[i] (List.getElem_mem _)
    have i1 := itoa_len l[i].1 hfi.1.1 hfi.1.2
    have i2 := itoa_len l[i].2.1 hfi.2.1 hfi.2.2
    have h4 : (((itoa l[i].1).length + ([46, 46] : List UInt8).length : Nat) : Int) ≤ maxInt64 := by simp [maxInt64]; omega
    have h5 : (((itoa l[i].1 ++ [46, 46]).length + (itoa l[i].2.1).length : Nat) : Int) ≤ maxInt64 := by simp [maxInt64]; omega
    have hb : ∀ (z : List (List UInt8 × List UInt8)), (z.flatMap both).length = 2 * z.length := by
      intro z
      induction z with
      | nil => rfl
      | cons p r ih => simp [both] at ih ⊢; omega
    have h6 : ((((ns.zip (l.map ivT)).take i).flatMap both).length + ([ns[i], (itoa l[i].1 ++ [46, 46]) ++ itoa l[i].2.1] : List (List UInt8)).length) * 16 ≤ maxBytes := by
      rw [hb]; simp [maxBytes]; omega
    have eo : both (ns.zip (l.map ivT))[i] = [ns[i], (itoa l[i].1 ++ [46, 46]) ++ itoa l[i].2.1] := by simp [both, ivT]
    simp only [impl_named.l0, br_dec, if_pos h2, if_pos h3, Int.toNat_natCast, List.getElem?_eq_getElem hi, List.getElem?_eq_getElem hi2, bd_some, decimal_is k l[i].1 hfi.1.1 hfi.1.2, if_pos h4, decimal_is k l[i].2.1 hfi.2.1 hfi.2.2, if_pos h5, if_pos h6]
    rw [wrap_succ (by omega), flat_next both hi3, eo]) (fun G => by
    have h2 : ¬ ((l.length : Int) < (l.length : Int)) := by omega
    have ht : (ns.zip (l.map ivT)).take l.length = ns.zip (l.map ivT) := by rw [List.take_of_length_le (by omega)]
    simp only [impl_named.l0, br_dec, if_neg h2, ht]) (f := k) (by omega)
  unfold impl_named
  simp only [List.take_zero, List.flatMap_nil] at h
  exact h

theorem implEnvT_is (k : Nat) (hk : 4194304 < k) (hk2 : k ≤ 4611686018427387903) (d : DeclT) (hd : DSmall d) (e : EnvT) (hf : e.1 = true → Fine d e) : impl_Decl_envText k (d, e, ()) = some ((envT d e, ()), ((), (), ())) := by
  unfold impl_Decl_envText
  cases he : e.1 with
  | false => simp [he, envT]
  | true =>
    have hf := hf he
    have l0 := hf.l0
    have l2 := hf.l2
    have x1 := hf.e1
    have x2 := hf.e2
    have n1 := hd.n1
    have hb : ∀ (z : List (List UInt8 × List UInt8)), (z.flatMap both).length = 2 * z.length := by
      intro z
      induction z with
      | nil => rfl
      | cons p r ih => simp [both] at ih ⊢; omega
    have ew : IntKind.wrap .i64 ((d.1.length : Int) + (d.2.1.length : Int)) = ((d.1.length + d.2.1.length : Nat) : Int) := by rw [wrap_i64 (by omega) (by omega)]; omega
    have hnl : (namesOf d).length = d.1.length + d.2.1.length + d.2.2.1.length := by simp [namesOf]; omega
    have h2 : 0 ≤ ((d.1.length + d.2.1.length : Nat) : Int) ∧ ((d.1.length + d.2.1.length : Nat) : Int) ≤ ((namesOf d).length : Int) := by omega
    have es : subL (namesOf d) (d.1.length + d.2.1.length) ((namesOf d).length - (d.1.length + d.2.1.length)) = d.2.2.1.map (·.1) := by
      simp only [subL, namesOf]
      rw [List.drop_append_of_le_length (by simp), List.drop_of_length_le (by simp), List.nil_append, List.take_of_length_le (by simp; omega)]
    have z0 : (zero d e).length = d.1.length := by simp [zero]; omega
    have z1 : (ones d e).length = d.2.2.1.length := by simp [ones]; omega
    have nm1 := named_is k hk d.1 e.2.1 (by omega) (by omega) hf.f1
    have nm2 := named_is k hk (d.2.2.1.map (·.1)) e.2.2.1 (by omega) (by simp; omega) hf.f2
    have h3 : (((zero d e).flatMap both).length + ((ones d e).flatMap both).length) * 16 ≤ maxBytes := by rw [hb, hb]; simp only [maxBytes]; omega
    change impl_named k (d.1, e.2.1, ()) = some (((zero d e).flatMap both, ()), ((), (), ())) at nm1
    change impl_named k (d.2.2.1.map (·.1), e.2.2.1, ()) = some (((ones d e).flatMap both, ()), ((), (), ())) at nm2
    have hj := lbJoin_is k ((zero d e).flatMap both ++ (ones d e).flatMap both) [32] 1048576 (fun x hx => by
      rw [← List.flatMap_append] at hx
      obtain ⟨p, hp, hx⟩ := List.mem_flatMap.1 hx
      have := told_len hd hf p hp
      simp only [both, List.mem_cons, List.not_mem_nil, or_false] at hx
      rcases hx with rfl | rfl <;> omega) (by rw [List.length_append, hb, hb]; omega) (by rw [List.length_append, hb, hb]; exact Nat.le_trans (Nat.mul_le_mul_right _ (show 2 * (zero d e).length + 2 * (ones d e).length ≤ 14 by omega)) (by decide))
    have el : ((((zero d e).flatMap both ++ (ones d e).flatMap both).length : Int) == 0) = ((((zero d e ++ ones d e).map told).length : Int) == 0) := by
      rw [Bool.eq_iff_iff, beq_iff_eq, beq_iff_eq, List.length_append, hb, hb, List.length_map, List.length_append]; omega
    have ej : join ((zero d e).flatMap both ++ (ones d e).flatMap both) [32] = join ((zero d e ++ ones d e).map told) [32] := by
      rw [← List.flatMap_append]; exact join_pairs [32] _
    simp only [he, Bool.not_true, br_false, names_is k hk hk2 d hd, bd_some, nm1, br_dec, ew, if_pos h2, Int.toNat_natCast, es, nm2, if_pos h3, hj, el, ej, envT, cond_true]
    cases ((((zero d e ++ ones d e).map told).length : Int) == 0) <;> simp

theorem envText_both (k : Nat) (hk : 4194304 < k) (hk2 : k ≤ 4611686018427387903) (d : DeclT) (hd : DSmall d) (e : EnvT) (he : ESmall e) (hw : envKd.WF e) :
    ∃ t, spec_EnvText k (d, e, ()) = some ((t, ()), ((), (), ())) ∧ impl_EnvText k (d, e, ()) = some ((t, ()), ((), (), ())) := by
  unfold spec_EnvText impl_EnvText
  simp only [specEnvOk_is k hk d hd e he, implEnvOk_is k hk hk2 d hd e he, bd_some]
  cases ho : envOk d e with
  | false => exact ⟨[], by simp, by simp⟩
  | true =>
    have hf := fun h => fine_of ho h hw
    refine ⟨envT d e, ?_, ?_⟩
    · simp [l13Env_is k hk hk2 d hd e hf]
    · simp [implEnvT_is k hk hk2 d hd e hf]

theorem FnExactEnvText_true (x : DeclT × EnvT × Unit) (hw : WFs [declKd, envKd] x) : ∃ k o, laws_FnExactEnvText k x = some ((true, ()), o) := by
  obtain ⟨d, e, ⟨⟩⟩ := x
  obtain ⟨hwd, hwe, _⟩ := hw
  refine ⟨8388608, ((), (), ()), ?_⟩
  unfold laws_FnExactEnvText
  obtain ⟨r1, e1, p0, p1⟩ := szDecl_is 8388608 (by omega) d hwd
  simp only [e1, bd_some, br_dec]
  by_cases h1 : r1 < 0
  · rw [if_pos h1]
  rw [if_neg h1]
  have hd := p1 (by omega)
  obtain ⟨r2, e2, p2⟩ := szEnv_is 8388608 e hwe r1 (by omega) (by omega)
  simp only [e2, bd_some]
  by_cases h2 : r2 < 0
  · rw [if_pos h2]
  rw [if_neg h2]
  have he := p2 (by omega)
  obtain ⟨t, t1, t2⟩ := envText_both 8388608 (by omega) (by omega) d hd e he hwe
  simp only [toDecl_is 8388608 d hd (by omega), toEnv_is 8388608 e he (by omega), bd_some]
  have t1' : spec_EnvText 8388608 ((d.1, d.2.1, d.2.2.1, ()), (e.1, e.2.1, e.2.2.1, ()), ()) = some ((t, ()), ((), (), ())) := t1
  have t2' : impl_EnvText 8388608 ((d.1, d.2.1, d.2.2.1, ()), (e.1, e.2.1, e.2.2.1, ()), ()) = some ((t, ()), ((), (), ())) := t2
  have q1 : laws_eqDecl 8388608 ((d.1, d.2.1, d.2.2.1, ()), (d.1, d.2.1, d.2.2.1, ()), ()) = some ((true, ()), ((), (), ())) := eqDecl_is 8388608 d hd (by omega)
  have q2 : laws_eqEnv 8388608 ((e.1, e.2.1, e.2.2.1, ()), (e.1, e.2.1, e.2.2.1, ()), ()) = some ((true, ()), ((), (), ())) := eqEnv_is 8388608 e he (by omega)
  simp only [t1', t2', bd_some, BEq.rfl, Bool.not_true, br_false, q1, q2]
end Go.Pev.F

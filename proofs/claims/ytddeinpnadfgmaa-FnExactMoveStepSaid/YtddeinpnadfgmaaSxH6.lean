/-
  Arrays as objects.
-/
import Derived.Test.YtddeinpnadfgmaaSxH3
import Derived.Test.YtddeinpnadfgmaaSxH5
import Derived.Test.YtddeinpnadfgmaaSxO
import Derived.Test.YtddeinpnadfgmaaSxOpen
namespace Go.Proofs.Ytddeinpnadfgmaa
set_option linter.unusedVariables false
set_option linter.unusedSimpArgs false
open Go.RowKit
set_option maxRecDepth 100000
set_option maxHeartbeats 8000000

def isArray (v : Value) (x : AD) (rs : List Row) : Prop :=
  ∃ (O A H : Option Addr) (C D E : Nat) (o : Bool) (tA tB tC tD kA kB kC : Nat) (so : Nat → Option Addr) (sc sd : Nat → Nat), v = arrV x O A H C D E ∧ (o = true → sd = sc) ∧
    rs = ⟨o, O, tA, 2, x.c.n, kA, cellFld 0 x.c so sc⟩ :: ⟨o, A, tB, 1, x.aN, kB, [fun i => .int (x.ag i)]⟩ :: ⟨o, H, tC, 1, x.hN, kC, [fun i => .int (x.hg i)]⟩ :: symRows o tD x.c so sd
abbrev cap1Ax (x : AD) : Prop := totN x.c.sn x.c.n ≤ 1048576 ∧ x.aN ≤ 1048576 ∧ x.hN ≤ 1048576
theorem capOf1Ax {x : AD} (h : cap1Ax x) : capAx x := ⟨by have := h.1; show _ ≤ _; omega, by have := h.2.1; omega, by have := h.2.2; omega⟩
abbrev lensAx (x : AD) : Prop := x.c.n ≤ 9223372036854775807 ∧ x.aN ≤ 9223372036854775807 ∧ x.hN ≤ 9223372036854775807 ∧ ∀ i, i < x.c.n → x.c.sn i ≤ 9223372036854775807
theorem wholeArray {v : Value} {x : AD} {rs : List Row} (h : isArray v x rs) : wholeC true v 3 := by
  obtain ⟨_, _, _, _, _, _, _, _, _, _, _, _, _, _, _, _, _, rfl, _, rfl⟩ := h
  exact ⟨_, rfl, rfl, List.all_eq_true.1 rfl⟩
theorem isA_seen {v : Value} {x : AD} {rs : List Row} {o : Bool} {w : World} (h : isArray v x rs) (hs : ∀ r ∈ rs, r.own = o ∧ r.sat w) : ∃ (O A H : Option Addr) (C D E : Nat) (so : Nat → Option Addr) (sc : Nat → Nat), v = arrV x O A H C D E ∧ SeenA w x O A H so sc := by
  obtain ⟨O, A, H, C, D, E, o', tA, tB, tC, tD, kA, kB, kC, so, sc, sd, rfl, _, rfl⟩ := h
  exact ⟨O, A, H, C, D, E, so, sc, rfl, seenA_of (r0 := ⟨o', O, tA, 2, x.c.n, kA, cellFld 0 x.c so sc⟩) (r1 := ⟨o', A, tB, 1, x.aN, kB, [fun i => .int (x.ag i)]⟩) (r2 := ⟨o', H, tC, 1, x.hN, kC, [fun i => .int (x.hg i)]⟩) (hs _ mem0).2 (hs _ (memS mem0)).2 (hs _ (memS (memS mem0))).2 (o := o') (fun r hr => ⟨symRows_own r hr, (hs r (memS (memS (memS hr)))).2⟩) rfl rfl rfl rfl rfl rfl⟩
theorem isA_new {b : Nat} {x : AD} {O A H : Option Addr} {C D E : Nat} {so : Nat → Option Addr} {sc : Nat → Nat} {X : Cx} {w : World} (h : HS X (arrO b x O A H C D E so sc) w) : ∃ rs', isArray (arrV x O A H C D E) x rs' ∧ HS X [.obj true rs'] w := by
  have h1 : HS X [.row ⟨true, O, 52, 2, x.c.n, C, cellFld 0 x.c so sc⟩, .row ⟨true, A, 3, 1, x.aN, D, [fun i => .int (x.ag i)]⟩, .row ⟨true, H, 3, 1, x.hN, E, [fun i => .int (x.hg i)]⟩, .obj true (symRows true 3 x.c so sc)] w :=
    h.reS ⟨⟨rfl, rfl, rfl, rfl, rfl, rfl, fun i hi => rfl, fun i hi => rfl, trivial⟩, ⟨rfl, rfl, rfl, rfl, rfl, rfl, fun i hi => rfl, trivial⟩, ⟨rfl, rfl, rfl, rfl, rfl, rfl, fun i hi => rfl, trivial⟩, ⟨rfl, rfl⟩, trivial⟩
  exact ⟨_, ⟨O, A, H, C, D, E, true, _, _, _, _, _, _, _, so, sc, sc, rfl, fun _ => rfl, rfl⟩, h1.pack4 rfl rfl rfl⟩
/-- A summary of a function over objects that makes an array. -/
theorem smArr {P : Program} {f : FuncId} (hc : ∀ args w, (callFunc f args).run P w = .ok (.enter f args) w) {S : Sm}
    (h : ∀ (args : List SV) (ch : List Ch) (k : EK) (w : World) (X : Cx), S args ch k → HS X ch w → ∃ (x : AD) (F : SA → SV), (∀ (id : Nat) (v : Value) (rs : List Row), isArray v x rs → k (F (.c (.obj id v))) (ch ++ [.obj true rs]) [] ∨ id ≠ ch.length) ∧
      Calls P f (args.map SV.den).toArray w fun e w' => ∃ (O A H : Option Addr) (C D E : Nat) (so : Nat → Option Addr) (sc : Nat → Nat), (∀ id, e = .returned (F (.c (.obj id (arrV x O A H C D E)))).den) ∧ HS ⟨w, fun _ => False⟩ (arrO 0 x O A H C D E so sc) w') : SmOK P f S :=
  smN hc fun args ch k w X hS hs => by
    obtain ⟨x, F, hk, hcall⟩ := h args ch k w X hS hs
    refine Calls.mono hcall fun e w' ⟨O, A, H, C, D, E, so, sc, he, hn⟩ => ?_
    obtain ⟨rs', hi, hn'⟩ := isA_new hn
    exact ⟨F (.c (.obj ch.length (arrV x O A H C D E))), [.obj true rs'], he _, hn', rfl, (hk _ _ _ hi).resolve_right (fun q => q rfl)⟩
def sToArrayO : Sm := fun args ch k =>
  match args with
  | [.a (.c (.obj i v))] =>
    match ch[i]? with
    | some (.obj _ rs) => ∃ x : AD, (isArray v x rs ∧ capAx x) ∧ ∀ (v' : Value) (rs' : List Row), isArray v' x rs' → k (.a (.c (.obj ch.length v'))) (ch ++ [.obj true rs']) []
    | _ => False
  | _ => False
theorem sToArrayO_ok_laws_toArray : SmOK Try.prog 13 sToArrayO := by
  refine smArr Try.call13 fun args ch k w X h0 hs => ?_
  unfold sToArrayO at h0
  split at h0
  · rename_i i v
    split at h0
    · rename_i o rs hi
      obtain ⟨x, ⟨hx, hc⟩, h1⟩ := h0
      obtain ⟨O, A, H, C, D, E, so, sc, rfl, hA⟩ := isA_seen hx (hs.seeObj hi)
      refine ⟨x, fun s => .a s, fun id v' rs' hv => ?_, ?_⟩
      · by_cases e : id = ch.length
        · subst e; exact .inl (h1 v' rs' hv)
        · exact .inr e
      · exact Calls.mono (toA_any x O A H C D E so sc w hA hc) fun e w' ⟨O', A', H', C', D', E', so', sc', he, hn⟩ => ⟨O', A', H', C', D', E', so', sc', fun _ => he, hn⟩
    · exact h0.elim
  · exact h0.elim
def sEqArrayO : Sm := fun args ch k =>
  match args with
  | [.a (.c (.obj i v)), .a (.c (.obj j u))] =>
    match ch[i]?, ch[j]? with
    | some (.obj _ rs), some (.obj _ us) => ∃ x : AD, (isArray v x rs ∧ isArray u x us ∧ capAx x) ∧ k (.a (.c (.lit true))) ch []
    | _, _ => False
  | _ => False
theorem sEqArrayO_ok : SmOK Try.prog 16 sEqArrayO := by
  refine smB Try.call16 fun args ch k w X h0 hs => ?_
  unfold sEqArrayO at h0
  split at h0
  · rename_i i v j u
    split at h0
    · rename_i o rs o' us hi hj
      obtain ⟨x, ⟨hx, hy, hc⟩, h1⟩ := h0
      obtain ⟨O, A, H, C, D, E, so, sc, rfl, hA⟩ := isA_seen hx (hs.seeObj hi)
      obtain ⟨P, B, G, Q, U, V, sp, sq, rfl, hB⟩ := isA_seen hy (hs.seeObj hj)
      exact ⟨_, h1, eqA_any x O A H C D E so sc P B G Q U V sp sq w hA hB hc⟩
    · exact h0.elim
  · exact h0.elim
def sMarkArrayO : Sm := fun args ch k =>
  match args with
  | [.a (.c (.obj i v)), .a (.c kc)] =>
    match ch[i]?, asI kc with
    | some (.obj true rs), some k0 => ∃ x : AD, (isArray v x rs ∧ capAx x ∧ mrkC k0) ∧ (endC k0 (endArray k0 x) 50331648 → ∀ rs' : List Row, isArray v (markArrayD k0 x) rs' → k (.a (.c (.int (endArray k0 x)))) (ch.set i (.obj true rs')) [i])
    | _, _ => False
  | _ => False
theorem sMarkArrayO_ok : SmOK Try.prog 18 sMarkArrayO := by
  refine ⟨Try.call18, fun X args ch k w h0 hs => ?_⟩
  unfold sMarkArrayO at h0
  split at h0
  · rename_i i v kc
    split at h0
    · rename_i rs k0 hi hk
      obtain ⟨x, ⟨⟨O, A, H, C, D, E, o, tA, tB, tC, tD, kA, kB, kC, so, sc, sd, rfl, hsd, rfl⟩, hc, hk0⟩, h1⟩ := h0
      have h2 := hs.seeObj hi
      have eo : o = true := (h2 _ mem0).1
      subst eo
      have esd := hsd rfl
      subst esd
      obtain ⟨c1, c2, c3⟩ := id hc
      have hc1 : totN x.c.sn x.c.n ≤ 2097152 := c1
      have hk1 := hk0.1
      have hk2 := hk0.2
      have h3 : HS ⟨w, (Ch.obj true (⟨true, O, tA, 2, x.c.n, kA, cellFld 0 x.c so sd⟩ :: ⟨true, A, tB, 1, x.aN, kB, [fun i => .int (x.ag i)]⟩ :: ⟨true, H, tC, 1, x.hN, kC, [fun i => .int (x.hg i)]⟩ :: symRows true tD x.c so sd)).at⟩ [.row ⟨true, O, tA, 2, x.c.n, kA, cellFld 3 x.c so sd⟩, .row ⟨true, A, tB, 1, x.aN, kB, [fun i => .int (x.ag i)]⟩, .row ⟨true, H, tC, 1, x.hN, kC, [fun i => .int (x.hg i)]⟩, .obj true (symRows true tD x.c so sd)] w :=
        (hs.open4 hi).reS ⟨⟨rfl, rfl, rfl, rfl, rfl, rfl, fun i hi => rfl, fun i hi => rfl, trivial⟩, ⟨rfl, rfl, rfl, rfl, rfl, rfl, fun i hi => rfl, trivial⟩, ⟨rfl, rfl, rfl, rfl, rfl, rfl, fun i hi => rfl, trivial⟩, ⟨rfl, rfl⟩, trivial⟩
      have hb : endC k0 (endArray k0 x) 50331648 := ⟨by simp only [endArray, mk, kAt]; omega, by simp only [endArray, mk, kAt]; omega⟩
      simp only [List.map_cons, List.map_nil, den_a, den_c, asI_den hk]
      refine Calls.mono (markA_any x O A H C D E so sd tA tB tC tD kA kB kC k0 w _ h3 hc hk0) fun e w' ⟨he, hs'⟩ => ?_
      have h4 : HS ⟨w, (Ch.obj true (⟨true, O, tA, 2, x.c.n, kA, cellFld 0 x.c so sd⟩ :: ⟨true, A, tB, 1, x.aN, kB, [fun i => .int (x.ag i)]⟩ :: ⟨true, H, tC, 1, x.hN, kC, [fun i => .int (x.hg i)]⟩ :: symRows true tD x.c so sd)).at⟩ [.row ⟨true, O, tA, 2, x.c.n, kA, cellFld 0 (markCD k0 x.c) so sd⟩, .row ⟨true, A, tB, 1, x.aN, kB, [fun i => .int ((markArrayD k0 x).ag i)]⟩, .row ⟨true, H, tC, 1, x.hN, kC, [fun i => .int ((markArrayD k0 x).hg i)]⟩, .obj true (symRows true tD (markCD k0 x.c) so sd)] w' :=
        hs'.reS ⟨⟨rfl, rfl, rfl, rfl, rfl, rfl, fun i hi => rfl, fun i hi => rfl, trivial⟩, ⟨rfl, rfl, rfl, rfl, rfl, rfl, fun i hi => rfl, trivial⟩, ⟨rfl, rfl, rfl, rfl, rfl, rfl, fun i hi => rfl, trivial⟩, ⟨rfl, rfl⟩, trivial⟩
      refine ⟨.a (.c (.int (endArray k0 x))), _, [i], he, hs.swap1 hi rfl (h4.pack4 rfl rfl rfl) ?_, Agree.set _ _ _, h1 hb _ ⟨O, A, H, C, D, E, true, tA, tB, tC, tD, kA, kB, kC, so, sd, sd, rfl, fun _ => rfl, rfl⟩⟩
      exact at_cons rfl rfl rfl (at_cons rfl rfl rfl (at_cons rfl rfl rfl (sym_at rfl fun _ _ => rfl)))
    · exact h0.elim
  · exact h0.elim
def sHeldArrayO : Sm := fun args ch k =>
  match args with
  | [.a (.c (.obj i v)), .a (.c kc)] =>
    match ch[i]?, asI kc with
    | some (.obj _ rs), some k0 => ∃ x : AD, (isArray v (markArrayD k0 x) rs ∧ capAx x ∧ mrkC k0) ∧ k (.a (.c (.int (endArray k0 x)))) ch []
    | _, _ => False
  | _ => False
theorem sHeldArrayO_ok : SmOK Try.prog 19 sHeldArrayO := by
  refine smB Try.call19 fun args ch k w X h0 hs => ?_
  unfold sHeldArrayO at h0
  split at h0
  · rename_i i v kc
    split at h0
    · rename_i o rs k0 hi hk
      obtain ⟨x, ⟨hx, hc, hk0⟩, h1⟩ := h0
      obtain ⟨O, A, H, C, D, E, so, sc, rfl, hA⟩ := isA_seen hx (hs.seeObj hi)
      refine ⟨_, h1, ?_⟩
      simp only [List.map_cons, List.map_nil, den_a, den_c, asI_den hk]
      exact heldA_any x O A H C D E so sc k0 w hA hc hk0
    · exact h0.elim
  · exact h0.elim
abbrev szK1 (k : Int) : Prop := 0 ≤ k ∧ k ≤ 1048576
def sSzArrayO : Sm := fun args ch k =>
  match args with
  | [.a (.c (.obj i v)), .a (.c kc)] =>
    match ch[i]?, asI kc with
    | some (.obj _ rs), some k0 => ∃ x : AD, (isArray v x rs ∧ lensAx x ∧ szK1 k0) ∧ (k (.a (.c (.il (-1)))) ch [] ∧ ∀ z : Int, szO z k0 → cap1Ax x → k (.a (.c (.int z))) ch [])
    | _, _ => False
  | _ => False
theorem sSzArrayO_ok : SmOK Try.prog 10 sSzArrayO := by
  refine smV Try.call10 fun args ch k w X h0 hs => ?_
  unfold sSzArrayO at h0
  split at h0
  · rename_i i v kc
    split at h0
    · rename_i o rs k0 hi hk
      obtain ⟨x, ⟨hx, hn, hk0⟩, h1, h2⟩ := h0
      obtain ⟨O, A, H, C, D, E, so, sc, rfl, hA⟩ := isA_seen hx (hs.seeObj hi)
      simp only [List.map_cons, List.map_nil, den_a, den_c, asI_den hk]
      refine Calls.mono (szA_any x O A H C D E so sc k0 w hA hn hk0) fun e w' ⟨z, hz, he, hb⟩ => ?_
      rcases hz with rfl | ⟨hz0, hz1, hz2⟩
      · exact ⟨.a (.c (.il (-1))), he, hb, h1⟩
      · exact ⟨.a (.c (.int z)), he, hb, h2 z ⟨hz0, hz1⟩ hz2⟩
    · exact h0.elim
  · exact h0.elim
/-! What an argument holds. -/
theorem has_cells {w : World} {ao : Option Addr} {len cap : Nat} {cs : List Value} (hcs : cs = [.slice ao len cap]) (h : Has w (.slice (.cons (.slice .int) (.cons .bool .nil))) cs) :
    ∃ (x : CD) (so : Nat → Option Addr) (sc : Nat → Nat), x.n = len ∧ len ≤ maxLen ∧ (∀ i, i < x.n → x.sn i ≤ maxLen) ∧ SeenC w x ao so sc := by
  obtain ⟨ao', len', cap', h1, hlen, h2⟩ := h
  rw [hcs] at h1
  injection h1 with h1
  injection h1 with e1 e2 e3
  subst e1 e2
  have hel : ∀ i, ∃ (O : Option Addr) (N C : Nat) (p : Bool) (g : Nat → Int), i < len → (∃ b off, ao = some ⟨b, off, none⟩ ∧ b < w.heap.size ∧ w.cell? ⟨b, off + i * 2, none⟩ = some (.slice O N C) ∧ w.cell? ⟨b, off + (i * 2 + 1), none⟩ = some (.bool p)) ∧ N ≤ maxLen ∧ Row.sat w ⟨false, O, 0, 1, N, 0, [fun k => .int (g k)]⟩ := fun i => by
    by_cases hi : i < len
    · obtain ⟨b, off, es, ha, hl, hc, hh⟩ := h2 i hi
      obtain ⟨O, N, C, r1, rfl, hs, hh1⟩ := has_slice hh
      obtain ⟨p, r2, rfl, hh2⟩ := has_bool hh1
      obtain rfl := has_nil hh2
      obtain ⟨hN, G, _, hr⟩ := row_of_has (s := 1) (.inl ⟨rfl, rfl⟩) (by omega) rfl hs
      refine ⟨O, N, C, p, G 0, fun _ => ⟨⟨b, off, ha, ?_, ?_, ?_⟩, hN, hr⟩⟩
      · have := hc 0 (by decide)
        exact World.block_lt_of_cell? w _ this
      · have := hc 0 (by decide)
        simpa [Ty.size] using this
      · have := hc 1 (by decide)
        simpa [Ty.size, Nat.add_assoc] using this
    · exact ⟨none, 0, 0, false, fun _ => 0, fun h => absurd h hi⟩
  refine ⟨⟨len, fun i => (hel i).choose_spec.choose, fun i => (hel i).choose_spec.choose_spec.choose_spec.choose_spec.choose, fun i => (hel i).choose_spec.choose_spec.choose_spec.choose⟩, fun i => (hel i).choose, fun i => (hel i).choose_spec.choose_spec.choose, rfl, hlen, fun i hi => ?_, fun id => ?_, fun r hr => ?_⟩
  · exact ((hel i).choose_spec.choose_spec.choose_spec.choose_spec.choose_spec hi).2.1
  · refine ⟨rfl, fun _ hn => ?_, fun ho => (by cases ho)⟩
    have hn : 0 < len := hn
    obtain ⟨⟨b, off, ha, hb, _⟩, _⟩ := (hel 0).choose_spec.choose_spec.choose_spec.choose_spec.choose_spec hn
    refine ⟨b, off, ha, hb, fun i hi c f hf => ?_⟩
    obtain ⟨⟨b', off', ha', _, h3, h4⟩, _⟩ := (hel i).choose_spec.choose_spec.choose_spec.choose_spec.choose_spec hi
    rw [ha] at ha'
    injection ha' with ha'
    injection ha' with e1 e2
    subst e1 e2
    match c with
    | 0 => simp [cellFld] at hf; subst hf; simpa [SC.den] using h3
    | 1 => simp [cellFld] at hf; subst hf; simpa [SC.den] using h4
    | c + 2 => simp [cellFld] at hf
  · obtain ⟨i, hi, rfl⟩ := List.mem_map.1 hr
    exact ⟨rfl, ((hel i).choose_spec.choose_spec.choose_spec.choose_spec.choose_spec (List.mem_range.1 hi)).2.2⟩
theorem has_array {w : World} {l : List Value} (h : Has w (.cons (.slice (.cons (.slice .int) (.cons .bool .nil))) (.cons (.slice .int) (.cons (.slice .int) .nil))) l) :
    ∃ (x : AD) (v : Value) (rs : List Row), v = .agg l.toArray ∧ isArray v x rs ∧ (∀ r ∈ rs, r.own = false ∧ r.sat w) ∧ lensAx x := by
  obtain ⟨O, N, C, _, rfl, hs0, h⟩ := has_slice h
  obtain ⟨A, M, D, _, rfl, hs1, h⟩ := has_slice h
  obtain ⟨H, K, E, _, rfl, hs2, h⟩ := has_slice h
  obtain rfl := has_nil h
  obtain ⟨x, so, sc, rfl, hn, hsn, hC⟩ := has_cells rfl hs0
  obtain ⟨hM, G1, _, hr1⟩ := row_of_has (s := 1) (.inl ⟨rfl, rfl⟩) (by omega) rfl hs1
  obtain ⟨hK, G2, _, hr2⟩ := row_of_has (s := 1) (.inl ⟨rfl, rfl⟩) (by omega) rfl hs2
  refine ⟨⟨x, M, G1 0, K, G2 0⟩, _, _, rfl, ⟨O, A, H, C, D, E, false, 0, 0, 0, 0, 0, 0, 0, so, sc, fun _ => 0, rfl, fun h => (by cases h), rfl⟩, fun r hr => ?_, hn, hM, hK, hsn⟩
  simp only [List.mem_cons] at hr
  rcases hr with rfl | rfl | rfl | hr
  · exact ⟨rfl, hC.h0 0⟩
  · exact ⟨rfl, hr1⟩
  · exact ⟨rfl, hr2⟩
  · exact hC.h3 r hr
end Go.Proofs.Ytddeinpnadfgmaa

/-
  Arrays checked.
-/
import Derived.Test.YtddeinpnadfgmaaSxK2
namespace Go.Proofs.Ytddeinpnadfgmaa
set_option linter.unusedVariables false
set_option linter.unusedSimpArgs false
open Go.RowKit
set_option maxRecDepth 100000
set_option maxHeartbeats 8000000

def sakkI (x : AD) (O A H : Option Addr) (C D E : Nat) (so : Nat → Option Addr) (sc : Nat → Nat) (G B R K : Int) : LSm := fun ts ch kk => lenA x ∧ ∃ bg ba, sakI x O A H C D E so sc G B R K bg ba ts ch kk
def sallI (x : AD) (O A H : Option Addr) (C D E : Nat) (so : Nat → Option Addr) (sc : Nat → Nat) (G B R K : Int) : LSm := fun ts ch kk => (lenA x ∧ x.hN = x.aN) ∧ ∃ bg ba, salI x O A H C D E so sc G B R K bg ba ts ch kk
theorem akkI_ok (x : AD) (O A H : Option Addr) (C D E : Nat) (so : Nat → Option Addr) (sc : Nat → Nat) (G B R K : Int) (X : Cx) : LoopOK Try.prog X (theLoop Try.f52 0) (sakkI x O A H C D E so sc G B R K) := by
  rintro ts ch kk a w ⟨h1, bg, ba, hS⟩ hT hd hs
  exact akI_ok x O A H C D E so sc G B R K bg ba h1 X ts ch kk a w hS hT hd hs
theorem allI_ok (x : AD) (O A H : Option Addr) (C D E : Nat) (so : Nat → Option Addr) (sc : Nat → Nat) (G B R K : Int) (X : Cx) : LoopOK Try.prog X (theLoop Try.f52 1) (sallI x O A H C D E so sc G B R K) := by
  rintro ts ch kk a w ⟨⟨h1, h2⟩, bg, ba, hS⟩ hT hd hs
  exact alI_ok x O A H C D E so sc G B R K bg ba h1 h2 X ts ch kk a w hS hT hd hs
theorem arrokI_T (x : AD) (O A H : Option Addr) (C D E : Nat) (so : Nat → Option Addr) (sc : Nat → Nat) (G B R K : Int) : (exFn Try.prog { tb := [(93, sGeo), (92, sBank), (94, sLine)], L := [(5, sakkI x O A H C D E so sc G B R K), (11, sallI x O A H C D E so sc G B R K)] } 400 Try.f52 ([.a (.agg [.int G, .int B, .int R, .int K]), .a (arrS 0 x O A H C D E)]) (arrR 0 x O A H so sc) (fun v _ => v.den = .bool (arrOk G B R K x))) = (
  (∀ b0 : Nat,
 (∀ b1 : Nat,
 (b0 = b0 ∧
 (b0 = b0 ∧
 (True ∧
 ((rng ((bankN G B R K) * R)) ∧
 (b0 = b0 ∧
 (True ∧
 (((!(geoB G B R K)) = false →
 (b1 = b1 ∧
 (b0 = b0 ∧
 (True ∧
 (((((x.1.1 : Nat) : Int) != (lineN G B R K)) = false →
 (b1 = b1 ∧
 (((((x.2 : Nat) : Int) != ((bankN G B R K) * R)) = false →
 (b1 = b1 ∧
 (((((x.4 : Nat) : Int) != ((bankN G B R K) * R)) = true →
 (Wb false) = (Wb (arrOk G B R K x))) ∧
 ((((x.4 : Nat) : Int) != ((bankN G B R K) * R)) = false →
 (b1 = b1 ∧
 ((lenA x) ∧
 (∃ bg2 : Nat, (∃ ba3 : Nat, (([(Wa [(Wi G), (Wi B), (Wi R), (Wi K)]), (Wa [(Ws O x.1.1 C), (Ws A x.2 D), (Ws H x.4 E)]), (Wp b0 0), (Wp b1 0), (Wb false), (Wi ((bankN G B R K) * R)), (Wu []), (Wu []), (Wu []), (Wa [(Wi G), (Wi B), (Wi R), (Wi K)]), (Wi (bankN G B R K)), (Wp b0 2), (Wi R), (Wi ((bankN G B R K) * R)), (Wa [(Wi G), (Wi B), (Wi R), (Wi K)]), (Wb (geoB G B R K)), (Wb (!(geoB G B R K))), (Wb false), (Wp b1 0), (Ws O x.1.1 C), (Wi ((x.1.1 : Nat) : Int)), (Wa [(Wi G), (Wi B), (Wi R), (Wi K)]), (Wi (lineN G B R K)), (Wb (((x.1.1 : Nat) : Int) != (lineN G B R K))), (Wb (((x.1.1 : Nat) : Int) != (lineN G B R K))), (Wb false), (Wp b1 1), (Ws A x.2 D), (Wi ((x.2 : Nat) : Int)), (Wi ((bankN G B R K) * R)), (Wb (((x.2 : Nat) : Int) != ((bankN G B R K) * R))), (Wb (((x.2 : Nat) : Int) != ((bankN G B R K) * R))), (Wb false), (Wp b1 2), (Ws H x.4 E), (Wi ((x.4 : Nat) : Int)), (Wi ((bankN G B R K) * R)), (Wb (((x.4 : Nat) : Int) != ((bankN G B R K) * R))), (Wb false), (Wp b1 0), (Ws O x.1.1 C), (Wi ((x.1.1 : Nat) : Int)), (Wi 0), (Wu []), (Wu []), (Wu []), (Wu []), (Wu []), (Wu []), (Wu []), (Wu []), (Wu []), (Wu []), (Wu []), (Wu []), (Wu []), (Wu []), (Wu []), (Wu []), (Wu []), (Wu []), (Wu []), (Wu []), (Wu []), (Wu []), (Wu []), (Wu []), (Wu []), (Wu []), (Wu []), (Wu []), (Wu []), (Wu []), (Wu [])] = [(Wa [(Wi G), (Wi B), (Wi R), (Wi K)]), (Wa [(Ws O x.1.1 C), (Ws A x.2 D), (Ws H x.4 E)]), (Wp bg2 0), (Wp ba3 0), (Wb false), (Wi ((bankN G B R K) * R)), (Wu []), (Wu []), (Wu []), (Wa [(Wi G), (Wi B), (Wi R), (Wi K)]), (Wi (bankN G B R K)), (Wp b0 2), (Wi R), (Wi ((bankN G B R K) * R)), (Wa [(Wi G), (Wi B), (Wi R), (Wi K)]), (Wb (geoB G B R K)), (Wb (!(geoB G B R K))), (Wb false), (Wp b1 0), (Ws O x.1.1 C), (Wi ((x.1.1 : Nat) : Int)), (Wa [(Wi G), (Wi B), (Wi R), (Wi K)]), (Wi (lineN G B R K)), (Wb (((x.1.1 : Nat) : Int) != (lineN G B R K))), (Wb (((x.1.1 : Nat) : Int) != (lineN G B R K))), (Wb false), (Wp b1 1), (Ws A x.2 D), (Wi ((x.2 : Nat) : Int)), (Wi ((bankN G B R K) * R)), (Wb (((x.2 : Nat) : Int) != ((bankN G B R K) * R))), (Wb (((x.2 : Nat) : Int) != ((bankN G B R K) * R))), (Wb false), (Wp b1 2), (Ws H x.4 E), (Wi ((x.4 : Nat) : Int)), (Wi ((bankN G B R K) * R)), (Wb (((x.4 : Nat) : Int) != ((bankN G B R K) * R))), (Wb false), (Wp b1 0), (Ws O x.1.1 C), (Wi ((x.1.1 : Nat) : Int)), (Wi 0), (Wu []), (Wu []), (Wu []), (Wu []), (Wu []), (Wu []), (Wu []), (Wu []), (Wu []), (Wu []), (Wu []), (Wu []), (Wu []), (Wu []), (Wu []), (Wu []), (Wu []), (Wu []), (Wu []), (Wu []), (Wu []), (Wu []), (Wu []), (Wu []), (Wu []), (Wu []), (Wu []), (Wu []), (Wu []), (Wu []), (Wu [])] ∧
 [(Hr false O 0 2 x.1.1 0 [(fun i4 => (Cs 3 (so i4) (x.1.2 i4) (sc i4))), (fun i5 => (Cb (x.1.4 i5)))]), (Hr false A 0 1 x.2 0 [(fun i6 => (Ci (x.3 i6)))]), (Hr false H 0 1 x.4 0 [(fun i7 => (Ci (x.5 i7)))]), (Ho false (symRows false 0 x.1 so (fun x8 => 0))), (Hc b0 37 [(Ci G), (Ci B), (Ci R), (Ci K)]), (Hc b1 33 [(Cs 0 O x.1.1 C), (Cs 1 A x.2 D), (Cs 2 H x.4 E)])] = [(Hr false O 0 2 x.1.1 0 [(fun i9 => (Cs 3 (so i9) (x.1.2 i9) (sc i9))), (fun i10 => (Cb (x.1.4 i10)))]), (Hr false A 0 1 x.2 0 [(fun i11 => (Ci (x.3 i11)))]), (Hr false H 0 1 x.4 0 [(fun i12 => (Ci (x.5 i12)))]), (Ho false (symRows false 0 x.1 so (fun x13 => 0))), (Hc bg2 37 [(Ci G), (Ci B), (Ci R), (Ci K)]), (Hc ba3 33 [(Cs 0 O x.1.1 C), (Cs 1 A x.2 D), (Cs 2 H x.4 E)])]) ∧
 ((∀ g14 : (Nat →
 Value),
 ((allB x.1.1 (akIP x O A H C D E so sc G B R K bg2 ba3)) = true →
 (ba3 = ba3 ∧
 (((lenA x) ∧
 x.4 = x.2) ∧
 (∃ bg15 : Nat, (∃ ba16 : Nat, (([(g14 0), (g14 1), (Wp bg2 0), (Wp ba3 0), (g14 4), (g14 5), (g14 6), (g14 7), (g14 8), (g14 9), (g14 10), (g14 11), (g14 12), (g14 13), (g14 14), (g14 15), (g14 16), (g14 17), (g14 18), (g14 19), (g14 20), (g14 21), (g14 22), (g14 23), (g14 24), (g14 25), (g14 26), (g14 27), (g14 28), (g14 29), (g14 30), (g14 31), (g14 32), (g14 33), (g14 34), (g14 35), (g14 36), (g14 37), (g14 38), (g14 39), (Ws O x.1.1 C), (Wi ((x.1.1 : Nat) : Int)), (Wi ((x.1.1 : Nat) : Int)), (g14 43), (g14 44), (g14 45), (g14 46), (g14 47), (g14 48), (g14 49), (g14 50), (Wp ba3 1), (Ws A x.2 D), (Wi ((x.2 : Nat) : Int)), (Wi 0), (g14 55), (g14 56), (g14 57), (g14 58), (g14 59), (g14 60), (g14 61), (g14 62), (g14 63), (g14 64), (g14 65), (g14 66), (g14 67), (g14 68), (g14 69), (g14 70), (g14 71), (g14 72), (g14 73)] = [(g14 0), (g14 1), (Wp bg15 0), (Wp ba16 0), (g14 4), (g14 5), (g14 6), (g14 7), (g14 8), (g14 9), (g14 10), (g14 11), (g14 12), (g14 13), (g14 14), (g14 15), (g14 16), (g14 17), (g14 18), (g14 19), (g14 20), (g14 21), (g14 22), (g14 23), (g14 24), (g14 25), (g14 26), (g14 27), (g14 28), (g14 29), (g14 30), (g14 31), (g14 32), (g14 33), (g14 34), (g14 35), (g14 36), (g14 37), (g14 38), (g14 39), (Ws O x.1.1 C), (Wi ((x.1.1 : Nat) : Int)), (Wi ((x.1.1 : Nat) : Int)), (g14 43), (g14 44), (g14 45), (g14 46), (g14 47), (g14 48), (g14 49), (g14 50), (Wp ba3 1), (Ws A x.2 D), (Wi ((x.2 : Nat) : Int)), (Wi 0), (g14 55), (g14 56), (g14 57), (g14 58), (g14 59), (g14 60), (g14 61), (g14 62), (g14 63), (g14 64), (g14 65), (g14 66), (g14 67), (g14 68), (g14 69), (g14 70), (g14 71), (g14 72), (g14 73)] ∧
 [(Hr false O 0 2 x.1.1 0 [(fun i17 => (Cs 3 (so i17) (x.1.2 i17) (sc i17))), (fun i18 => (Cb (x.1.4 i18)))]), (Hr false A 0 1 x.2 0 [(fun i19 => (Ci (x.3 i19)))]), (Hr false H 0 1 x.4 0 [(fun i20 => (Ci (x.5 i20)))]), (Ho false (symRows false 0 x.1 so (fun x21 => 0))), (Hc bg2 37 [(Ci G), (Ci B), (Ci R), (Ci K)]), (Hc ba3 33 [(Cs 0 O x.1.1 C), (Cs 1 A x.2 D), (Cs 2 H x.4 E)])] = [(Hr false O 0 2 x.1.1 0 [(fun i22 => (Cs 3 (so i22) (x.1.2 i22) (sc i22))), (fun i23 => (Cb (x.1.4 i23)))]), (Hr false A 0 1 x.2 0 [(fun i24 => (Ci (x.3 i24)))]), (Hr false H 0 1 x.4 0 [(fun i25 => (Ci (x.5 i25)))]), (Ho false (symRows false 0 x.1 so (fun x26 => 0))), (Hc bg15 37 [(Ci G), (Ci B), (Ci R), (Ci K)]), (Hc ba16 33 [(Cs 0 O x.1.1 C), (Cs 1 A x.2 D), (Cs 2 H x.4 E)])]) ∧
 ((∀ g27 : (Nat →
 Value),
 ((allB x.2 (alIP x O A H C D E so sc G B R K bg15 ba16)) = true →
 (Wb true) = (Wb (arrOk G B R K x)))) ∧
 (∀ g28 : (Nat →
 Value),
 ((allB x.2 (alIP x O A H C D E so sc G B R K bg15 ba16)) = false →
 (Wb false) = (Wb (arrOk G B R K x)))))))))))) ∧
 (∀ g29 : (Nat →
 Value),
 ((allB x.1.1 (akIP x O A H C D E so sc G B R K bg2 ba3)) = false →
 (Wb false) = (Wb (arrOk G B R K x)))))))))))))) ∧
 ((((x.2 : Nat) : Int) != ((bankN G B R K) * R)) = true →
 (Wb false) = (Wb (arrOk G B R K x)))))) ∧
 ((((x.1.1 : Nat) : Int) != (lineN G B R K)) = true →
 (Wb false) = (Wb (arrOk G B R K x)))))))) ∧
 ((!(geoB G B R K)) = true →
 (Wb false) = (Wb (arrOk G B R K x))))))))))))) := by kernel_rfl
theorem arrokI_any (x : AD) (O A H : Option Addr) (C D E : Nat) (so : Nat → Option Addr) (sc : Nat → Nat) (G B R K : Int) (w : World) (hA : SeenA w x O A H so sc) (hl : lenA x) : Calls Try.prog 52 #[.agg #[.int .i64 G, .int .i64 B, .int .i64 R, .int .i64 K], arrV x O A H C D E] w fun e w' => e = .returned (.bool (arrOk G B R K x)) ∧ Below w.heap.size w w' := by
  refine fn_ok mixed (E := { tb := [(93, sGeo), (92, sBank), (94, sLine)], L := [(5, sakkI x O A H C D E so sc G B R K), (11, sallI x O A H C D E so sc G B R K)] }) ⟨sGeo_I, sBank_I, sLine_I, trivial⟩ Try.func52 (two_loops (by kernel_rfl) (by decide) (akkI_ok x O A H C D E so sc G B R K _) (allI_ok x O A H C D E so sc G B R K _)) (@Eq.mpr _ _ (arrokI_T x O A H C D E so sc G B R K) ?_) (HS.seenAll (fun _ => False) _ (hA.all 0 seenC_nil)) (fun v ch' w' hv hs => ⟨by rw [hv], hs.below⟩)
  clear hA
  have l1 := hl.1
  have l2 := hl.2.1
  have l3 := hl.2.2.1
  have eS : ∀ bg ba, allB x.c.n (akIP x O A H C D E so sc G B R K bg ba) = allB x.c.n (fun j => symB (x.c.sn j) (x.c.sy j) 11) := fun _ _ => rfl
  have eA : ∀ bg ba, allB x.aN (alIP x O A H C D E so sc G B R K bg ba) = allB x.aN (fun j => btw (x.ag j) 0 100000 && btw (x.hg j) 0 100000) := fun _ _ => rfl
  simp only [eS, eA]
  cases hg : geoB G B R K
  · have hb := (line_not hg).2
    have hok : arrOk G B R K x = false := by simp [arrOk, hg]
    have hz : rng (imul (bankN G B R K) R) := by rw [hb]; simp [imul, rng]
    repeat' (first
      | with_reducible exact rfl
      | exact True.intro
      | with_reducible assumption
      | (rw [hok]; done)
      | refine And.intro ?_ ?_
      | apply Exists.intro
      | exact hl
      | (intro h; exfalso; simp at h; done)
      | (intro h; exfalso; simp [hg] at h; done)
      | (intro h; exfalso; simp [h1] at h; done)
      | (intro h; exfalso; simp [h2] at h; done)
      | (intro h; exfalso; simp [h3] at h; done)
      | (intro h; exfalso; simp [h3'] at h; done)
      | (intro h; exfalso; simp [bne, h1] at h; done)
      | (intro h; exfalso; simp only [bne, h2] at h; simp at h; done)
      | (intro h; exfalso; simp only [bne, h3] at h; simp at h; done)
      | (intro h; exfalso; simp only [bne, h3'] at h; simp at h; done)
      | (intro h; exfalso; rw [h4] at h; cases h; done)
      | (intro h; exfalso; rw [h5] at h; cases h; done)
      | intro _
      | omega
      | exact rfl)
  · have hf := geo_facts hg
    have hr := geo_bank hg
    have hq := geo_row hg
    have hb : bankN G B R K = G * B := by simp [bankN, hg]
    have hz : rng (imul (bankN G B R K) R) := by rw [hb]; exact ⟨by show _ ≤ G * B * R; omega, by show G * B * R ≤ _; omega⟩
    cases h1 : ((x.c.n : Int) == lineN G B R K)
    · have hok : arrOk G B R K x = false := by simp [arrOk, hg, ieq, h1]
      repeat' (first
        | with_reducible exact rfl
        | exact True.intro
        | with_reducible assumption
        | (rw [hok]; done)
        | refine And.intro ?_ ?_
        | apply Exists.intro
        | exact hl
        | (intro h; exfalso; simp at h; done)
        | (intro h; exfalso; simp [hg] at h; done)
        | (intro h; exfalso; simp [h1] at h; done)
        | (intro h; exfalso; simp [h2] at h; done)
        | (intro h; exfalso; simp [h3] at h; done)
        | (intro h; exfalso; simp [h3'] at h; done)
        | (intro h; exfalso; simp [bne, h1] at h; done)
        | (intro h; exfalso; simp only [bne, h2] at h; simp at h; done)
        | (intro h; exfalso; simp only [bne, h3] at h; simp at h; done)
        | (intro h; exfalso; simp only [bne, h3'] at h; simp at h; done)
        | (intro h; exfalso; rw [h4] at h; cases h; done)
        | (intro h; exfalso; rw [h5] at h; cases h; done)
        | intro _
        | omega
        | exact rfl)
    · cases h2 : ((x.aN : Int) == bankN G B R K * R)
      · have hok : arrOk G B R K x = false := by simp [arrOk, hg, ieq, h2]
        repeat' (first
          | with_reducible exact rfl
          | exact True.intro
          | with_reducible assumption
          | (rw [hok]; done)
          | refine And.intro ?_ ?_
          | apply Exists.intro
          | exact hl
          | (intro h; exfalso; simp at h; done)
          | (intro h; exfalso; simp [hg] at h; done)
          | (intro h; exfalso; simp [h1] at h; done)
          | (intro h; exfalso; simp [h2] at h; done)
          | (intro h; exfalso; simp [h3] at h; done)
          | (intro h; exfalso; simp [h3'] at h; done)
          | (intro h; exfalso; simp [bne, h1] at h; done)
          | (intro h; exfalso; simp only [bne, h2] at h; simp at h; done)
          | (intro h; exfalso; simp only [bne, h3] at h; simp at h; done)
          | (intro h; exfalso; simp only [bne, h3'] at h; simp at h; done)
          | (intro h; exfalso; rw [h4] at h; cases h; done)
          | (intro h; exfalso; rw [h5] at h; cases h; done)
          | intro _
          | omega
          | exact rfl)
      · cases h3 : ((x.hN : Int) == (x.aN : Int))
        · have hok : arrOk G B R K x = false := by simp [arrOk, hg, ieq, h3]
          have h2' := eq_of_beq h2
          have h3' : ((x.hN : Int) == bankN G B R K * R) = false := by rw [← h2']; exact h3
          repeat' (first
            | with_reducible exact rfl
            | exact True.intro
            | with_reducible assumption
            | (rw [hok]; done)
            | refine And.intro ?_ ?_
            | apply Exists.intro
            | exact hl
            | (intro h; exfalso; simp at h; done)
            | (intro h; exfalso; simp [hg] at h; done)
            | (intro h; exfalso; simp [h1] at h; done)
            | (intro h; exfalso; simp [h2] at h; done)
            | (intro h; exfalso; simp [h3] at h; done)
            | (intro h; exfalso; simp [h3'] at h; done)
            | (intro h; exfalso; simp [bne, h1] at h; done)
            | (intro h; exfalso; simp only [bne, h2] at h; simp at h; done)
            | (intro h; exfalso; simp only [bne, h3] at h; simp at h; done)
            | (intro h; exfalso; simp only [bne, h3'] at h; simp at h; done)
            | (intro h; exfalso; rw [h4] at h; cases h; done)
            | (intro h; exfalso; rw [h5] at h; cases h; done)
            | intro _
            | omega
            | exact rfl)
        · have hh : x.hN = x.aN := by have := eq_of_beq h3; omega
          have h2' := eq_of_beq h2
          have h3' : ((x.hN : Int) == bankN G B R K * R) = true := by rw [← h2']; exact h3
          cases h4 : allB x.c.n (fun j => symB (x.c.sn j) (x.c.sy j) 11)
          · have hok : arrOk G B R K x = false := by simp [arrOk, h4]
            repeat' (first
              | with_reducible exact rfl
              | exact True.intro
              | with_reducible assumption
              | (rw [hok]; done)
              | refine And.intro ?_ ?_
              | apply Exists.intro
              | exact hl
              | (intro h; exfalso; simp at h; done)
              | (intro h; exfalso; simp [hg] at h; done)
              | (intro h; exfalso; simp [h1] at h; done)
              | (intro h; exfalso; simp [h2] at h; done)
              | (intro h; exfalso; simp [h3] at h; done)
              | (intro h; exfalso; simp [h3'] at h; done)
              | (intro h; exfalso; simp [bne, h1] at h; done)
              | (intro h; exfalso; simp only [bne, h2] at h; simp at h; done)
              | (intro h; exfalso; simp only [bne, h3] at h; simp at h; done)
              | (intro h; exfalso; simp only [bne, h3'] at h; simp at h; done)
              | (intro h; exfalso; rw [h4] at h; cases h; done)
              | (intro h; exfalso; rw [h5] at h; cases h; done)
              | intro _
              | omega
              | exact rfl)
          · cases h5 : allB x.aN (fun j => btw (x.ag j) 0 100000 && btw (x.hg j) 0 100000)
            · have hok : arrOk G B R K x = false := by simp [arrOk, h5]
              repeat' (first
                | with_reducible exact rfl
                | exact True.intro
                | with_reducible assumption
                | (rw [hok]; done)
                | refine And.intro ?_ ?_
                | apply Exists.intro
                | exact hl
                | (intro h; exfalso; simp at h; done)
                | (intro h; exfalso; simp [hg] at h; done)
                | (intro h; exfalso; simp [h1] at h; done)
                | (intro h; exfalso; simp [h2] at h; done)
                | (intro h; exfalso; simp [h3] at h; done)
                | (intro h; exfalso; simp [h3'] at h; done)
                | (intro h; exfalso; simp [bne, h1] at h; done)
                | (intro h; exfalso; simp only [bne, h2] at h; simp at h; done)
                | (intro h; exfalso; simp only [bne, h3] at h; simp at h; done)
                | (intro h; exfalso; simp only [bne, h3'] at h; simp at h; done)
                | (intro h; exfalso; rw [h4] at h; cases h; done)
                | (intro h; exfalso; rw [h5] at h; cases h; done)
                | intro _
                | omega
                | exact rfl)
            · have hok : arrOk G B R K x = true := by simp [arrOk, hg, ieq, h1, h2, h3, h4, h5]
              repeat' (first
                | with_reducible exact rfl
                | exact True.intro
                | with_reducible assumption
                | (rw [hok]; done)
                | refine And.intro ?_ ?_
                | apply Exists.intro
                | exact hl
                | (intro h; exfalso; simp at h; done)
                | (intro h; exfalso; simp [hg] at h; done)
                | (intro h; exfalso; simp [h1] at h; done)
                | (intro h; exfalso; simp [h2] at h; done)
                | (intro h; exfalso; simp [h3] at h; done)
                | (intro h; exfalso; simp [h3'] at h; done)
                | (intro h; exfalso; simp [bne, h1] at h; done)
                | (intro h; exfalso; simp only [bne, h2] at h; simp at h; done)
                | (intro h; exfalso; simp only [bne, h3] at h; simp at h; done)
                | (intro h; exfalso; simp only [bne, h3'] at h; simp at h; done)
                | (intro h; exfalso; rw [h4] at h; cases h; done)
                | (intro h; exfalso; rw [h5] at h; cases h; done)
                | intro _
                | omega
                | exact rfl)
def sakkS (x : AD) (O A H : Option Addr) (C D E : Nat) (so : Nat → Option Addr) (sc : Nat → Nat) (G B R K : Int) : LSm := fun ts ch kk => lenA x ∧ ∃ bg ba, sakS x O A H C D E so sc G B R K bg ba ts ch kk
def sallS (x : AD) (O A H : Option Addr) (C D E : Nat) (so : Nat → Option Addr) (sc : Nat → Nat) (G B R K : Int) : LSm := fun ts ch kk => (lenA x ∧ x.hN = x.aN) ∧ ∃ bg ba, salS x O A H C D E so sc G B R K bg ba ts ch kk
theorem akkS_ok (x : AD) (O A H : Option Addr) (C D E : Nat) (so : Nat → Option Addr) (sc : Nat → Nat) (G B R K : Int) (X : Cx) : LoopOK Try.prog X (theLoop Try.f46 0) (sakkS x O A H C D E so sc G B R K) := by
  rintro ts ch kk a w ⟨h1, bg, ba, hS⟩ hT hd hs
  exact akS_ok x O A H C D E so sc G B R K bg ba h1 X ts ch kk a w hS hT hd hs
theorem allS_ok (x : AD) (O A H : Option Addr) (C D E : Nat) (so : Nat → Option Addr) (sc : Nat → Nat) (G B R K : Int) (X : Cx) : LoopOK Try.prog X (theLoop Try.f46 1) (sallS x O A H C D E so sc G B R K) := by
  rintro ts ch kk a w ⟨⟨h1, h2⟩, bg, ba, hS⟩ hT hd hs
  exact alS_ok x O A H C D E so sc G B R K bg ba h1 h2 X ts ch kk a w hS hT hd hs
theorem arrokS_T (x : AD) (O A H : Option Addr) (C D E : Nat) (so : Nat → Option Addr) (sc : Nat → Nat) (G B R K : Int) : (exFn Try.prog { tb := [(81, sGeo), (82, sBank), (31, sLine)], L := [(4, sakkS x O A H C D E so sc G B R K), (9, sallS x O A H C D E so sc G B R K)] } 400 Try.f46 ([.a (.agg [.int G, .int B, .int R, .int K]), .a (arrS 0 x O A H C D E)]) (arrR 0 x O A H so sc) (fun v _ => v.den = .bool (arrOk G B R K x))) = (
  (∀ b0 : Nat,
 (∀ b1 : Nat,
 (b0 = b0 ∧
 (True ∧
 (((!(geoB G B R K)) = false →
 (b1 = b1 ∧
 (b0 = b0 ∧
 (True ∧
 (((((x.1.1 : Nat) : Int) != (lineN G B R K)) = false →
 (b1 = b1 ∧
 (b0 = b0 ∧
 (b0 = b0 ∧
 (True ∧
 ((rng ((bankN G B R K) * R)) ∧
 (((((x.2 : Nat) : Int) != ((bankN G B R K) * R)) = false →
 (b1 = b1 ∧
 (b1 = b1 ∧
 (((((x.4 : Nat) : Int) != ((x.2 : Nat) : Int)) = true →
 (Wb false) = (Wb (arrOk G B R K x))) ∧
 ((((x.4 : Nat) : Int) != ((x.2 : Nat) : Int)) = false →
 ((lenA x) ∧
 (∃ bg2 : Nat, (∃ ba3 : Nat, (([(Wa [(Wi G), (Wi B), (Wi R), (Wi K)]), (Wa [(Ws O x.1.1 C), (Ws A x.2 D), (Ws H x.4 E)]), (Wp b0 0), (Wp b1 0), (Wb false), (Wi 0), (Wu []), (Wa [(Wi G), (Wi B), (Wi R), (Wi K)]), (Wb (geoB G B R K)), (Wb (!(geoB G B R K))), (Wb false), (Wp b1 0), (Ws O x.1.1 C), (Wi ((x.1.1 : Nat) : Int)), (Wa [(Wi G), (Wi B), (Wi R), (Wi K)]), (Wi (lineN G B R K)), (Wb (((x.1.1 : Nat) : Int) != (lineN G B R K))), (Wb (((x.1.1 : Nat) : Int) != (lineN G B R K))), (Wb false), (Wp b1 1), (Ws A x.2 D), (Wi ((x.2 : Nat) : Int)), (Wa [(Wi G), (Wi B), (Wi R), (Wi K)]), (Wi (bankN G B R K)), (Wp b0 2), (Wi R), (Wi ((bankN G B R K) * R)), (Wb (((x.2 : Nat) : Int) != ((bankN G B R K) * R))), (Wb (((x.2 : Nat) : Int) != ((bankN G B R K) * R))), (Wb false), (Wp b1 2), (Ws H x.4 E), (Wi ((x.4 : Nat) : Int)), (Wp b1 1), (Ws A x.2 D), (Wi ((x.2 : Nat) : Int)), (Wb (((x.4 : Nat) : Int) != ((x.2 : Nat) : Int))), (Wb false), (Wu []), (Wu []), (Wu []), (Wu []), (Wu []), (Wu []), (Wu []), (Wu []), (Wu []), (Wu []), (Wu []), (Wu []), (Wu []), (Wu []), (Wu []), (Wu []), (Wu []), (Wu []), (Wu []), (Wu []), (Wu []), (Wu []), (Wu []), (Wu []), (Wu []), (Wu []), (Wu []), (Wu []), (Wu []), (Wu []), (Wu []), (Wu []), (Wu []), (Wu []), (Wu []), (Wu []), (Wu []), (Wu [])] = [(Wa [(Wi G), (Wi B), (Wi R), (Wi K)]), (Wa [(Ws O x.1.1 C), (Ws A x.2 D), (Ws H x.4 E)]), (Wp bg2 0), (Wp ba3 0), (Wb false), (Wi 0), (Wu []), (Wa [(Wi G), (Wi B), (Wi R), (Wi K)]), (Wb (geoB G B R K)), (Wb (!(geoB G B R K))), (Wb false), (Wp b1 0), (Ws O x.1.1 C), (Wi ((x.1.1 : Nat) : Int)), (Wa [(Wi G), (Wi B), (Wi R), (Wi K)]), (Wi (lineN G B R K)), (Wb (((x.1.1 : Nat) : Int) != (lineN G B R K))), (Wb (((x.1.1 : Nat) : Int) != (lineN G B R K))), (Wb false), (Wp b1 1), (Ws A x.2 D), (Wi ((x.2 : Nat) : Int)), (Wa [(Wi G), (Wi B), (Wi R), (Wi K)]), (Wi (bankN G B R K)), (Wp b0 2), (Wi R), (Wi ((bankN G B R K) * R)), (Wb (((x.2 : Nat) : Int) != ((bankN G B R K) * R))), (Wb (((x.2 : Nat) : Int) != ((bankN G B R K) * R))), (Wb false), (Wp b1 2), (Ws H x.4 E), (Wi ((x.4 : Nat) : Int)), (Wp b1 1), (Ws A x.2 D), (Wi ((x.2 : Nat) : Int)), (Wb (((x.4 : Nat) : Int) != ((x.2 : Nat) : Int))), (Wb false), (Wu []), (Wu []), (Wu []), (Wu []), (Wu []), (Wu []), (Wu []), (Wu []), (Wu []), (Wu []), (Wu []), (Wu []), (Wu []), (Wu []), (Wu []), (Wu []), (Wu []), (Wu []), (Wu []), (Wu []), (Wu []), (Wu []), (Wu []), (Wu []), (Wu []), (Wu []), (Wu []), (Wu []), (Wu []), (Wu []), (Wu []), (Wu []), (Wu []), (Wu []), (Wu []), (Wu []), (Wu []), (Wu [])] ∧
 [(Hr false O 0 2 x.1.1 0 [(fun i4 => (Cs 3 (so i4) (x.1.2 i4) (sc i4))), (fun i5 => (Cb (x.1.4 i5)))]), (Hr false A 0 1 x.2 0 [(fun i6 => (Ci (x.3 i6)))]), (Hr false H 0 1 x.4 0 [(fun i7 => (Ci (x.5 i7)))]), (Ho false (symRows false 0 x.1 so (fun x8 => 0))), (Hc b0 37 [(Ci G), (Ci B), (Ci R), (Ci K)]), (Hc b1 33 [(Cs 0 O x.1.1 C), (Cs 1 A x.2 D), (Cs 2 H x.4 E)])] = [(Hr false O 0 2 x.1.1 0 [(fun i9 => (Cs 3 (so i9) (x.1.2 i9) (sc i9))), (fun i10 => (Cb (x.1.4 i10)))]), (Hr false A 0 1 x.2 0 [(fun i11 => (Ci (x.3 i11)))]), (Hr false H 0 1 x.4 0 [(fun i12 => (Ci (x.5 i12)))]), (Ho false (symRows false 0 x.1 so (fun x13 => 0))), (Hc bg2 37 [(Ci G), (Ci B), (Ci R), (Ci K)]), (Hc ba3 33 [(Cs 0 O x.1.1 C), (Cs 1 A x.2 D), (Cs 2 H x.4 E)])]) ∧
 ((∀ g14 : (Nat →
 Value),
 ((allB x.1.1 (akSP x O A H C D E so sc G B R K bg2 ba3)) = true →
 (((lenA x) ∧
 x.4 = x.2) ∧
 (∃ bg15 : Nat, (∃ ba16 : Nat, (([(g14 0), (g14 1), (Wp bg2 0), (Wp ba3 0), (g14 4), (Wi ((x.1.1 : Nat) : Int)), (Wi 0), (g14 7), (g14 8), (g14 9), (g14 10), (g14 11), (g14 12), (g14 13), (g14 14), (g14 15), (g14 16), (g14 17), (g14 18), (g14 19), (g14 20), (g14 21), (g14 22), (g14 23), (g14 24), (g14 25), (g14 26), (g14 27), (g14 28), (g14 29), (g14 30), (g14 31), (g14 32), (g14 33), (g14 34), (g14 35), (g14 36), (g14 37), (g14 38), (g14 39), (g14 40), (g14 41), (g14 42), (g14 43), (g14 44), (g14 45), (g14 46), (g14 47), (g14 48), (g14 49), (g14 50), (g14 51), (g14 52), (g14 53), (g14 54), (g14 55), (g14 56), (g14 57), (g14 58), (g14 59), (g14 60), (g14 61), (g14 62), (g14 63), (g14 64), (g14 65), (g14 66), (g14 67), (g14 68), (g14 69), (g14 70), (g14 71), (g14 72), (g14 73), (g14 74), (g14 75)] = [(g14 0), (g14 1), (Wp bg15 0), (Wp ba16 0), (g14 4), (Wi ((x.1.1 : Nat) : Int)), (Wi 0), (g14 7), (g14 8), (g14 9), (g14 10), (g14 11), (g14 12), (g14 13), (g14 14), (g14 15), (g14 16), (g14 17), (g14 18), (g14 19), (g14 20), (g14 21), (g14 22), (g14 23), (g14 24), (g14 25), (g14 26), (g14 27), (g14 28), (g14 29), (g14 30), (g14 31), (g14 32), (g14 33), (g14 34), (g14 35), (g14 36), (g14 37), (g14 38), (g14 39), (g14 40), (g14 41), (g14 42), (g14 43), (g14 44), (g14 45), (g14 46), (g14 47), (g14 48), (g14 49), (g14 50), (g14 51), (g14 52), (g14 53), (g14 54), (g14 55), (g14 56), (g14 57), (g14 58), (g14 59), (g14 60), (g14 61), (g14 62), (g14 63), (g14 64), (g14 65), (g14 66), (g14 67), (g14 68), (g14 69), (g14 70), (g14 71), (g14 72), (g14 73), (g14 74), (g14 75)] ∧
 [(Hr false O 0 2 x.1.1 0 [(fun i17 => (Cs 3 (so i17) (x.1.2 i17) (sc i17))), (fun i18 => (Cb (x.1.4 i18)))]), (Hr false A 0 1 x.2 0 [(fun i19 => (Ci (x.3 i19)))]), (Hr false H 0 1 x.4 0 [(fun i20 => (Ci (x.5 i20)))]), (Ho false (symRows false 0 x.1 so (fun x21 => 0))), (Hc bg2 37 [(Ci G), (Ci B), (Ci R), (Ci K)]), (Hc ba3 33 [(Cs 0 O x.1.1 C), (Cs 1 A x.2 D), (Cs 2 H x.4 E)])] = [(Hr false O 0 2 x.1.1 0 [(fun i22 => (Cs 3 (so i22) (x.1.2 i22) (sc i22))), (fun i23 => (Cb (x.1.4 i23)))]), (Hr false A 0 1 x.2 0 [(fun i24 => (Ci (x.3 i24)))]), (Hr false H 0 1 x.4 0 [(fun i25 => (Ci (x.5 i25)))]), (Ho false (symRows false 0 x.1 so (fun x26 => 0))), (Hc bg15 37 [(Ci G), (Ci B), (Ci R), (Ci K)]), (Hc ba16 33 [(Cs 0 O x.1.1 C), (Cs 1 A x.2 D), (Cs 2 H x.4 E)])]) ∧
 ((∀ g27 : (Nat →
 Value),
 ((allB x.2 (alSP x O A H C D E so sc G B R K bg15 ba16)) = true →
 (Wb true) = (Wb (arrOk G B R K x)))) ∧
 (∀ g28 : (Nat →
 Value),
 ((allB x.2 (alSP x O A H C D E so sc G B R K bg15 ba16)) = false →
 (Wb false) = (Wb (arrOk G B R K x))))))))))) ∧
 (∀ g29 : (Nat →
 Value),
 ((allB x.1.1 (akSP x O A H C D E so sc G B R K bg2 ba3)) = false →
 (Wb false) = (Wb (arrOk G B R K x)))))))))))))) ∧
 ((((x.2 : Nat) : Int) != ((bankN G B R K) * R)) = true →
 (Wb false) = (Wb (arrOk G B R K x)))))))))) ∧
 ((((x.1.1 : Nat) : Int) != (lineN G B R K)) = true →
 (Wb false) = (Wb (arrOk G B R K x)))))))) ∧
 ((!(geoB G B R K)) = true →
 (Wb false) = (Wb (arrOk G B R K x))))))))) := by kernel_rfl
theorem arrokS_any (x : AD) (O A H : Option Addr) (C D E : Nat) (so : Nat → Option Addr) (sc : Nat → Nat) (G B R K : Int) (w : World) (hA : SeenA w x O A H so sc) (hl : lenA x) : Calls Try.prog 46 #[.agg #[.int .i64 G, .int .i64 B, .int .i64 R, .int .i64 K], arrV x O A H C D E] w fun e w' => e = .returned (.bool (arrOk G B R K x)) ∧ Below w.heap.size w w' := by
  refine fn_ok mixed (E := { tb := [(81, sGeo), (82, sBank), (31, sLine)], L := [(4, sakkS x O A H C D E so sc G B R K), (9, sallS x O A H C D E so sc G B R K)] }) ⟨sGeo_S, sBank_S, sLine_S, trivial⟩ Try.func46 (two_loops (by kernel_rfl) (by decide) (akkS_ok x O A H C D E so sc G B R K _) (allS_ok x O A H C D E so sc G B R K _)) (@Eq.mpr _ _ (arrokS_T x O A H C D E so sc G B R K) ?_) (HS.seenAll (fun _ => False) _ (hA.all 0 seenC_nil)) (fun v ch' w' hv hs => ⟨by rw [hv], hs.below⟩)
  clear hA
  have l1 := hl.1
  have l2 := hl.2.1
  have l3 := hl.2.2.1
  have eS : ∀ bg ba, allB x.c.n (akSP x O A H C D E so sc G B R K bg ba) = allB x.c.n (fun j => symB (x.c.sn j) (x.c.sy j) 11) := fun _ _ => rfl
  have eA : ∀ bg ba, allB x.aN (alSP x O A H C D E so sc G B R K bg ba) = allB x.aN (fun j => btw (x.ag j) 0 100000 && btw (x.hg j) 0 100000) := fun _ _ => rfl
  simp only [eS, eA]
  cases hg : geoB G B R K
  · have hb := (line_not hg).2
    have hok : arrOk G B R K x = false := by simp [arrOk, hg]
    have hz : rng (imul (bankN G B R K) R) := by rw [hb]; simp [imul, rng]
    repeat' (first
      | with_reducible exact rfl
      | exact True.intro
      | with_reducible assumption
      | (rw [hok]; done)
      | refine And.intro ?_ ?_
      | apply Exists.intro
      | exact hl
      | (intro h; exfalso; simp at h; done)
      | (intro h; exfalso; simp [hg] at h; done)
      | (intro h; exfalso; simp [h1] at h; done)
      | (intro h; exfalso; simp [h2] at h; done)
      | (intro h; exfalso; simp [h3] at h; done)
      | (intro h; exfalso; simp [h3'] at h; done)
      | (intro h; exfalso; simp [bne, h1] at h; done)
      | (intro h; exfalso; simp only [bne, h2] at h; simp at h; done)
      | (intro h; exfalso; simp only [bne, h3] at h; simp at h; done)
      | (intro h; exfalso; simp only [bne, h3'] at h; simp at h; done)
      | (intro h; exfalso; rw [h4] at h; cases h; done)
      | (intro h; exfalso; rw [h5] at h; cases h; done)
      | intro _
      | omega
      | exact rfl)
  · have hf := geo_facts hg
    have hr := geo_bank hg
    have hq := geo_row hg
    have hb : bankN G B R K = G * B := by simp [bankN, hg]
    have hz : rng (imul (bankN G B R K) R) := by rw [hb]; exact ⟨by show _ ≤ G * B * R; omega, by show G * B * R ≤ _; omega⟩
    cases h1 : ((x.c.n : Int) == lineN G B R K)
    · have hok : arrOk G B R K x = false := by simp [arrOk, hg, ieq, h1]
      repeat' (first
        | with_reducible exact rfl
        | exact True.intro
        | with_reducible assumption
        | (rw [hok]; done)
        | refine And.intro ?_ ?_
        | apply Exists.intro
        | exact hl
        | (intro h; exfalso; simp at h; done)
        | (intro h; exfalso; simp [hg] at h; done)
        | (intro h; exfalso; simp [h1] at h; done)
        | (intro h; exfalso; simp [h2] at h; done)
        | (intro h; exfalso; simp [h3] at h; done)
        | (intro h; exfalso; simp [h3'] at h; done)
        | (intro h; exfalso; simp [bne, h1] at h; done)
        | (intro h; exfalso; simp only [bne, h2] at h; simp at h; done)
        | (intro h; exfalso; simp only [bne, h3] at h; simp at h; done)
        | (intro h; exfalso; simp only [bne, h3'] at h; simp at h; done)
        | (intro h; exfalso; rw [h4] at h; cases h; done)
        | (intro h; exfalso; rw [h5] at h; cases h; done)
        | intro _
        | omega
        | exact rfl)
    · cases h2 : ((x.aN : Int) == bankN G B R K * R)
      · have hok : arrOk G B R K x = false := by simp [arrOk, hg, ieq, h2]
        repeat' (first
          | with_reducible exact rfl
          | exact True.intro
          | with_reducible assumption
          | (rw [hok]; done)
          | refine And.intro ?_ ?_
          | apply Exists.intro
          | exact hl
          | (intro h; exfalso; simp at h; done)
          | (intro h; exfalso; simp [hg] at h; done)
          | (intro h; exfalso; simp [h1] at h; done)
          | (intro h; exfalso; simp [h2] at h; done)
          | (intro h; exfalso; simp [h3] at h; done)
          | (intro h; exfalso; simp [h3'] at h; done)
          | (intro h; exfalso; simp [bne, h1] at h; done)
          | (intro h; exfalso; simp only [bne, h2] at h; simp at h; done)
          | (intro h; exfalso; simp only [bne, h3] at h; simp at h; done)
          | (intro h; exfalso; simp only [bne, h3'] at h; simp at h; done)
          | (intro h; exfalso; rw [h4] at h; cases h; done)
          | (intro h; exfalso; rw [h5] at h; cases h; done)
          | intro _
          | omega
          | exact rfl)
      · cases h3 : ((x.hN : Int) == (x.aN : Int))
        · have hok : arrOk G B R K x = false := by simp [arrOk, hg, ieq, h3]
          have h2' := eq_of_beq h2
          have h3' : ((x.hN : Int) == bankN G B R K * R) = false := by rw [← h2']; exact h3
          repeat' (first
            | with_reducible exact rfl
            | exact True.intro
            | with_reducible assumption
            | (rw [hok]; done)
            | refine And.intro ?_ ?_
            | apply Exists.intro
            | exact hl
            | (intro h; exfalso; simp at h; done)
            | (intro h; exfalso; simp [hg] at h; done)
            | (intro h; exfalso; simp [h1] at h; done)
            | (intro h; exfalso; simp [h2] at h; done)
            | (intro h; exfalso; simp [h3] at h; done)
            | (intro h; exfalso; simp [h3'] at h; done)
            | (intro h; exfalso; simp [bne, h1] at h; done)
            | (intro h; exfalso; simp only [bne, h2] at h; simp at h; done)
            | (intro h; exfalso; simp only [bne, h3] at h; simp at h; done)
            | (intro h; exfalso; simp only [bne, h3'] at h; simp at h; done)
            | (intro h; exfalso; rw [h4] at h; cases h; done)
            | (intro h; exfalso; rw [h5] at h; cases h; done)
            | intro _
            | omega
            | exact rfl)
        · have hh : x.hN = x.aN := by have := eq_of_beq h3; omega
          have h2' := eq_of_beq h2
          have h3' : ((x.hN : Int) == bankN G B R K * R) = true := by rw [← h2']; exact h3
          cases h4 : allB x.c.n (fun j => symB (x.c.sn j) (x.c.sy j) 11)
          · have hok : arrOk G B R K x = false := by simp [arrOk, h4]
            repeat' (first
              | with_reducible exact rfl
              | exact True.intro
              | with_reducible assumption
              | (rw [hok]; done)
              | refine And.intro ?_ ?_
              | apply Exists.intro
              | exact hl
              | (intro h; exfalso; simp at h; done)
              | (intro h; exfalso; simp [hg] at h; done)
              | (intro h; exfalso; simp [h1] at h; done)
              | (intro h; exfalso; simp [h2] at h; done)
              | (intro h; exfalso; simp [h3] at h; done)
              | (intro h; exfalso; simp [h3'] at h; done)
              | (intro h; exfalso; simp [bne, h1] at h; done)
              | (intro h; exfalso; simp only [bne, h2] at h; simp at h; done)
              | (intro h; exfalso; simp only [bne, h3] at h; simp at h; done)
              | (intro h; exfalso; simp only [bne, h3'] at h; simp at h; done)
              | (intro h; exfalso; rw [h4] at h; cases h; done)
              | (intro h; exfalso; rw [h5] at h; cases h; done)
              | intro _
              | omega
              | exact rfl)
          · cases h5 : allB x.aN (fun j => btw (x.ag j) 0 100000 && btw (x.hg j) 0 100000)
            · have hok : arrOk G B R K x = false := by simp [arrOk, h5]
              repeat' (first
                | with_reducible exact rfl
                | exact True.intro
                | with_reducible assumption
                | (rw [hok]; done)
                | refine And.intro ?_ ?_
                | apply Exists.intro
                | exact hl
                | (intro h; exfalso; simp at h; done)
                | (intro h; exfalso; simp [hg] at h; done)
                | (intro h; exfalso; simp [h1] at h; done)
                | (intro h; exfalso; simp [h2] at h; done)
                | (intro h; exfalso; simp [h3] at h; done)
                | (intro h; exfalso; simp [h3'] at h; done)
                | (intro h; exfalso; simp [bne, h1] at h; done)
                | (intro h; exfalso; simp only [bne, h2] at h; simp at h; done)
                | (intro h; exfalso; simp only [bne, h3] at h; simp at h; done)
                | (intro h; exfalso; simp only [bne, h3'] at h; simp at h; done)
                | (intro h; exfalso; rw [h4] at h; cases h; done)
                | (intro h; exfalso; rw [h5] at h; cases h; done)
                | intro _
                | omega
                | exact rfl)
            · have hok : arrOk G B R K x = true := by simp [arrOk, hg, ieq, h1, h2, h3, h4, h5]
              repeat' (first
                | with_reducible exact rfl
                | exact True.intro
                | with_reducible assumption
                | (rw [hok]; done)
                | refine And.intro ?_ ?_
                | apply Exists.intro
                | exact hl
                | (intro h; exfalso; simp at h; done)
                | (intro h; exfalso; simp [hg] at h; done)
                | (intro h; exfalso; simp [h1] at h; done)
                | (intro h; exfalso; simp [h2] at h; done)
                | (intro h; exfalso; simp [h3] at h; done)
                | (intro h; exfalso; simp [h3'] at h; done)
                | (intro h; exfalso; simp [bne, h1] at h; done)
                | (intro h; exfalso; simp only [bne, h2] at h; simp at h; done)
                | (intro h; exfalso; simp only [bne, h3] at h; simp at h; done)
                | (intro h; exfalso; simp only [bne, h3'] at h; simp at h; done)
                | (intro h; exfalso; rw [h4] at h; cases h; done)
                | (intro h; exfalso; rw [h5] at h; cases h; done)
                | intro _
                | omega
                | exact rfl)
end Go.Proofs.Ytddeinpnadfgmaa

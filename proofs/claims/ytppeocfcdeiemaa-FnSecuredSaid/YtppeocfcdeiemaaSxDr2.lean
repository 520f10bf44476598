/-
  Twelve drawn places.
-/
import Derived.Test.YtppeocfcdeiemaaSxDr1
namespace Go.Proofs.Ytppeocfcdeiemaa
set_option linter.unusedVariables false
set_option linter.unusedSimpArgs false
open Go.RowKit
set_option maxRecDepth 100000
set_option maxHeartbeats 8000000

abbrev plC (p : Nat → Int) : Prop := ∀ i, inR (p i) 0 (isub 10000 1)
theorem plc_base {z : Int} (hz : inR z 0 (isub 10000 1)) : plC (fun _ => z) := fun _ => hz
theorem plc_step {p : Nat → Int} {k : Nat} {z : Int} (hp : plC p) (hz : inR z 0 (isub 10000 1)) : plC (fun i => if i < k then p i else z) := fun i => by
  dsimp only
  split
  · exact hp i
  · exact hz
theorem sPlacesC_T (co : Option Addr) (cn cc : Nat) (cu : Nat → Int) : (exFn Try.prog {tb := [(27, sNew), (28, sBelow)]} 400 Try.f10 ([.a (.c (.sl 0 co cn cc))]) ([.row ⟨false, co, 0, 1, cn, 0, [fun i => .u8 (cu i)]⟩]) (fun v ch => ∃ (p : Nat → Int) (ro0 : Option Addr) (rc0 : Nat), OutR v ch (.slice ro0 (12) rc0) [.row ⟨true, ro0, 3, 1, 12, rc0, [fun i => .int (p i)]⟩] ∧ (plC p))) = (
  (Exists (fun (u0 : (Nat →
  Int)) => (((co = co ∧
  (cn = cn ∧
  [(fun (i1 : Nat) => (SC.u8 (cu i1)))] = [(fun (i2 : Nat) => (SC.u8 (u0 i2)))])) ∧
  (codeC cn u0)) ∧
  (∀ b3 : Nat,
  (∀ z4 : Int,
  (∀ b5 : Nat,
  (Exists (fun (u6 : (Nat →
  Int)) => (((b3 = b3 ∧
  (63 = 63 ∧
  (co = co ∧
  (cn = cn ∧
  [(fun (i7 : Nat) => (SC.u8 (cu i7)))] = [(fun (i8 : Nat) => (SC.u8 (u6 i8)))])))) ∧
  ((codeC cn u6) ∧
  ((pos0 (0 : Int)) ∧
  (inR (10000 : Int) (1 : Int) (4294967296 : Int))))) ∧
  (∀ z09 : Int,
  (∀ i110 : Int,
  (∀ z111 : Int,
  ((inR z09 (0 : Int) ((10000 : Int) - (1 : Int))) →
  ((pos0 i110) →
   (∀ b12 : Nat,
    ((b5 = b5 ∧
    (b12 = b12 ∧
    ((∀ i13 : Nat,
    Bool.true = Bool.true) ∧
    (apC 0 1 8)))) ∧
    (∀ ao14 : (Option Addr),
    (∀ cap15 : Nat,
    (Exists (fun (u16 : (Nat →
    Int)) => (((b3 = b3 ∧
    (63 = 63 ∧
    (co = co ∧
    (cn = cn ∧
    [(fun (i17 : Nat) => (SC.u8 (cu i17)))] = [(fun (i18 : Nat) => (SC.u8 (u16 i18)))])))) ∧
    ((codeC cn u16) ∧
    ((pos0 i110) ∧
    (inR (10000 : Int) (1 : Int) (4294967296 : Int))))) ∧
    (∀ z019 : Int,
    (∀ i120 : Int,
    (∀ z121 : Int,
    ((inR z019 (0 : Int) ((10000 : Int) - (1 : Int))) →
    ((pos0 i120) →
     (∀ b22 : Nat,
      ((ao14 = ao14 ∧
      (1 = 1 ∧
      (cap15 = cap15 ∧
      (b22 = b22 ∧
      ((∀ i23 : Nat,
      Bool.true = Bool.true) ∧
      (apC 1 1 8)))))) ∧
      (∀ ao'24 : (Option Addr),
      (∀ cap'25 : Nat,
      (Exists (fun (u26 : (Nat →
      Int)) => (((b3 = b3 ∧
      (63 = 63 ∧
      (co = co ∧
      (cn = cn ∧
      [(fun (i27 : Nat) => (SC.u8 (cu i27)))] = [(fun (i28 : Nat) => (SC.u8 (u26 i28)))])))) ∧
      ((codeC cn u26) ∧
      ((pos0 i120) ∧
      (inR (10000 : Int) (1 : Int) (4294967296 : Int))))) ∧
      (∀ z029 : Int,
      (∀ i130 : Int,
      (∀ z131 : Int,
      ((inR z029 (0 : Int) ((10000 : Int) - (1 : Int))) →
      ((pos0 i130) →
       (∀ b32 : Nat,
        ((ao'24 = ao'24 ∧
        ((1 + 1) = (1 + 1) ∧
        (cap'25 = cap'25 ∧
        (b32 = b32 ∧
        ((∀ i33 : Nat,
        Bool.true = Bool.true) ∧
        (apC (1 + 1) 1 8)))))) ∧
        (∀ ao'34 : (Option Addr),
        (∀ cap'35 : Nat,
        (Exists (fun (u36 : (Nat →
        Int)) => (((b3 = b3 ∧
        (63 = 63 ∧
        (co = co ∧
        (cn = cn ∧
        [(fun (i37 : Nat) => (SC.u8 (cu i37)))] = [(fun (i38 : Nat) => (SC.u8 (u36 i38)))])))) ∧
        ((codeC cn u36) ∧
        ((pos0 i130) ∧
        (inR (10000 : Int) (1 : Int) (4294967296 : Int))))) ∧
        (∀ z039 : Int,
        (∀ i140 : Int,
        (∀ z141 : Int,
        ((inR z039 (0 : Int) ((10000 : Int) - (1 : Int))) →
        ((pos0 i140) →
         (∀ b42 : Nat,
          ((ao'34 = ao'34 ∧
          (((1 + 1) + 1) = ((1 + 1) + 1) ∧
          (cap'35 = cap'35 ∧
          (b42 = b42 ∧
          ((∀ i43 : Nat,
          Bool.true = Bool.true) ∧
          (apC ((1 + 1) + 1) 1 8)))))) ∧
          (∀ ao'44 : (Option Addr),
          (∀ cap'45 : Nat,
          (Exists (fun (u46 : (Nat →
          Int)) => (((b3 = b3 ∧
          (63 = 63 ∧
          (co = co ∧
          (cn = cn ∧
          [(fun (i47 : Nat) => (SC.u8 (cu i47)))] = [(fun (i48 : Nat) => (SC.u8 (u46 i48)))])))) ∧
          ((codeC cn u46) ∧
          ((pos0 i140) ∧
          (inR (10000 : Int) (1 : Int) (4294967296 : Int))))) ∧
          (∀ z049 : Int,
          (∀ i150 : Int,
          (∀ z151 : Int,
          ((inR z049 (0 : Int) ((10000 : Int) - (1 : Int))) →
          ((pos0 i150) →
           (∀ b52 : Nat,
            ((ao'44 = ao'44 ∧
            ((((1 + 1) + 1) + 1) = (((1 + 1) + 1) + 1) ∧
            (cap'45 = cap'45 ∧
            (b52 = b52 ∧
            ((∀ i53 : Nat,
            Bool.true = Bool.true) ∧
            (apC (((1 + 1) + 1) + 1) 1 8)))))) ∧
            (∀ ao'54 : (Option Addr),
            (∀ cap'55 : Nat,
            (Exists (fun (u56 : (Nat →
            Int)) => (((b3 = b3 ∧
            (63 = 63 ∧
            (co = co ∧
            (cn = cn ∧
            [(fun (i57 : Nat) => (SC.u8 (cu i57)))] = [(fun (i58 : Nat) => (SC.u8 (u56 i58)))])))) ∧
            ((codeC cn u56) ∧
            ((pos0 i150) ∧
            (inR (10000 : Int) (1 : Int) (4294967296 : Int))))) ∧
            (∀ z059 : Int,
            (∀ i160 : Int,
            (∀ z161 : Int,
            ((inR z059 (0 : Int) ((10000 : Int) - (1 : Int))) →
            ((pos0 i160) →
             (∀ b62 : Nat,
              ((ao'54 = ao'54 ∧
              (((((1 + 1) + 1) + 1) + 1) = ((((1 + 1) + 1) + 1) + 1) ∧
              (cap'55 = cap'55 ∧
              (b62 = b62 ∧
              ((∀ i63 : Nat,
              Bool.true = Bool.true) ∧
              (apC ((((1 + 1) + 1) + 1) + 1) 1 8)))))) ∧
              (∀ ao'64 : (Option Addr),
              (∀ cap'65 : Nat,
              (Exists (fun (u66 : (Nat →
              Int)) => (((b3 = b3 ∧
              (63 = 63 ∧
              (co = co ∧
              (cn = cn ∧
              [(fun (i67 : Nat) => (SC.u8 (cu i67)))] = [(fun (i68 : Nat) => (SC.u8 (u66 i68)))])))) ∧
              ((codeC cn u66) ∧
              ((pos0 i160) ∧
              (inR (10000 : Int) (1 : Int) (4294967296 : Int))))) ∧
              (∀ z069 : Int,
              (∀ i170 : Int,
              (∀ z171 : Int,
              ((inR z069 (0 : Int) ((10000 : Int) - (1 : Int))) →
              ((pos0 i170) →
               (∀ b72 : Nat,
                ((ao'64 = ao'64 ∧
                ((((((1 + 1) + 1) + 1) + 1) + 1) = (((((1 + 1) + 1) + 1) + 1) + 1) ∧
                (cap'65 = cap'65 ∧
                (b72 = b72 ∧
                ((∀ i73 : Nat,
                Bool.true = Bool.true) ∧
                (apC (((((1 + 1) + 1) + 1) + 1) + 1) 1 8)))))) ∧
                (∀ ao'74 : (Option Addr),
                (∀ cap'75 : Nat,
                (Exists (fun (u76 : (Nat →
                Int)) => (((b3 = b3 ∧
                (63 = 63 ∧
                (co = co ∧
                (cn = cn ∧
                [(fun (i77 : Nat) => (SC.u8 (cu i77)))] = [(fun (i78 : Nat) => (SC.u8 (u76 i78)))])))) ∧
                ((codeC cn u76) ∧
                ((pos0 i170) ∧
                (inR (10000 : Int) (1 : Int) (4294967296 : Int))))) ∧
                (∀ z079 : Int,
                (∀ i180 : Int,
                (∀ z181 : Int,
                ((inR z079 (0 : Int) ((10000 : Int) - (1 : Int))) →
                ((pos0 i180) →
                 (∀ b82 : Nat,
                  ((ao'74 = ao'74 ∧
                  (((((((1 + 1) + 1) + 1) + 1) + 1) + 1) = ((((((1 + 1) + 1) + 1) + 1) + 1) + 1) ∧
                  (cap'75 = cap'75 ∧
                  (b82 = b82 ∧
                  ((∀ i83 : Nat,
                  Bool.true = Bool.true) ∧
                  (apC ((((((1 + 1) + 1) + 1) + 1) + 1) + 1) 1 8)))))) ∧
                  (∀ ao'84 : (Option Addr),
                  (∀ cap'85 : Nat,
                  (Exists (fun (u86 : (Nat →
                  Int)) => (((b3 = b3 ∧
                  (63 = 63 ∧
                  (co = co ∧
                  (cn = cn ∧
                  [(fun (i87 : Nat) => (SC.u8 (cu i87)))] = [(fun (i88 : Nat) => (SC.u8 (u86 i88)))])))) ∧
                  ((codeC cn u86) ∧
                  ((pos0 i180) ∧
                  (inR (10000 : Int) (1 : Int) (4294967296 : Int))))) ∧
                  (∀ z089 : Int,
                  (∀ i190 : Int,
                  (∀ z191 : Int,
                  ((inR z089 (0 : Int) ((10000 : Int) - (1 : Int))) →
                  ((pos0 i190) →
                   (∀ b92 : Nat,
                    ((ao'84 = ao'84 ∧
                    ((((((((1 + 1) + 1) + 1) + 1) + 1) + 1) + 1) = (((((((1 + 1) + 1) + 1) + 1) + 1) + 1) + 1) ∧
                    (cap'85 = cap'85 ∧
                    (b92 = b92 ∧
                    ((∀ i93 : Nat,
                    Bool.true = Bool.true) ∧
                    (apC (((((((1 + 1) + 1) + 1) + 1) + 1) + 1) + 1) 1 8)))))) ∧
                    (∀ ao'94 : (Option Addr),
                    (∀ cap'95 : Nat,
                    (Exists (fun (u96 : (Nat →
                    Int)) => (((b3 = b3 ∧
                    (63 = 63 ∧
                    (co = co ∧
                    (cn = cn ∧
                    [(fun (i97 : Nat) => (SC.u8 (cu i97)))] = [(fun (i98 : Nat) => (SC.u8 (u96 i98)))])))) ∧
                    ((codeC cn u96) ∧
                    ((pos0 i190) ∧
                    (inR (10000 : Int) (1 : Int) (4294967296 : Int))))) ∧
                    (∀ z099 : Int,
                    (∀ i1100 : Int,
                    (∀ z1101 : Int,
                    ((inR z099 (0 : Int) ((10000 : Int) - (1 : Int))) →
                    ((pos0 i1100) →
                     (∀ b102 : Nat,
                      ((ao'94 = ao'94 ∧
                      (((((((((1 + 1) + 1) + 1) + 1) + 1) + 1) + 1) + 1) = ((((((((1 + 1) + 1) + 1) + 1) + 1) + 1) + 1) + 1) ∧
                      (cap'95 = cap'95 ∧
                      (b102 = b102 ∧
                      ((∀ i103 : Nat,
                      Bool.true = Bool.true) ∧
                      (apC ((((((((1 + 1) + 1) + 1) + 1) + 1) + 1) + 1) + 1) 1 8)))))) ∧
                      (∀ ao'104 : (Option Addr),
                      (∀ cap'105 : Nat,
                      (Exists (fun (u106 : (Nat →
                      Int)) => (((b3 = b3 ∧
                      (63 = 63 ∧
                      (co = co ∧
                      (cn = cn ∧
                      [(fun (i107 : Nat) => (SC.u8 (cu i107)))] = [(fun (i108 : Nat) => (SC.u8 (u106 i108)))])))) ∧
                      ((codeC cn u106) ∧
                      ((pos0 i1100) ∧
                      (inR (10000 : Int) (1 : Int) (4294967296 : Int))))) ∧
                      (∀ z0109 : Int,
                      (∀ i1110 : Int,
                      (∀ z1111 : Int,
                      ((inR z0109 (0 : Int) ((10000 : Int) - (1 : Int))) →
                      ((pos0 i1110) →
                       (∀ b112 : Nat,
                        ((ao'104 = ao'104 ∧
                        ((((((((((1 + 1) + 1) + 1) + 1) + 1) + 1) + 1) + 1) + 1) = (((((((((1 + 1) + 1) + 1) + 1) + 1) + 1) + 1) + 1) + 1) ∧
                        (cap'105 = cap'105 ∧
                        (b112 = b112 ∧
                        ((∀ i113 : Nat,
                        Bool.true = Bool.true) ∧
                        (apC (((((((((1 + 1) + 1) + 1) + 1) + 1) + 1) + 1) + 1) + 1) 1 8)))))) ∧
                        (∀ ao'114 : (Option Addr),
                        (∀ cap'115 : Nat,
                        (Exists (fun (u116 : (Nat →
                        Int)) => (((b3 = b3 ∧
                        (63 = 63 ∧
                        (co = co ∧
                        (cn = cn ∧
                        [(fun (i117 : Nat) => (SC.u8 (cu i117)))] = [(fun (i118 : Nat) => (SC.u8 (u116 i118)))])))) ∧
                        ((codeC cn u116) ∧
                        ((pos0 i1110) ∧
                        (inR (10000 : Int) (1 : Int) (4294967296 : Int))))) ∧
                        (∀ z0119 : Int,
                        (∀ i1120 : Int,
                        (∀ z1121 : Int,
                        ((inR z0119 (0 : Int) ((10000 : Int) - (1 : Int))) →
                        ((pos0 i1120) →
                         (∀ b122 : Nat,
                          ((ao'114 = ao'114 ∧
                          (((((((((((1 + 1) + 1) + 1) + 1) + 1) + 1) + 1) + 1) + 1) + 1) = ((((((((((1 + 1) + 1) + 1) + 1) + 1) + 1) + 1) + 1) + 1) + 1) ∧
                          (cap'115 = cap'115 ∧
                          (b122 = b122 ∧
                          ((∀ i123 : Nat,
                          Bool.true = Bool.true) ∧
                          (apC ((((((((((1 + 1) + 1) + 1) + 1) + 1) + 1) + 1) + 1) + 1) + 1) 1 8)))))) ∧
                          (∀ ao'124 : (Option Addr),
                          (∀ cap'125 : Nat,
                          (Exists (fun (p126 : (Nat →
                          Int)) => (Exists (fun (ro0127 : (Option Addr)) => (Exists (fun (rc0128 : Nat) => (((Value.slice ao'124 (((((((((((1 + 1) + 1) + 1) + 1) + 1) + 1) + 1) + 1) + 1) + 1) + 1) cap'125) = (Value.slice ro0127 12 rc0128) ∧
                          (((Bool.true = Bool.true ∧
                          (ao'124 = ro0127 ∧
                          (3 = 3 ∧
                          (1 = 1 ∧
                          ((((((((((((1 + 1) + 1) + 1) + 1) + 1) + 1) + 1) + 1) + 1) + 1) + 1) = 12 ∧
                          (cap'125 = rc0128 ∧
                          ((∀ i129 : Nat,
                          (i129 < (((((((((((1 + 1) + 1) + 1) + 1) + 1) + 1) + 1) + 1) + 1) + 1) + 1) →
                          (Value.int IntKind.i64 (if i129 < ((((((((((1 + 1) + 1) + 1) + 1) + 1) + 1) + 1) + 1) + 1) + 1) then (if i129 < (((((((((1 + 1) + 1) + 1) + 1) + 1) + 1) + 1) + 1) + 1) then (if i129 < ((((((((1 + 1) + 1) + 1) + 1) + 1) + 1) + 1) + 1) then (if i129 < (((((((1 + 1) + 1) + 1) + 1) + 1) + 1) + 1) then (if i129 < ((((((1 + 1) + 1) + 1) + 1) + 1) + 1) then (if i129 < (((((1 + 1) + 1) + 1) + 1) + 1) then (if i129 < ((((1 + 1) + 1) + 1) + 1) then (if i129 < (((1 + 1) + 1) + 1) then (if i129 < ((1 + 1) + 1) then (if i129 < (1 + 1) then (if i129 < 1 then z09 else z019) else z029) else z039) else z049) else z059) else z069) else z079) else z089) else z099) else z0109) else z0119)) = (Value.int IntKind.i64 (p126 i129)))) ∧
                          True))))))) ∧
                          True) ∧
                          Bool.true = Bool.true)) ∧
                          (plC p126))))))))))))))))))))))))))))))))))))))))))))))))))))))))))))))))))))))))))))))))))))))))))))))))))))))))))))))))))))))))))))))))))))))))))))))))))))))))))))))) := by kernel_rfl
theorem sPlacesC_any (co : Option Addr) (cn cc : Nat) (cu : Nat → Int) (w : World) (hr : Row.sat w ⟨false, co, 0, 1, cn, 0, [fun i => .u8 (cu i)]⟩) (hcode : codeC cn cu) : Calls Try.prog 10 #[.slice co cn cc] w fun e w' => ∃ (p : Nat → Int) (ro0 : Option Addr) (rc0 : Nat), ((plC p)) ∧ e = .returned (.slice ro0 (12) rc0) ∧ HS ⟨w, fun _ => False⟩ [.row ⟨true, ro0, 3, 1, 12, rc0, [fun i => .int (p i)]⟩] w' := by
  refine fn_ok mixed (E := {tb := [(27, sNew), (28, sBelow)]}) ⟨sNew_ok, sBelow_ok, trivial⟩ Try.func10 (fun _ _ => loopsOK_nil _ _ _) (@Eq.mpr _ _ (sPlacesC_T co cn cc cu) ?_) (HS.rows (fun _ => False) [⟨false, co, 0, 1, cn, 0, [fun i => .u8 (cu i)]⟩] (by simpa using hr)) (fun v ch' w' ⟨p, ro0, rc0, hk, hf⟩ hs => ⟨p, ro0, rc0, hf, by rw [hk.1], hk.hs hs⟩)
  clear hr
  have hcn : cn ≤ 1048576 := hcode.1
  repeat' (first
    | with_reducible exact rfl
    | exact True.intro
    | with_reducible assumption
    | (refine plc_step ?_ (by with_reducible assumption))
    | (exact plc_base (by with_reducible assumption))
    | refine And.intro ?_ ?_
    | apply Exists.intro
    | (intro i hi; exact rfl)
    | intro _
    | omega)
def sPlaces : Sm := fun args ch k =>
  match args with
  | [.a (.c (.sl j ao n cap))] =>
    match ch[j]? with
    | some (.row r) => ∃ u : Nat → Int, ((ao = r.ao ∧ n = r.n ∧ r.fld = [fun i => .u8 (u i)]) ∧ codeC n u) ∧ ∀ (p : Nat → Int), ∀ (ro0 : Option Addr) (rc0 : Nat), (plC p) → k (.a (.c (.sl (ch.length) ro0 (12) rc0))) (ch ++ [.row ⟨true, ro0, 3, 1, 12, rc0, [fun i => .int (p i)]⟩]) []
    | _ => False
  | _ => False
theorem sPlaces_ok : SmOK Try.prog 10 sPlaces := by
  refine smN Try.call10 fun args ch k w X h0 hs => ?_
  unfold sPlaces at h0
  split at h0
  · rename_i j ao n cap
    split at h0
    · rename_i r hj
      obtain ⟨u, ⟨⟨rfl, rfl, hf⟩, hcode⟩, h0⟩ := h0
      simp only [List.map_cons, List.map_nil, den_a, den_c, SA.den, den_sl]
      exact Calls.mono (sPlacesC_any r.ao r.n cap u  w (seenAs' (hs.sat j _ hj) hf rfl) hcode) fun e w' ⟨p, ro0, rc0, hfa, he, hs'⟩ => ⟨.a (.c (.sl (ch.length) ro0 (12) rc0)), [.row ⟨true, ro0, 3, 1, 12, rc0, [fun i => .int (p i)]⟩], he, hs', rfl, h0 p ro0 rc0 hfa⟩
    · exact h0.elim
  · exact h0.elim
end Go.Proofs.Ytppeocfcdeiemaa

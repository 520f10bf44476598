/-
  Arrays copied.
-/
import Derived.Test.YtddeinpnadfgmaaSxAB
namespace Go.Proofs.Ytddeinpnadfgmaa
set_option linter.unusedVariables false
set_option linter.unusedSimpArgs false
open Go.RowKit
set_option maxRecDepth 100000
set_option maxHeartbeats 8000000

theorem symRows_nil {o : Bool} {t : Nat} {sn : Nat → Nat} {sy : Nat → Nat → Int} {po : Nat → Bool} {so : Nat → Option Addr} {sc : Nat → Nat} : symRows o t ⟨0, sn, sy, po⟩ so sc = [] := rfl
theorem cpaI_T (x : AD) (O A H : Option Addr) (C D E : Nat) (so : Nat → Option Addr) (sc : Nat → Nat) : (exFn Try.prog { L := [(3, scpI)] } 400 Try.f53 ([.a (arrS 0 x O A H C D E)]) (arrR 0 x O A H so sc) (fun v ch => ∃ (Oq Aq Hq : Option Addr) (Cq Dq Ee : Nat) (soq : Nat → Option Addr) (scq : Nat → Nat), v.den = arrV x Oq Aq Hq Cq Dq Ee ∧ SelS ch (idsArr v ch) (arrO 0 x Oq Aq Hq Cq Dq Ee soq scq))) = (
  (∀ b0 : Nat,
 (∀ b1 : Nat,
 (b0 = b0 ∧
 (b0 = b0 ∧
 ((∀ b2 : Nat,
 (True ∧
 (((b2 = b2 ∧
 ((A = A ∧
 x.2 = x.2) ∧
 ((∀ i3 : Nat,
 true = true) ∧
 (apC 0 x.2 8)))) ∧
 (∀ ao4 : (Option Addr),
 (∀ cap5 : Nat,
 (True ∧
 ((∀ b6 : Nat,
 (True ∧
 (((b6 = b6 ∧
 ((H = H ∧
 x.4 = x.4) ∧
 ((∀ i7 : Nat,
 true = true) ∧
 (apC 0 x.4 8)))) ∧
 (∀ ao8 : (Option Addr),
 (∀ cap9 : Nat,
 (True ∧
 (∀ b10 : Nat,
 (True ∧
 (b10 = b10 ∧
 (True ∧
 (b0 = b0 ∧
 (∃ x11 : AD, (∃ O12 : (Option Addr), (∃ A13 : (Option Addr), (∃ H14 : (Option Addr), (∃ C15 : Nat, (∃ D16 : Nat, (∃ E17 : Nat, (∃ so18 : (Nat →
 (Option Addr)), (∃ sc19 : (Nat →
 Nat), (∃ bp20 : Nat, (∃ br21 : Nat, (∃ bo22 : Nat, (∃ Aq23 : (Option Addr), (∃ Hq24 : (Option Addr), (∃ Dq25 : Nat, (∃ Ee26 : Nat, (([(Wa [(Ws O x.1.1 C), (Ws A x.2 D), (Ws H x.4 E)]), (Wp b0 0), (Wp b1 0), (Wp b10 0), (Wu []), (Wu []), (Ws (Ad b2 0) 0 0), (Wp b0 1), (Ws A x.2 D), (Ws ao4 x.2 cap5), (Ws (Ad b6 0) 0 0), (Wp b0 2), (Ws H x.4 E), (Ws ao8 x.4 cap9), (Wa [Wn, (Ws ao4 x.2 cap5), (Ws ao8 x.4 cap9)]), (Wp b0 0), (Ws O x.1.1 C), (Wi ((x.1.1 : Nat) : Int)), (Wi 0), (Wu []), (Wu []), (Wu []), (Wu []), (Wu []), (Wu []), (Wu []), (Wu []), (Wu []), (Wu []), (Wu []), (Wu [])] = [(Wa [(Ws O x.1.1 C), (Ws A x.2 D), (Ws H x.4 E)]), (Wp bp20 0), (Wp br21 0), (Wp bo22 0), (Wu []), (Wu []), (Ws (Ad b2 0) 0 0), (Wp b0 1), (Ws A x.2 D), (Ws ao4 x.2 cap5), (Ws (Ad b6 0) 0 0), (Wp b0 2), (Ws H x.4 E), (Ws ao8 x.4 cap9), (Wa [Wn, (Ws ao4 x.2 cap5), (Ws ao8 x.4 cap9)]), (Wp b0 0), (Ws O12 x11.1.1 C15), (Wi ((x11.1.1 : Nat) : Int)), (Wi 0), (Wu []), (Wu []), (Wu []), (Wu []), (Wu []), (Wu []), (Wu []), (Wu []), (Wu []), (Wu []), (Wu []), (Wu [])] ∧
 ((SelS [(Hr false O 0 2 x.1.1 0 [(fun i27 => (Cs 3 (so i27) (x.1.2 i27) (sc i27))), (fun i28 => (Cb (x.1.4 i28)))]), (Hr false A 0 1 x.2 0 [(fun i29 => (Ci (x.3 i29)))]), (Hr false H 0 1 x.4 0 [(fun i30 => (Ci (x.5 i30)))]), (Ho false (symRows false 0 x.1 so (fun x31 => 0))), (Hc b0 33 [(Cs 0 O x.1.1 C), (Cs 1 A x.2 D), (Cs 2 H x.4 E)]), (Hc b1 33 [Cz, Cz, Cz]), Hd, (Hr true ao4 3 1 x.2 cap5 [(fun i32 => (Ci (x.3 i32)))]), Hd, (Hr true ao8 3 1 x.4 cap9 [(fun i33 => (Ci (x.5 i33)))]), (Hc b10 33 [Cz, (Cs 7 ao4 x.2 cap5), (Cs 9 ao8 x.4 cap9)])] [0, 1, 2, 3, 4, 5, 10, 1000000, 7, 9, 1000003] [(Hr false O12 0 2 x11.1.1 0 [(fun i34 => (Cs 3 (so18 i34) (x11.1.2 i34) (sc19 i34))), (fun i35 => (Cb (x11.1.4 i35)))]), (Hr false A13 0 1 x11.2 0 [(fun i36 => (Ci (x11.3 i36)))]), (Hr false H14 0 1 x11.4 0 [(fun i37 => (Ci (x11.5 i37)))]), (Ho false (symRows false 0 x11.1 so18 (fun x38 => 0))), (Hc bp20 33 [(Cs 0 O12 x11.1.1 C15), (Cs 1 A13 x11.2 D16), (Cs 2 H14 x11.4 E17)]), (Hc br21 33 [Cz, Cz, Cz]), (Hc bo22 33 [(Cs 7 (none : Option (Addr)) 0 0), (Cs 8 Aq23 x11.2 Dq25), (Cs 9 Hq24 x11.4 Ee26)]), (Hr true (none : Option (Addr)) 52 2 0 0 [(fun i39 => (Cs 10 (none : Option (Addr)) (x11.1.2 i39) 0)), (fun i40 => (Cb (x11.1.4 i40)))]), (Hr true Aq23 3 1 x11.2 Dq25 [(fun i41 => (Ci (x11.3 i41)))]), (Hr true Hq24 3 1 x11.4 Ee26 [(fun i42 => (Ci (x11.5 i42)))]), (Ho true (symRows true 3 (CD.mk 0 x11.1.2 x11.1.3 x11.1.4) (fun x43 => (none : Option (Addr))) (fun x44 => 0)))]) ∧
 (capA x11))) ∧
 (∀ g45 : (Nat →
 Value),
 (∀ kx46 : Int,
 (∀ Oq47 : (Option Addr),
 (∀ Cq48 : Nat,
 (∀ soq49 : (Nat →
 (Option Addr)),
 (∀ scq50 : (Nat →
 Nat),
 (bo22 = bo22 ∧
 (br21 = br21 ∧
 (br21 = br21 ∧
 (∃ Oq51 : (Option Addr), (∃ Aq52 : (Option Addr), (∃ Hq53 : (Option Addr), (∃ Cq54 : Nat, (∃ Dq55 : Nat, (∃ Ee56 : Nat, (∃ soq57 : (Nat →
 (Option Addr)), (∃ scq58 : (Nat →
 Nat), ((Wa [(Ws Oq47 x11.1.1 Cq48), (Ws Aq23 x11.2 Dq25), (Ws Hq24 x11.4 Ee26)]) = (Wa [(Ws Oq51 x.1.1 Cq54), (Ws Aq52 x.2 Dq55), (Ws Hq53 x.4 Ee56)]) ∧
 (SelS [(Hr false O12 0 2 x11.1.1 0 [(fun i59 => (Cs 3 (so18 i59) (x11.1.2 i59) (sc19 i59))), (fun i60 => (Cb (x11.1.4 i60)))]), (Hr false A13 0 1 x11.2 0 [(fun i61 => (Ci (x11.3 i61)))]), (Hr false H14 0 1 x11.4 0 [(fun i62 => (Ci (x11.5 i62)))]), (Ho false (symRows false 0 x11.1 so18 (fun x63 => 0))), (Hc bp20 33 [(Cs 0 O12 x11.1.1 C15), (Cs 1 A13 x11.2 D16), (Cs 2 H14 x11.4 E17)]), (Hc br21 33 [(Cs 7 Oq47 x11.1.1 Cq48), (Cs 8 Aq23 x11.2 Dq25), (Cs 9 Hq24 x11.4 Ee26)]), (Hc bo22 33 [(Cs 7 Oq47 x11.1.1 Cq48), (Cs 8 Aq23 x11.2 Dq25), (Cs 9 Hq24 x11.4 Ee26)]), (Hr true Oq47 52 2 x11.1.1 Cq48 [(fun i64 => (Cs 10 (soq49 i64) (x11.1.2 i64) (scq50 i64))), (fun i65 => (Cb (x11.1.4 i65)))]), (Hr true Aq23 3 1 x11.2 Dq25 [(fun i66 => (Ci (x11.3 i66)))]), (Hr true Hq24 3 1 x11.4 Ee26 [(fun i67 => (Ci (x11.5 i67)))]), (Ho true (symRows true 3 (CD.mk x11.1.1 x11.1.2 x11.1.3 x11.1.4) soq49 scq50))] [7, 8, 9, 10] [(Hr true Oq51 52 2 x.1.1 Cq54 [(fun i68 => (Cs 3 (soq57 i68) (x.1.2 i68) (scq58 i68))), (fun i69 => (Cb (x.1.4 i69)))]), (Hr true Aq52 3 1 x.2 Dq55 [(fun i70 => (Ci (x.3 i70)))]), (Hr true Hq53 3 1 x.4 Ee56 [(fun i71 => (Ci (x.5 i71)))]), (Ho true (symRows true 3 x.1 soq57 scq58))]))))))))))))))))))))))))))))))))))))))))))))) ∧
 (∀ b72 : Nat,
 (True ∧
 ((b6 = b6 ∧
 ((H = H ∧
 x.4 = x.4) ∧
 ((∀ i73 : Nat,
 true = true) ∧
 (apC 0 x.4 8)))) ∧
 (∀ ao74 : (Option Addr),
 (∀ cap75 : Nat,
 (True ∧
 (b72 = b72 ∧
 (True ∧
 (b0 = b0 ∧
 (∃ x76 : AD, (∃ O77 : (Option Addr), (∃ A78 : (Option Addr), (∃ H79 : (Option Addr), (∃ C80 : Nat, (∃ D81 : Nat, (∃ E82 : Nat, (∃ so83 : (Nat →
 (Option Addr)), (∃ sc84 : (Nat →
 Nat), (∃ bp85 : Nat, (∃ br86 : Nat, (∃ bo87 : Nat, (∃ Aq88 : (Option Addr), (∃ Hq89 : (Option Addr), (∃ Dq90 : Nat, (∃ Ee91 : Nat, (([(Wa [(Ws O x.1.1 C), (Ws A x.2 D), (Ws H x.4 E)]), (Wp b0 0), (Wp b1 0), (Wp b72 0), (Wu []), (Wu []), (Ws (Ad b2 0) 0 0), (Wp b0 1), (Ws A x.2 D), (Ws ao4 x.2 cap5), (Ws (Ad b6 0) 0 0), (Wp b0 2), (Ws H x.4 E), (Ws ao74 x.4 cap75), (Wa [Wn, (Ws ao4 x.2 cap5), (Ws ao74 x.4 cap75)]), (Wp b0 0), (Ws O x.1.1 C), (Wi ((x.1.1 : Nat) : Int)), (Wi 0), (Wu []), (Wu []), (Wu []), (Wu []), (Wu []), (Wu []), (Wu []), (Wu []), (Wu []), (Wu []), (Wu []), (Wu [])] = [(Wa [(Ws O x.1.1 C), (Ws A x.2 D), (Ws H x.4 E)]), (Wp bp85 0), (Wp br86 0), (Wp bo87 0), (Wu []), (Wu []), (Ws (Ad b2 0) 0 0), (Wp b0 1), (Ws A x.2 D), (Ws ao4 x.2 cap5), (Ws (Ad b6 0) 0 0), (Wp b0 2), (Ws H x.4 E), (Ws ao74 x.4 cap75), (Wa [Wn, (Ws ao4 x.2 cap5), (Ws ao74 x.4 cap75)]), (Wp b0 0), (Ws O77 x76.1.1 C80), (Wi ((x76.1.1 : Nat) : Int)), (Wi 0), (Wu []), (Wu []), (Wu []), (Wu []), (Wu []), (Wu []), (Wu []), (Wu []), (Wu []), (Wu []), (Wu []), (Wu [])] ∧
 ((SelS [(Hr false O 0 2 x.1.1 0 [(fun i92 => (Cs 3 (so i92) (x.1.2 i92) (sc i92))), (fun i93 => (Cb (x.1.4 i93)))]), (Hr false A 0 1 x.2 0 [(fun i94 => (Ci (x.3 i94)))]), (Hr false H 0 1 x.4 0 [(fun i95 => (Ci (x.5 i95)))]), (Ho false (symRows false 0 x.1 so (fun x96 => 0))), (Hc b0 33 [(Cs 0 O x.1.1 C), (Cs 1 A x.2 D), (Cs 2 H x.4 E)]), (Hc b1 33 [Cz, Cz, Cz]), Hd, (Hr true ao4 3 1 x.2 cap5 [(fun i97 => (Ci (x.3 i97)))]), Hd, (Hc b72 33 [Cz, (Cs 7 ao4 x.2 cap5), (Cs 10 ao74 x.4 cap75)]), (Hr true ao74 3 1 x.4 cap75 [(fun i98 => (Ci (x.5 i98)))])] [0, 1, 2, 3, 4, 5, 9, 1000000, 7, 10, 1000003] [(Hr false O77 0 2 x76.1.1 0 [(fun i99 => (Cs 3 (so83 i99) (x76.1.2 i99) (sc84 i99))), (fun i100 => (Cb (x76.1.4 i100)))]), (Hr false A78 0 1 x76.2 0 [(fun i101 => (Ci (x76.3 i101)))]), (Hr false H79 0 1 x76.4 0 [(fun i102 => (Ci (x76.5 i102)))]), (Ho false (symRows false 0 x76.1 so83 (fun x103 => 0))), (Hc bp85 33 [(Cs 0 O77 x76.1.1 C80), (Cs 1 A78 x76.2 D81), (Cs 2 H79 x76.4 E82)]), (Hc br86 33 [Cz, Cz, Cz]), (Hc bo87 33 [(Cs 7 (none : Option (Addr)) 0 0), (Cs 8 Aq88 x76.2 Dq90), (Cs 9 Hq89 x76.4 Ee91)]), (Hr true (none : Option (Addr)) 52 2 0 0 [(fun i104 => (Cs 10 (none : Option (Addr)) (x76.1.2 i104) 0)), (fun i105 => (Cb (x76.1.4 i105)))]), (Hr true Aq88 3 1 x76.2 Dq90 [(fun i106 => (Ci (x76.3 i106)))]), (Hr true Hq89 3 1 x76.4 Ee91 [(fun i107 => (Ci (x76.5 i107)))]), (Ho true (symRows true 3 (CD.mk 0 x76.1.2 x76.1.3 x76.1.4) (fun x108 => (none : Option (Addr))) (fun x109 => 0)))]) ∧
 (capA x76))) ∧
 (∀ g110 : (Nat →
 Value),
 (∀ kx111 : Int,
 (∀ Oq112 : (Option Addr),
 (∀ Cq113 : Nat,
 (∀ soq114 : (Nat →
 (Option Addr)),
 (∀ scq115 : (Nat →
 Nat),
 (bo87 = bo87 ∧
 (br86 = br86 ∧
 (br86 = br86 ∧
 (∃ Oq116 : (Option Addr), (∃ Aq117 : (Option Addr), (∃ Hq118 : (Option Addr), (∃ Cq119 : Nat, (∃ Dq120 : Nat, (∃ Ee121 : Nat, (∃ soq122 : (Nat →
 (Option Addr)), (∃ scq123 : (Nat →
 Nat), ((Wa [(Ws Oq112 x76.1.1 Cq113), (Ws Aq88 x76.2 Dq90), (Ws Hq89 x76.4 Ee91)]) = (Wa [(Ws Oq116 x.1.1 Cq119), (Ws Aq117 x.2 Dq120), (Ws Hq118 x.4 Ee121)]) ∧
 (SelS [(Hr false O77 0 2 x76.1.1 0 [(fun i124 => (Cs 3 (so83 i124) (x76.1.2 i124) (sc84 i124))), (fun i125 => (Cb (x76.1.4 i125)))]), (Hr false A78 0 1 x76.2 0 [(fun i126 => (Ci (x76.3 i126)))]), (Hr false H79 0 1 x76.4 0 [(fun i127 => (Ci (x76.5 i127)))]), (Ho false (symRows false 0 x76.1 so83 (fun x128 => 0))), (Hc bp85 33 [(Cs 0 O77 x76.1.1 C80), (Cs 1 A78 x76.2 D81), (Cs 2 H79 x76.4 E82)]), (Hc br86 33 [(Cs 7 Oq112 x76.1.1 Cq113), (Cs 8 Aq88 x76.2 Dq90), (Cs 9 Hq89 x76.4 Ee91)]), (Hc bo87 33 [(Cs 7 Oq112 x76.1.1 Cq113), (Cs 8 Aq88 x76.2 Dq90), (Cs 9 Hq89 x76.4 Ee91)]), (Hr true Oq112 52 2 x76.1.1 Cq113 [(fun i129 => (Cs 10 (soq114 i129) (x76.1.2 i129) (scq115 i129))), (fun i130 => (Cb (x76.1.4 i130)))]), (Hr true Aq88 3 1 x76.2 Dq90 [(fun i131 => (Ci (x76.3 i131)))]), (Hr true Hq89 3 1 x76.4 Ee91 [(fun i132 => (Ci (x76.5 i132)))]), (Ho true (symRows true 3 (CD.mk x76.1.1 x76.1.2 x76.1.3 x76.1.4) soq114 scq115))] [7, 8, 9, 10] [(Hr true Oq116 52 2 x.1.1 Cq119 [(fun i133 => (Cs 3 (soq122 i133) (x.1.2 i133) (scq123 i133))), (fun i134 => (Cb (x.1.4 i134)))]), (Hr true Aq117 3 1 x.2 Dq120 [(fun i135 => (Ci (x.3 i135)))]), (Hr true Hq118 3 1 x.4 Ee121 [(fun i136 => (Ci (x.5 i136)))]), (Ho true (symRows true 3 x.1 soq122 scq123))])))))))))))))))))))))))))))))))))))))))))))))))) ∧
 (∀ b137 : Nat,
 (True ∧
 (∀ b138 : Nat,
 (True ∧
 ((b138 = b138 ∧
 ((H = H ∧
 x.4 = x.4) ∧
 ((∀ i139 : Nat,
 true = true) ∧
 (apC 0 x.4 8)))) ∧
 (∀ ao140 : (Option Addr),
 (∀ cap141 : Nat,
 (True ∧
 (b137 = b137 ∧
 (True ∧
 (b0 = b0 ∧
 (∃ x142 : AD, (∃ O143 : (Option Addr), (∃ A144 : (Option Addr), (∃ H145 : (Option Addr), (∃ C146 : Nat, (∃ D147 : Nat, (∃ E148 : Nat, (∃ so149 : (Nat →
 (Option Addr)), (∃ sc150 : (Nat →
 Nat), (∃ bp151 : Nat, (∃ br152 : Nat, (∃ bo153 : Nat, (∃ Aq154 : (Option Addr), (∃ Hq155 : (Option Addr), (∃ Dq156 : Nat, (∃ Ee157 : Nat, (([(Wa [(Ws O x.1.1 C), (Ws A x.2 D), (Ws H x.4 E)]), (Wp b0 0), (Wp b1 0), (Wp b137 0), (Wu []), (Wu []), (Ws (Ad b2 0) 0 0), (Wp b0 1), (Ws A x.2 D), (Ws ao4 x.2 cap5), (Ws (Ad b138 0) 0 0), (Wp b0 2), (Ws H x.4 E), (Ws ao140 x.4 cap141), (Wa [Wn, (Ws ao4 x.2 cap5), (Ws ao140 x.4 cap141)]), (Wp b0 0), (Ws O x.1.1 C), (Wi ((x.1.1 : Nat) : Int)), (Wi 0), (Wu []), (Wu []), (Wu []), (Wu []), (Wu []), (Wu []), (Wu []), (Wu []), (Wu []), (Wu []), (Wu []), (Wu [])] = [(Wa [(Ws O x.1.1 C), (Ws A x.2 D), (Ws H x.4 E)]), (Wp bp151 0), (Wp br152 0), (Wp bo153 0), (Wu []), (Wu []), (Ws (Ad b2 0) 0 0), (Wp b0 1), (Ws A x.2 D), (Ws ao4 x.2 cap5), (Ws (Ad b138 0) 0 0), (Wp b0 2), (Ws H x.4 E), (Ws ao140 x.4 cap141), (Wa [Wn, (Ws ao4 x.2 cap5), (Ws ao140 x.4 cap141)]), (Wp b0 0), (Ws O143 x142.1.1 C146), (Wi ((x142.1.1 : Nat) : Int)), (Wi 0), (Wu []), (Wu []), (Wu []), (Wu []), (Wu []), (Wu []), (Wu []), (Wu []), (Wu []), (Wu []), (Wu []), (Wu [])] ∧
 ((SelS [(Hr false O 0 2 x.1.1 0 [(fun i158 => (Cs 3 (so i158) (x.1.2 i158) (sc i158))), (fun i159 => (Cb (x.1.4 i159)))]), (Hr false A 0 1 x.2 0 [(fun i160 => (Ci (x.3 i160)))]), (Hr false H 0 1 x.4 0 [(fun i161 => (Ci (x.5 i161)))]), (Ho false (symRows false 0 x.1 so (fun x162 => 0))), (Hc b0 33 [(Cs 0 O x.1.1 C), (Cs 1 A x.2 D), (Cs 2 H x.4 E)]), (Hc b1 33 [Cz, Cz, Cz]), Hd, (Hr true ao4 3 1 x.2 cap5 [(fun i163 => (Ci (x.3 i163)))]), (Hc b137 33 [Cz, (Cs 7 ao4 x.2 cap5), (Cs 10 ao140 x.4 cap141)]), Hd, (Hr true ao140 3 1 x.4 cap141 [(fun i164 => (Ci (x.5 i164)))])] [0, 1, 2, 3, 4, 5, 8, 1000000, 7, 10, 1000003] [(Hr false O143 0 2 x142.1.1 0 [(fun i165 => (Cs 3 (so149 i165) (x142.1.2 i165) (sc150 i165))), (fun i166 => (Cb (x142.1.4 i166)))]), (Hr false A144 0 1 x142.2 0 [(fun i167 => (Ci (x142.3 i167)))]), (Hr false H145 0 1 x142.4 0 [(fun i168 => (Ci (x142.5 i168)))]), (Ho false (symRows false 0 x142.1 so149 (fun x169 => 0))), (Hc bp151 33 [(Cs 0 O143 x142.1.1 C146), (Cs 1 A144 x142.2 D147), (Cs 2 H145 x142.4 E148)]), (Hc br152 33 [Cz, Cz, Cz]), (Hc bo153 33 [(Cs 7 (none : Option (Addr)) 0 0), (Cs 8 Aq154 x142.2 Dq156), (Cs 9 Hq155 x142.4 Ee157)]), (Hr true (none : Option (Addr)) 52 2 0 0 [(fun i170 => (Cs 10 (none : Option (Addr)) (x142.1.2 i170) 0)), (fun i171 => (Cb (x142.1.4 i171)))]), (Hr true Aq154 3 1 x142.2 Dq156 [(fun i172 => (Ci (x142.3 i172)))]), (Hr true Hq155 3 1 x142.4 Ee157 [(fun i173 => (Ci (x142.5 i173)))]), (Ho true (symRows true 3 (CD.mk 0 x142.1.2 x142.1.3 x142.1.4) (fun x174 => (none : Option (Addr))) (fun x175 => 0)))]) ∧
 (capA x142))) ∧
 (∀ g176 : (Nat →
 Value),
 (∀ kx177 : Int,
 (∀ Oq178 : (Option Addr),
 (∀ Cq179 : Nat,
 (∀ soq180 : (Nat →
 (Option Addr)),
 (∀ scq181 : (Nat →
 Nat),
 (bo153 = bo153 ∧
 (br152 = br152 ∧
 (br152 = br152 ∧
 (∃ Oq182 : (Option Addr), (∃ Aq183 : (Option Addr), (∃ Hq184 : (Option Addr), (∃ Cq185 : Nat, (∃ Dq186 : Nat, (∃ Ee187 : Nat, (∃ soq188 : (Nat →
 (Option Addr)), (∃ scq189 : (Nat →
 Nat), ((Wa [(Ws Oq178 x142.1.1 Cq179), (Ws Aq154 x142.2 Dq156), (Ws Hq155 x142.4 Ee157)]) = (Wa [(Ws Oq182 x.1.1 Cq185), (Ws Aq183 x.2 Dq186), (Ws Hq184 x.4 Ee187)]) ∧
 (SelS [(Hr false O143 0 2 x142.1.1 0 [(fun i190 => (Cs 3 (so149 i190) (x142.1.2 i190) (sc150 i190))), (fun i191 => (Cb (x142.1.4 i191)))]), (Hr false A144 0 1 x142.2 0 [(fun i192 => (Ci (x142.3 i192)))]), (Hr false H145 0 1 x142.4 0 [(fun i193 => (Ci (x142.5 i193)))]), (Ho false (symRows false 0 x142.1 so149 (fun x194 => 0))), (Hc bp151 33 [(Cs 0 O143 x142.1.1 C146), (Cs 1 A144 x142.2 D147), (Cs 2 H145 x142.4 E148)]), (Hc br152 33 [(Cs 7 Oq178 x142.1.1 Cq179), (Cs 8 Aq154 x142.2 Dq156), (Cs 9 Hq155 x142.4 Ee157)]), (Hc bo153 33 [(Cs 7 Oq178 x142.1.1 Cq179), (Cs 8 Aq154 x142.2 Dq156), (Cs 9 Hq155 x142.4 Ee157)]), (Hr true Oq178 52 2 x142.1.1 Cq179 [(fun i195 => (Cs 10 (soq180 i195) (x142.1.2 i195) (scq181 i195))), (fun i196 => (Cb (x142.1.4 i196)))]), (Hr true Aq154 3 1 x142.2 Dq156 [(fun i197 => (Ci (x142.3 i197)))]), (Hr true Hq155 3 1 x142.4 Ee157 [(fun i198 => (Ci (x142.5 i198)))]), (Ho true (symRows true 3 (CD.mk x142.1.1 x142.1.2 x142.1.3 x142.1.4) soq180 scq181))] [7, 8, 9, 10] [(Hr true Oq182 52 2 x.1.1 Cq185 [(fun i199 => (Cs 3 (soq188 i199) (x.1.2 i199) (scq189 i199))), (fun i200 => (Cb (x.1.4 i200)))]), (Hr true Aq183 3 1 x.2 Dq186 [(fun i201 => (Ci (x.3 i201)))]), (Hr true Hq184 3 1 x.4 Ee187 [(fun i202 => (Ci (x.5 i202)))]), (Ho true (symRows true 3 x.1 soq188 scq189))])))))))))))))))))))))))))))))))))))))))))))))))))))) ∧
 ((∀ b203 : Nat,
 (True ∧
 (((b2 = b2 ∧
 ((A = A ∧
 x.2 = x.2) ∧
 ((∀ i204 : Nat,
 true = true) ∧
 (apC 0 x.2 8)))) ∧
 (∀ ao205 : (Option Addr),
 (∀ cap206 : Nat,
 (True ∧
 (((b203 = b203 ∧
 ((H = H ∧
 x.4 = x.4) ∧
 ((∀ i207 : Nat,
 true = true) ∧
 (apC 0 x.4 8)))) ∧
 (∀ ao208 : (Option Addr),
 (∀ cap209 : Nat,
 (True ∧
 (∀ b210 : Nat,
 (True ∧
 (b210 = b210 ∧
 (True ∧
 (b0 = b0 ∧
 (∃ x211 : AD, (∃ O212 : (Option Addr), (∃ A213 : (Option Addr), (∃ H214 : (Option Addr), (∃ C215 : Nat, (∃ D216 : Nat, (∃ E217 : Nat, (∃ so218 : (Nat →
 (Option Addr)), (∃ sc219 : (Nat →
 Nat), (∃ bp220 : Nat, (∃ br221 : Nat, (∃ bo222 : Nat, (∃ Aq223 : (Option Addr), (∃ Hq224 : (Option Addr), (∃ Dq225 : Nat, (∃ Ee226 : Nat, (([(Wa [(Ws O x.1.1 C), (Ws A x.2 D), (Ws H x.4 E)]), (Wp b0 0), (Wp b1 0), (Wp b210 0), (Wu []), (Wu []), (Ws (Ad b2 0) 0 0), (Wp b0 1), (Ws A x.2 D), (Ws ao205 x.2 cap206), (Ws (Ad b203 0) 0 0), (Wp b0 2), (Ws H x.4 E), (Ws ao208 x.4 cap209), (Wa [Wn, (Ws ao205 x.2 cap206), (Ws ao208 x.4 cap209)]), (Wp b0 0), (Ws O x.1.1 C), (Wi ((x.1.1 : Nat) : Int)), (Wi 0), (Wu []), (Wu []), (Wu []), (Wu []), (Wu []), (Wu []), (Wu []), (Wu []), (Wu []), (Wu []), (Wu []), (Wu [])] = [(Wa [(Ws O x.1.1 C), (Ws A x.2 D), (Ws H x.4 E)]), (Wp bp220 0), (Wp br221 0), (Wp bo222 0), (Wu []), (Wu []), (Ws (Ad b2 0) 0 0), (Wp b0 1), (Ws A x.2 D), (Ws ao205 x.2 cap206), (Ws (Ad b203 0) 0 0), (Wp b0 2), (Ws H x.4 E), (Ws ao208 x.4 cap209), (Wa [Wn, (Ws ao205 x.2 cap206), (Ws ao208 x.4 cap209)]), (Wp b0 0), (Ws O212 x211.1.1 C215), (Wi ((x211.1.1 : Nat) : Int)), (Wi 0), (Wu []), (Wu []), (Wu []), (Wu []), (Wu []), (Wu []), (Wu []), (Wu []), (Wu []), (Wu []), (Wu []), (Wu [])] ∧
 ((SelS [(Hr false O 0 2 x.1.1 0 [(fun i227 => (Cs 3 (so i227) (x.1.2 i227) (sc i227))), (fun i228 => (Cb (x.1.4 i228)))]), (Hr false A 0 1 x.2 0 [(fun i229 => (Ci (x.3 i229)))]), (Hr false H 0 1 x.4 0 [(fun i230 => (Ci (x.5 i230)))]), (Ho false (symRows false 0 x.1 so (fun x231 => 0))), (Hc b0 33 [(Cs 0 O x.1.1 C), (Cs 1 A x.2 D), (Cs 2 H x.4 E)]), (Hc b1 33 [Cz, Cz, Cz]), Hd, Hd, (Hr true ao205 3 1 x.2 cap206 [(fun i232 => (Ci (x.3 i232)))]), (Hr true ao208 3 1 x.4 cap209 [(fun i233 => (Ci (x.5 i233)))]), (Hc b210 33 [Cz, (Cs 8 ao205 x.2 cap206), (Cs 9 ao208 x.4 cap209)])] [0, 1, 2, 3, 4, 5, 10, 1000000, 8, 9, 1000003] [(Hr false O212 0 2 x211.1.1 0 [(fun i234 => (Cs 3 (so218 i234) (x211.1.2 i234) (sc219 i234))), (fun i235 => (Cb (x211.1.4 i235)))]), (Hr false A213 0 1 x211.2 0 [(fun i236 => (Ci (x211.3 i236)))]), (Hr false H214 0 1 x211.4 0 [(fun i237 => (Ci (x211.5 i237)))]), (Ho false (symRows false 0 x211.1 so218 (fun x238 => 0))), (Hc bp220 33 [(Cs 0 O212 x211.1.1 C215), (Cs 1 A213 x211.2 D216), (Cs 2 H214 x211.4 E217)]), (Hc br221 33 [Cz, Cz, Cz]), (Hc bo222 33 [(Cs 7 (none : Option (Addr)) 0 0), (Cs 8 Aq223 x211.2 Dq225), (Cs 9 Hq224 x211.4 Ee226)]), (Hr true (none : Option (Addr)) 52 2 0 0 [(fun i239 => (Cs 10 (none : Option (Addr)) (x211.1.2 i239) 0)), (fun i240 => (Cb (x211.1.4 i240)))]), (Hr true Aq223 3 1 x211.2 Dq225 [(fun i241 => (Ci (x211.3 i241)))]), (Hr true Hq224 3 1 x211.4 Ee226 [(fun i242 => (Ci (x211.5 i242)))]), (Ho true (symRows true 3 (CD.mk 0 x211.1.2 x211.1.3 x211.1.4) (fun x243 => (none : Option (Addr))) (fun x244 => 0)))]) ∧
 (capA x211))) ∧
 (∀ g245 : (Nat →
 Value),
 (∀ kx246 : Int,
 (∀ Oq247 : (Option Addr),
 (∀ Cq248 : Nat,
 (∀ soq249 : (Nat →
 (Option Addr)),
 (∀ scq250 : (Nat →
 Nat),
 (bo222 = bo222 ∧
 (br221 = br221 ∧
 (br221 = br221 ∧
 (∃ Oq251 : (Option Addr), (∃ Aq252 : (Option Addr), (∃ Hq253 : (Option Addr), (∃ Cq254 : Nat, (∃ Dq255 : Nat, (∃ Ee256 : Nat, (∃ soq257 : (Nat →
 (Option Addr)), (∃ scq258 : (Nat →
 Nat), ((Wa [(Ws Oq247 x211.1.1 Cq248), (Ws Aq223 x211.2 Dq225), (Ws Hq224 x211.4 Ee226)]) = (Wa [(Ws Oq251 x.1.1 Cq254), (Ws Aq252 x.2 Dq255), (Ws Hq253 x.4 Ee256)]) ∧
 (SelS [(Hr false O212 0 2 x211.1.1 0 [(fun i259 => (Cs 3 (so218 i259) (x211.1.2 i259) (sc219 i259))), (fun i260 => (Cb (x211.1.4 i260)))]), (Hr false A213 0 1 x211.2 0 [(fun i261 => (Ci (x211.3 i261)))]), (Hr false H214 0 1 x211.4 0 [(fun i262 => (Ci (x211.5 i262)))]), (Ho false (symRows false 0 x211.1 so218 (fun x263 => 0))), (Hc bp220 33 [(Cs 0 O212 x211.1.1 C215), (Cs 1 A213 x211.2 D216), (Cs 2 H214 x211.4 E217)]), (Hc br221 33 [(Cs 7 Oq247 x211.1.1 Cq248), (Cs 8 Aq223 x211.2 Dq225), (Cs 9 Hq224 x211.4 Ee226)]), (Hc bo222 33 [(Cs 7 Oq247 x211.1.1 Cq248), (Cs 8 Aq223 x211.2 Dq225), (Cs 9 Hq224 x211.4 Ee226)]), (Hr true Oq247 52 2 x211.1.1 Cq248 [(fun i264 => (Cs 10 (soq249 i264) (x211.1.2 i264) (scq250 i264))), (fun i265 => (Cb (x211.1.4 i265)))]), (Hr true Aq223 3 1 x211.2 Dq225 [(fun i266 => (Ci (x211.3 i266)))]), (Hr true Hq224 3 1 x211.4 Ee226 [(fun i267 => (Ci (x211.5 i267)))]), (Ho true (symRows true 3 (CD.mk x211.1.1 x211.1.2 x211.1.3 x211.1.4) soq249 scq250))] [7, 8, 9, 10] [(Hr true Oq251 52 2 x.1.1 Cq254 [(fun i268 => (Cs 3 (soq257 i268) (x.1.2 i268) (scq258 i268))), (fun i269 => (Cb (x.1.4 i269)))]), (Hr true Aq252 3 1 x.2 Dq255 [(fun i270 => (Ci (x.3 i270)))]), (Hr true Hq253 3 1 x.4 Ee256 [(fun i271 => (Ci (x.5 i271)))]), (Ho true (symRows true 3 x.1 soq257 scq258))]))))))))))))))))))))))))))))))))))))))))))))) ∧
 (∀ b272 : Nat,
 (True ∧
 ((b203 = b203 ∧
 ((H = H ∧
 x.4 = x.4) ∧
 ((∀ i273 : Nat,
 true = true) ∧
 (apC 0 x.4 8)))) ∧
 (∀ ao274 : (Option Addr),
 (∀ cap275 : Nat,
 (True ∧
 (b272 = b272 ∧
 (True ∧
 (b0 = b0 ∧
 (∃ x276 : AD, (∃ O277 : (Option Addr), (∃ A278 : (Option Addr), (∃ H279 : (Option Addr), (∃ C280 : Nat, (∃ D281 : Nat, (∃ E282 : Nat, (∃ so283 : (Nat →
 (Option Addr)), (∃ sc284 : (Nat →
 Nat), (∃ bp285 : Nat, (∃ br286 : Nat, (∃ bo287 : Nat, (∃ Aq288 : (Option Addr), (∃ Hq289 : (Option Addr), (∃ Dq290 : Nat, (∃ Ee291 : Nat, (([(Wa [(Ws O x.1.1 C), (Ws A x.2 D), (Ws H x.4 E)]), (Wp b0 0), (Wp b1 0), (Wp b272 0), (Wu []), (Wu []), (Ws (Ad b2 0) 0 0), (Wp b0 1), (Ws A x.2 D), (Ws ao205 x.2 cap206), (Ws (Ad b203 0) 0 0), (Wp b0 2), (Ws H x.4 E), (Ws ao274 x.4 cap275), (Wa [Wn, (Ws ao205 x.2 cap206), (Ws ao274 x.4 cap275)]), (Wp b0 0), (Ws O x.1.1 C), (Wi ((x.1.1 : Nat) : Int)), (Wi 0), (Wu []), (Wu []), (Wu []), (Wu []), (Wu []), (Wu []), (Wu []), (Wu []), (Wu []), (Wu []), (Wu []), (Wu [])] = [(Wa [(Ws O x.1.1 C), (Ws A x.2 D), (Ws H x.4 E)]), (Wp bp285 0), (Wp br286 0), (Wp bo287 0), (Wu []), (Wu []), (Ws (Ad b2 0) 0 0), (Wp b0 1), (Ws A x.2 D), (Ws ao205 x.2 cap206), (Ws (Ad b203 0) 0 0), (Wp b0 2), (Ws H x.4 E), (Ws ao274 x.4 cap275), (Wa [Wn, (Ws ao205 x.2 cap206), (Ws ao274 x.4 cap275)]), (Wp b0 0), (Ws O277 x276.1.1 C280), (Wi ((x276.1.1 : Nat) : Int)), (Wi 0), (Wu []), (Wu []), (Wu []), (Wu []), (Wu []), (Wu []), (Wu []), (Wu []), (Wu []), (Wu []), (Wu []), (Wu [])] ∧
 ((SelS [(Hr false O 0 2 x.1.1 0 [(fun i292 => (Cs 3 (so i292) (x.1.2 i292) (sc i292))), (fun i293 => (Cb (x.1.4 i293)))]), (Hr false A 0 1 x.2 0 [(fun i294 => (Ci (x.3 i294)))]), (Hr false H 0 1 x.4 0 [(fun i295 => (Ci (x.5 i295)))]), (Ho false (symRows false 0 x.1 so (fun x296 => 0))), (Hc b0 33 [(Cs 0 O x.1.1 C), (Cs 1 A x.2 D), (Cs 2 H x.4 E)]), (Hc b1 33 [Cz, Cz, Cz]), Hd, Hd, (Hr true ao205 3 1 x.2 cap206 [(fun i297 => (Ci (x.3 i297)))]), (Hc b272 33 [Cz, (Cs 8 ao205 x.2 cap206), (Cs 10 ao274 x.4 cap275)]), (Hr true ao274 3 1 x.4 cap275 [(fun i298 => (Ci (x.5 i298)))])] [0, 1, 2, 3, 4, 5, 9, 1000000, 8, 10, 1000003] [(Hr false O277 0 2 x276.1.1 0 [(fun i299 => (Cs 3 (so283 i299) (x276.1.2 i299) (sc284 i299))), (fun i300 => (Cb (x276.1.4 i300)))]), (Hr false A278 0 1 x276.2 0 [(fun i301 => (Ci (x276.3 i301)))]), (Hr false H279 0 1 x276.4 0 [(fun i302 => (Ci (x276.5 i302)))]), (Ho false (symRows false 0 x276.1 so283 (fun x303 => 0))), (Hc bp285 33 [(Cs 0 O277 x276.1.1 C280), (Cs 1 A278 x276.2 D281), (Cs 2 H279 x276.4 E282)]), (Hc br286 33 [Cz, Cz, Cz]), (Hc bo287 33 [(Cs 7 (none : Option (Addr)) 0 0), (Cs 8 Aq288 x276.2 Dq290), (Cs 9 Hq289 x276.4 Ee291)]), (Hr true (none : Option (Addr)) 52 2 0 0 [(fun i304 => (Cs 10 (none : Option (Addr)) (x276.1.2 i304) 0)), (fun i305 => (Cb (x276.1.4 i305)))]), (Hr true Aq288 3 1 x276.2 Dq290 [(fun i306 => (Ci (x276.3 i306)))]), (Hr true Hq289 3 1 x276.4 Ee291 [(fun i307 => (Ci (x276.5 i307)))]), (Ho true (symRows true 3 (CD.mk 0 x276.1.2 x276.1.3 x276.1.4) (fun x308 => (none : Option (Addr))) (fun x309 => 0)))]) ∧
 (capA x276))) ∧
 (∀ g310 : (Nat →
 Value),
 (∀ kx311 : Int,
 (∀ Oq312 : (Option Addr),
 (∀ Cq313 : Nat,
 (∀ soq314 : (Nat →
 (Option Addr)),
 (∀ scq315 : (Nat →
 Nat),
 (bo287 = bo287 ∧
 (br286 = br286 ∧
 (br286 = br286 ∧
 (∃ Oq316 : (Option Addr), (∃ Aq317 : (Option Addr), (∃ Hq318 : (Option Addr), (∃ Cq319 : Nat, (∃ Dq320 : Nat, (∃ Ee321 : Nat, (∃ soq322 : (Nat →
 (Option Addr)), (∃ scq323 : (Nat →
 Nat), ((Wa [(Ws Oq312 x276.1.1 Cq313), (Ws Aq288 x276.2 Dq290), (Ws Hq289 x276.4 Ee291)]) = (Wa [(Ws Oq316 x.1.1 Cq319), (Ws Aq317 x.2 Dq320), (Ws Hq318 x.4 Ee321)]) ∧
 (SelS [(Hr false O277 0 2 x276.1.1 0 [(fun i324 => (Cs 3 (so283 i324) (x276.1.2 i324) (sc284 i324))), (fun i325 => (Cb (x276.1.4 i325)))]), (Hr false A278 0 1 x276.2 0 [(fun i326 => (Ci (x276.3 i326)))]), (Hr false H279 0 1 x276.4 0 [(fun i327 => (Ci (x276.5 i327)))]), (Ho false (symRows false 0 x276.1 so283 (fun x328 => 0))), (Hc bp285 33 [(Cs 0 O277 x276.1.1 C280), (Cs 1 A278 x276.2 D281), (Cs 2 H279 x276.4 E282)]), (Hc br286 33 [(Cs 7 Oq312 x276.1.1 Cq313), (Cs 8 Aq288 x276.2 Dq290), (Cs 9 Hq289 x276.4 Ee291)]), (Hc bo287 33 [(Cs 7 Oq312 x276.1.1 Cq313), (Cs 8 Aq288 x276.2 Dq290), (Cs 9 Hq289 x276.4 Ee291)]), (Hr true Oq312 52 2 x276.1.1 Cq313 [(fun i329 => (Cs 10 (soq314 i329) (x276.1.2 i329) (scq315 i329))), (fun i330 => (Cb (x276.1.4 i330)))]), (Hr true Aq288 3 1 x276.2 Dq290 [(fun i331 => (Ci (x276.3 i331)))]), (Hr true Hq289 3 1 x276.4 Ee291 [(fun i332 => (Ci (x276.5 i332)))]), (Ho true (symRows true 3 (CD.mk x276.1.1 x276.1.2 x276.1.3 x276.1.4) soq314 scq315))] [7, 8, 9, 10] [(Hr true Oq316 52 2 x.1.1 Cq319 [(fun i333 => (Cs 3 (soq322 i333) (x.1.2 i333) (scq323 i333))), (fun i334 => (Cb (x.1.4 i334)))]), (Hr true Aq317 3 1 x.2 Dq320 [(fun i335 => (Ci (x.3 i335)))]), (Hr true Hq318 3 1 x.4 Ee321 [(fun i336 => (Ci (x.5 i336)))]), (Ho true (symRows true 3 x.1 soq322 scq323))])))))))))))))))))))))))))))))))))))))))))))))))))) ∧
 (∀ b337 : Nat,
 (True ∧
 ((b2 = b2 ∧
 ((A = A ∧
 x.2 = x.2) ∧
 ((∀ i338 : Nat,
 true = true) ∧
 (apC 0 x.2 8)))) ∧
 (∀ ao339 : (Option Addr),
 (∀ cap340 : Nat,
 (True ∧
 ((b203 = b203 ∧
 ((H = H ∧
 x.4 = x.4) ∧
 ((∀ i341 : Nat,
 true = true) ∧
 (apC 0 x.4 8)))) ∧
 (∀ ao342 : (Option Addr),
 (∀ cap343 : Nat,
 (True ∧
 (b337 = b337 ∧
 (True ∧
 (b0 = b0 ∧
 (∃ x344 : AD, (∃ O345 : (Option Addr), (∃ A346 : (Option Addr), (∃ H347 : (Option Addr), (∃ C348 : Nat, (∃ D349 : Nat, (∃ E350 : Nat, (∃ so351 : (Nat →
 (Option Addr)), (∃ sc352 : (Nat →
 Nat), (∃ bp353 : Nat, (∃ br354 : Nat, (∃ bo355 : Nat, (∃ Aq356 : (Option Addr), (∃ Hq357 : (Option Addr), (∃ Dq358 : Nat, (∃ Ee359 : Nat, (([(Wa [(Ws O x.1.1 C), (Ws A x.2 D), (Ws H x.4 E)]), (Wp b0 0), (Wp b1 0), (Wp b337 0), (Wu []), (Wu []), (Ws (Ad b2 0) 0 0), (Wp b0 1), (Ws A x.2 D), (Ws ao339 x.2 cap340), (Ws (Ad b203 0) 0 0), (Wp b0 2), (Ws H x.4 E), (Ws ao342 x.4 cap343), (Wa [Wn, (Ws ao339 x.2 cap340), (Ws ao342 x.4 cap343)]), (Wp b0 0), (Ws O x.1.1 C), (Wi ((x.1.1 : Nat) : Int)), (Wi 0), (Wu []), (Wu []), (Wu []), (Wu []), (Wu []), (Wu []), (Wu []), (Wu []), (Wu []), (Wu []), (Wu []), (Wu [])] = [(Wa [(Ws O x.1.1 C), (Ws A x.2 D), (Ws H x.4 E)]), (Wp bp353 0), (Wp br354 0), (Wp bo355 0), (Wu []), (Wu []), (Ws (Ad b2 0) 0 0), (Wp b0 1), (Ws A x.2 D), (Ws ao339 x.2 cap340), (Ws (Ad b203 0) 0 0), (Wp b0 2), (Ws H x.4 E), (Ws ao342 x.4 cap343), (Wa [Wn, (Ws ao339 x.2 cap340), (Ws ao342 x.4 cap343)]), (Wp b0 0), (Ws O345 x344.1.1 C348), (Wi ((x344.1.1 : Nat) : Int)), (Wi 0), (Wu []), (Wu []), (Wu []), (Wu []), (Wu []), (Wu []), (Wu []), (Wu []), (Wu []), (Wu []), (Wu []), (Wu [])] ∧
 ((SelS [(Hr false O 0 2 x.1.1 0 [(fun i360 => (Cs 3 (so i360) (x.1.2 i360) (sc i360))), (fun i361 => (Cb (x.1.4 i361)))]), (Hr false A 0 1 x.2 0 [(fun i362 => (Ci (x.3 i362)))]), (Hr false H 0 1 x.4 0 [(fun i363 => (Ci (x.5 i363)))]), (Ho false (symRows false 0 x.1 so (fun x364 => 0))), (Hc b0 33 [(Cs 0 O x.1.1 C), (Cs 1 A x.2 D), (Cs 2 H x.4 E)]), (Hc b1 33 [Cz, Cz, Cz]), Hd, Hd, (Hc b337 33 [Cz, (Cs 9 ao339 x.2 cap340), (Cs 10 ao342 x.4 cap343)]), (Hr true ao339 3 1 x.2 cap340 [(fun i365 => (Ci (x.3 i365)))]), (Hr true ao342 3 1 x.4 cap343 [(fun i366 => (Ci (x.5 i366)))])] [0, 1, 2, 3, 4, 5, 8, 1000000, 9, 10, 1000003] [(Hr false O345 0 2 x344.1.1 0 [(fun i367 => (Cs 3 (so351 i367) (x344.1.2 i367) (sc352 i367))), (fun i368 => (Cb (x344.1.4 i368)))]), (Hr false A346 0 1 x344.2 0 [(fun i369 => (Ci (x344.3 i369)))]), (Hr false H347 0 1 x344.4 0 [(fun i370 => (Ci (x344.5 i370)))]), (Ho false (symRows false 0 x344.1 so351 (fun x371 => 0))), (Hc bp353 33 [(Cs 0 O345 x344.1.1 C348), (Cs 1 A346 x344.2 D349), (Cs 2 H347 x344.4 E350)]), (Hc br354 33 [Cz, Cz, Cz]), (Hc bo355 33 [(Cs 7 (none : Option (Addr)) 0 0), (Cs 8 Aq356 x344.2 Dq358), (Cs 9 Hq357 x344.4 Ee359)]), (Hr true (none : Option (Addr)) 52 2 0 0 [(fun i372 => (Cs 10 (none : Option (Addr)) (x344.1.2 i372) 0)), (fun i373 => (Cb (x344.1.4 i373)))]), (Hr true Aq356 3 1 x344.2 Dq358 [(fun i374 => (Ci (x344.3 i374)))]), (Hr true Hq357 3 1 x344.4 Ee359 [(fun i375 => (Ci (x344.5 i375)))]), (Ho true (symRows true 3 (CD.mk 0 x344.1.2 x344.1.3 x344.1.4) (fun x376 => (none : Option (Addr))) (fun x377 => 0)))]) ∧
 (capA x344))) ∧
 (∀ g378 : (Nat →
 Value),
 (∀ kx379 : Int,
 (∀ Oq380 : (Option Addr),
 (∀ Cq381 : Nat,
 (∀ soq382 : (Nat →
 (Option Addr)),
 (∀ scq383 : (Nat →
 Nat),
 (bo355 = bo355 ∧
 (br354 = br354 ∧
 (br354 = br354 ∧
 (∃ Oq384 : (Option Addr), (∃ Aq385 : (Option Addr), (∃ Hq386 : (Option Addr), (∃ Cq387 : Nat, (∃ Dq388 : Nat, (∃ Ee389 : Nat, (∃ soq390 : (Nat →
 (Option Addr)), (∃ scq391 : (Nat →
 Nat), ((Wa [(Ws Oq380 x344.1.1 Cq381), (Ws Aq356 x344.2 Dq358), (Ws Hq357 x344.4 Ee359)]) = (Wa [(Ws Oq384 x.1.1 Cq387), (Ws Aq385 x.2 Dq388), (Ws Hq386 x.4 Ee389)]) ∧
 (SelS [(Hr false O345 0 2 x344.1.1 0 [(fun i392 => (Cs 3 (so351 i392) (x344.1.2 i392) (sc352 i392))), (fun i393 => (Cb (x344.1.4 i393)))]), (Hr false A346 0 1 x344.2 0 [(fun i394 => (Ci (x344.3 i394)))]), (Hr false H347 0 1 x344.4 0 [(fun i395 => (Ci (x344.5 i395)))]), (Ho false (symRows false 0 x344.1 so351 (fun x396 => 0))), (Hc bp353 33 [(Cs 0 O345 x344.1.1 C348), (Cs 1 A346 x344.2 D349), (Cs 2 H347 x344.4 E350)]), (Hc br354 33 [(Cs 7 Oq380 x344.1.1 Cq381), (Cs 8 Aq356 x344.2 Dq358), (Cs 9 Hq357 x344.4 Ee359)]), (Hc bo355 33 [(Cs 7 Oq380 x344.1.1 Cq381), (Cs 8 Aq356 x344.2 Dq358), (Cs 9 Hq357 x344.4 Ee359)]), (Hr true Oq380 52 2 x344.1.1 Cq381 [(fun i397 => (Cs 10 (soq382 i397) (x344.1.2 i397) (scq383 i397))), (fun i398 => (Cb (x344.1.4 i398)))]), (Hr true Aq356 3 1 x344.2 Dq358 [(fun i399 => (Ci (x344.3 i399)))]), (Hr true Hq357 3 1 x344.4 Ee359 [(fun i400 => (Ci (x344.5 i400)))]), (Ho true (symRows true 3 (CD.mk x344.1.1 x344.1.2 x344.1.3 x344.1.4) soq382 scq383))] [7, 8, 9, 10] [(Hr true Oq384 52 2 x.1.1 Cq387 [(fun i401 => (Cs 3 (soq390 i401) (x.1.2 i401) (scq391 i401))), (fun i402 => (Cb (x.1.4 i402)))]), (Hr true Aq385 3 1 x.2 Dq388 [(fun i403 => (Ci (x.3 i403)))]), (Hr true Hq386 3 1 x.4 Ee389 [(fun i404 => (Ci (x.5 i404)))]), (Ho true (symRows true 3 x.1 soq390 scq391))])))))))))))))))))))))))))))))))))))))))))))))))))))) ∧
 (∀ b405 : Nat,
 (True ∧
 (((b2 = b2 ∧
 ((A = A ∧
 x.2 = x.2) ∧
 ((∀ i406 : Nat,
 true = true) ∧
 (apC 0 x.2 8)))) ∧
 (∀ ao407 : (Option Addr),
 (∀ cap408 : Nat,
 (True ∧
 (∀ b409 : Nat,
 (True ∧
 ((b409 = b409 ∧
 ((H = H ∧
 x.4 = x.4) ∧
 ((∀ i410 : Nat,
 true = true) ∧
 (apC 0 x.4 8)))) ∧
 (∀ ao411 : (Option Addr),
 (∀ cap412 : Nat,
 (True ∧
 (b405 = b405 ∧
 (True ∧
 (b0 = b0 ∧
 (∃ x413 : AD, (∃ O414 : (Option Addr), (∃ A415 : (Option Addr), (∃ H416 : (Option Addr), (∃ C417 : Nat, (∃ D418 : Nat, (∃ E419 : Nat, (∃ so420 : (Nat →
 (Option Addr)), (∃ sc421 : (Nat →
 Nat), (∃ bp422 : Nat, (∃ br423 : Nat, (∃ bo424 : Nat, (∃ Aq425 : (Option Addr), (∃ Hq426 : (Option Addr), (∃ Dq427 : Nat, (∃ Ee428 : Nat, (([(Wa [(Ws O x.1.1 C), (Ws A x.2 D), (Ws H x.4 E)]), (Wp b0 0), (Wp b1 0), (Wp b405 0), (Wu []), (Wu []), (Ws (Ad b2 0) 0 0), (Wp b0 1), (Ws A x.2 D), (Ws ao407 x.2 cap408), (Ws (Ad b409 0) 0 0), (Wp b0 2), (Ws H x.4 E), (Ws ao411 x.4 cap412), (Wa [Wn, (Ws ao407 x.2 cap408), (Ws ao411 x.4 cap412)]), (Wp b0 0), (Ws O x.1.1 C), (Wi ((x.1.1 : Nat) : Int)), (Wi 0), (Wu []), (Wu []), (Wu []), (Wu []), (Wu []), (Wu []), (Wu []), (Wu []), (Wu []), (Wu []), (Wu []), (Wu [])] = [(Wa [(Ws O x.1.1 C), (Ws A x.2 D), (Ws H x.4 E)]), (Wp bp422 0), (Wp br423 0), (Wp bo424 0), (Wu []), (Wu []), (Ws (Ad b2 0) 0 0), (Wp b0 1), (Ws A x.2 D), (Ws ao407 x.2 cap408), (Ws (Ad b409 0) 0 0), (Wp b0 2), (Ws H x.4 E), (Ws ao411 x.4 cap412), (Wa [Wn, (Ws ao407 x.2 cap408), (Ws ao411 x.4 cap412)]), (Wp b0 0), (Ws O414 x413.1.1 C417), (Wi ((x413.1.1 : Nat) : Int)), (Wi 0), (Wu []), (Wu []), (Wu []), (Wu []), (Wu []), (Wu []), (Wu []), (Wu []), (Wu []), (Wu []), (Wu []), (Wu [])] ∧
 ((SelS [(Hr false O 0 2 x.1.1 0 [(fun i429 => (Cs 3 (so i429) (x.1.2 i429) (sc i429))), (fun i430 => (Cb (x.1.4 i430)))]), (Hr false A 0 1 x.2 0 [(fun i431 => (Ci (x.3 i431)))]), (Hr false H 0 1 x.4 0 [(fun i432 => (Ci (x.5 i432)))]), (Ho false (symRows false 0 x.1 so (fun x433 => 0))), (Hc b0 33 [(Cs 0 O x.1.1 C), (Cs 1 A x.2 D), (Cs 2 H x.4 E)]), (Hc b1 33 [Cz, Cz, Cz]), Hd, (Hc b405 33 [Cz, (Cs 8 ao407 x.2 cap408), (Cs 10 ao411 x.4 cap412)]), (Hr true ao407 3 1 x.2 cap408 [(fun i434 => (Ci (x.3 i434)))]), Hd, (Hr true ao411 3 1 x.4 cap412 [(fun i435 => (Ci (x.5 i435)))])] [0, 1, 2, 3, 4, 5, 7, 1000000, 8, 10, 1000003] [(Hr false O414 0 2 x413.1.1 0 [(fun i436 => (Cs 3 (so420 i436) (x413.1.2 i436) (sc421 i436))), (fun i437 => (Cb (x413.1.4 i437)))]), (Hr false A415 0 1 x413.2 0 [(fun i438 => (Ci (x413.3 i438)))]), (Hr false H416 0 1 x413.4 0 [(fun i439 => (Ci (x413.5 i439)))]), (Ho false (symRows false 0 x413.1 so420 (fun x440 => 0))), (Hc bp422 33 [(Cs 0 O414 x413.1.1 C417), (Cs 1 A415 x413.2 D418), (Cs 2 H416 x413.4 E419)]), (Hc br423 33 [Cz, Cz, Cz]), (Hc bo424 33 [(Cs 7 (none : Option (Addr)) 0 0), (Cs 8 Aq425 x413.2 Dq427), (Cs 9 Hq426 x413.4 Ee428)]), (Hr true (none : Option (Addr)) 52 2 0 0 [(fun i441 => (Cs 10 (none : Option (Addr)) (x413.1.2 i441) 0)), (fun i442 => (Cb (x413.1.4 i442)))]), (Hr true Aq425 3 1 x413.2 Dq427 [(fun i443 => (Ci (x413.3 i443)))]), (Hr true Hq426 3 1 x413.4 Ee428 [(fun i444 => (Ci (x413.5 i444)))]), (Ho true (symRows true 3 (CD.mk 0 x413.1.2 x413.1.3 x413.1.4) (fun x445 => (none : Option (Addr))) (fun x446 => 0)))]) ∧
 (capA x413))) ∧
 (∀ g447 : (Nat →
 Value),
 (∀ kx448 : Int,
 (∀ Oq449 : (Option Addr),
 (∀ Cq450 : Nat,
 (∀ soq451 : (Nat →
 (Option Addr)),
 (∀ scq452 : (Nat →
 Nat),
 (bo424 = bo424 ∧
 (br423 = br423 ∧
 (br423 = br423 ∧
 (∃ Oq453 : (Option Addr), (∃ Aq454 : (Option Addr), (∃ Hq455 : (Option Addr), (∃ Cq456 : Nat, (∃ Dq457 : Nat, (∃ Ee458 : Nat, (∃ soq459 : (Nat →
 (Option Addr)), (∃ scq460 : (Nat →
 Nat), ((Wa [(Ws Oq449 x413.1.1 Cq450), (Ws Aq425 x413.2 Dq427), (Ws Hq426 x413.4 Ee428)]) = (Wa [(Ws Oq453 x.1.1 Cq456), (Ws Aq454 x.2 Dq457), (Ws Hq455 x.4 Ee458)]) ∧
 (SelS [(Hr false O414 0 2 x413.1.1 0 [(fun i461 => (Cs 3 (so420 i461) (x413.1.2 i461) (sc421 i461))), (fun i462 => (Cb (x413.1.4 i462)))]), (Hr false A415 0 1 x413.2 0 [(fun i463 => (Ci (x413.3 i463)))]), (Hr false H416 0 1 x413.4 0 [(fun i464 => (Ci (x413.5 i464)))]), (Ho false (symRows false 0 x413.1 so420 (fun x465 => 0))), (Hc bp422 33 [(Cs 0 O414 x413.1.1 C417), (Cs 1 A415 x413.2 D418), (Cs 2 H416 x413.4 E419)]), (Hc br423 33 [(Cs 7 Oq449 x413.1.1 Cq450), (Cs 8 Aq425 x413.2 Dq427), (Cs 9 Hq426 x413.4 Ee428)]), (Hc bo424 33 [(Cs 7 Oq449 x413.1.1 Cq450), (Cs 8 Aq425 x413.2 Dq427), (Cs 9 Hq426 x413.4 Ee428)]), (Hr true Oq449 52 2 x413.1.1 Cq450 [(fun i466 => (Cs 10 (soq451 i466) (x413.1.2 i466) (scq452 i466))), (fun i467 => (Cb (x413.1.4 i467)))]), (Hr true Aq425 3 1 x413.2 Dq427 [(fun i468 => (Ci (x413.3 i468)))]), (Hr true Hq426 3 1 x413.4 Ee428 [(fun i469 => (Ci (x413.5 i469)))]), (Ho true (symRows true 3 (CD.mk x413.1.1 x413.1.2 x413.1.3 x413.1.4) soq451 scq452))] [7, 8, 9, 10] [(Hr true Oq453 52 2 x.1.1 Cq456 [(fun i470 => (Cs 3 (soq459 i470) (x.1.2 i470) (scq460 i470))), (fun i471 => (Cb (x.1.4 i471)))]), (Hr true Aq454 3 1 x.2 Dq457 [(fun i472 => (Ci (x.3 i472)))]), (Hr true Hq455 3 1 x.4 Ee458 [(fun i473 => (Ci (x.5 i473)))]), (Ho true (symRows true 3 x.1 soq459 scq460))]))))))))))))))))))))))))))))))))))))))))))))))))) ∧
 (∀ b474 : Nat,
 (True ∧
 ((b2 = b2 ∧
 ((A = A ∧
 x.2 = x.2) ∧
 ((∀ i475 : Nat,
 true = true) ∧
 (apC 0 x.2 8)))) ∧
 (∀ ao476 : (Option Addr),
 (∀ cap477 : Nat,
 (True ∧
 ((b474 = b474 ∧
 ((H = H ∧
 x.4 = x.4) ∧
 ((∀ i478 : Nat,
 true = true) ∧
 (apC 0 x.4 8)))) ∧
 (∀ ao479 : (Option Addr),
 (∀ cap480 : Nat,
 (True ∧
 (b405 = b405 ∧
 (True ∧
 (b0 = b0 ∧
 (∃ x481 : AD, (∃ O482 : (Option Addr), (∃ A483 : (Option Addr), (∃ H484 : (Option Addr), (∃ C485 : Nat, (∃ D486 : Nat, (∃ E487 : Nat, (∃ so488 : (Nat →
 (Option Addr)), (∃ sc489 : (Nat →
 Nat), (∃ bp490 : Nat, (∃ br491 : Nat, (∃ bo492 : Nat, (∃ Aq493 : (Option Addr), (∃ Hq494 : (Option Addr), (∃ Dq495 : Nat, (∃ Ee496 : Nat, (([(Wa [(Ws O x.1.1 C), (Ws A x.2 D), (Ws H x.4 E)]), (Wp b0 0), (Wp b1 0), (Wp b405 0), (Wu []), (Wu []), (Ws (Ad b2 0) 0 0), (Wp b0 1), (Ws A x.2 D), (Ws ao476 x.2 cap477), (Ws (Ad b474 0) 0 0), (Wp b0 2), (Ws H x.4 E), (Ws ao479 x.4 cap480), (Wa [Wn, (Ws ao476 x.2 cap477), (Ws ao479 x.4 cap480)]), (Wp b0 0), (Ws O x.1.1 C), (Wi ((x.1.1 : Nat) : Int)), (Wi 0), (Wu []), (Wu []), (Wu []), (Wu []), (Wu []), (Wu []), (Wu []), (Wu []), (Wu []), (Wu []), (Wu []), (Wu [])] = [(Wa [(Ws O x.1.1 C), (Ws A x.2 D), (Ws H x.4 E)]), (Wp bp490 0), (Wp br491 0), (Wp bo492 0), (Wu []), (Wu []), (Ws (Ad b2 0) 0 0), (Wp b0 1), (Ws A x.2 D), (Ws ao476 x.2 cap477), (Ws (Ad b474 0) 0 0), (Wp b0 2), (Ws H x.4 E), (Ws ao479 x.4 cap480), (Wa [Wn, (Ws ao476 x.2 cap477), (Ws ao479 x.4 cap480)]), (Wp b0 0), (Ws O482 x481.1.1 C485), (Wi ((x481.1.1 : Nat) : Int)), (Wi 0), (Wu []), (Wu []), (Wu []), (Wu []), (Wu []), (Wu []), (Wu []), (Wu []), (Wu []), (Wu []), (Wu []), (Wu [])] ∧
 ((SelS [(Hr false O 0 2 x.1.1 0 [(fun i497 => (Cs 3 (so i497) (x.1.2 i497) (sc i497))), (fun i498 => (Cb (x.1.4 i498)))]), (Hr false A 0 1 x.2 0 [(fun i499 => (Ci (x.3 i499)))]), (Hr false H 0 1 x.4 0 [(fun i500 => (Ci (x.5 i500)))]), (Ho false (symRows false 0 x.1 so (fun x501 => 0))), (Hc b0 33 [(Cs 0 O x.1.1 C), (Cs 1 A x.2 D), (Cs 2 H x.4 E)]), (Hc b1 33 [Cz, Cz, Cz]), Hd, (Hc b405 33 [Cz, (Cs 9 ao476 x.2 cap477), (Cs 10 ao479 x.4 cap480)]), Hd, (Hr true ao476 3 1 x.2 cap477 [(fun i502 => (Ci (x.3 i502)))]), (Hr true ao479 3 1 x.4 cap480 [(fun i503 => (Ci (x.5 i503)))])] [0, 1, 2, 3, 4, 5, 7, 1000000, 9, 10, 1000003] [(Hr false O482 0 2 x481.1.1 0 [(fun i504 => (Cs 3 (so488 i504) (x481.1.2 i504) (sc489 i504))), (fun i505 => (Cb (x481.1.4 i505)))]), (Hr false A483 0 1 x481.2 0 [(fun i506 => (Ci (x481.3 i506)))]), (Hr false H484 0 1 x481.4 0 [(fun i507 => (Ci (x481.5 i507)))]), (Ho false (symRows false 0 x481.1 so488 (fun x508 => 0))), (Hc bp490 33 [(Cs 0 O482 x481.1.1 C485), (Cs 1 A483 x481.2 D486), (Cs 2 H484 x481.4 E487)]), (Hc br491 33 [Cz, Cz, Cz]), (Hc bo492 33 [(Cs 7 (none : Option (Addr)) 0 0), (Cs 8 Aq493 x481.2 Dq495), (Cs 9 Hq494 x481.4 Ee496)]), (Hr true (none : Option (Addr)) 52 2 0 0 [(fun i509 => (Cs 10 (none : Option (Addr)) (x481.1.2 i509) 0)), (fun i510 => (Cb (x481.1.4 i510)))]), (Hr true Aq493 3 1 x481.2 Dq495 [(fun i511 => (Ci (x481.3 i511)))]), (Hr true Hq494 3 1 x481.4 Ee496 [(fun i512 => (Ci (x481.5 i512)))]), (Ho true (symRows true 3 (CD.mk 0 x481.1.2 x481.1.3 x481.1.4) (fun x513 => (none : Option (Addr))) (fun x514 => 0)))]) ∧
 (capA x481))) ∧
 (∀ g515 : (Nat →
 Value),
 (∀ kx516 : Int,
 (∀ Oq517 : (Option Addr),
 (∀ Cq518 : Nat,
 (∀ soq519 : (Nat →
 (Option Addr)),
 (∀ scq520 : (Nat →
 Nat),
 (bo492 = bo492 ∧
 (br491 = br491 ∧
 (br491 = br491 ∧
 (∃ Oq521 : (Option Addr), (∃ Aq522 : (Option Addr), (∃ Hq523 : (Option Addr), (∃ Cq524 : Nat, (∃ Dq525 : Nat, (∃ Ee526 : Nat, (∃ soq527 : (Nat →
 (Option Addr)), (∃ scq528 : (Nat →
 Nat), ((Wa [(Ws Oq517 x481.1.1 Cq518), (Ws Aq493 x481.2 Dq495), (Ws Hq494 x481.4 Ee496)]) = (Wa [(Ws Oq521 x.1.1 Cq524), (Ws Aq522 x.2 Dq525), (Ws Hq523 x.4 Ee526)]) ∧
 (SelS [(Hr false O482 0 2 x481.1.1 0 [(fun i529 => (Cs 3 (so488 i529) (x481.1.2 i529) (sc489 i529))), (fun i530 => (Cb (x481.1.4 i530)))]), (Hr false A483 0 1 x481.2 0 [(fun i531 => (Ci (x481.3 i531)))]), (Hr false H484 0 1 x481.4 0 [(fun i532 => (Ci (x481.5 i532)))]), (Ho false (symRows false 0 x481.1 so488 (fun x533 => 0))), (Hc bp490 33 [(Cs 0 O482 x481.1.1 C485), (Cs 1 A483 x481.2 D486), (Cs 2 H484 x481.4 E487)]), (Hc br491 33 [(Cs 7 Oq517 x481.1.1 Cq518), (Cs 8 Aq493 x481.2 Dq495), (Cs 9 Hq494 x481.4 Ee496)]), (Hc bo492 33 [(Cs 7 Oq517 x481.1.1 Cq518), (Cs 8 Aq493 x481.2 Dq495), (Cs 9 Hq494 x481.4 Ee496)]), (Hr true Oq517 52 2 x481.1.1 Cq518 [(fun i534 => (Cs 10 (soq519 i534) (x481.1.2 i534) (scq520 i534))), (fun i535 => (Cb (x481.1.4 i535)))]), (Hr true Aq493 3 1 x481.2 Dq495 [(fun i536 => (Ci (x481.3 i536)))]), (Hr true Hq494 3 1 x481.4 Ee496 [(fun i537 => (Ci (x481.5 i537)))]), (Ho true (symRows true 3 (CD.mk x481.1.1 x481.1.2 x481.1.3 x481.1.4) soq519 scq520))] [7, 8, 9, 10] [(Hr true Oq521 52 2 x.1.1 Cq524 [(fun i538 => (Cs 3 (soq527 i538) (x.1.2 i538) (scq528 i538))), (fun i539 => (Cb (x.1.4 i539)))]), (Hr true Aq522 3 1 x.2 Dq525 [(fun i540 => (Ci (x.3 i540)))]), (Hr true Hq523 3 1 x.4 Ee526 [(fun i541 => (Ci (x.5 i541)))]), (Ho true (symRows true 3 x.1 soq527 scq528))])))))))))))))))))))))))))))))))))))))))))))))))))))))))) ∧
 ((∀ b542 : Nat,
 (True ∧
 ((∀ b543 : Nat,
 (True ∧
 (((b543 = b543 ∧
 ((A = A ∧
 x.2 = x.2) ∧
 ((∀ i544 : Nat,
 true = true) ∧
 (apC 0 x.2 8)))) ∧
 (∀ ao545 : (Option Addr),
 (∀ cap546 : Nat,
 (True ∧
 (((b542 = b542 ∧
 ((H = H ∧
 x.4 = x.4) ∧
 ((∀ i547 : Nat,
 true = true) ∧
 (apC 0 x.4 8)))) ∧
 (∀ ao548 : (Option Addr),
 (∀ cap549 : Nat,
 (True ∧
 (∀ b550 : Nat,
 (True ∧
 (b550 = b550 ∧
 (True ∧
 (b0 = b0 ∧
 (∃ x551 : AD, (∃ O552 : (Option Addr), (∃ A553 : (Option Addr), (∃ H554 : (Option Addr), (∃ C555 : Nat, (∃ D556 : Nat, (∃ E557 : Nat, (∃ so558 : (Nat →
 (Option Addr)), (∃ sc559 : (Nat →
 Nat), (∃ bp560 : Nat, (∃ br561 : Nat, (∃ bo562 : Nat, (∃ Aq563 : (Option Addr), (∃ Hq564 : (Option Addr), (∃ Dq565 : Nat, (∃ Ee566 : Nat, (([(Wa [(Ws O x.1.1 C), (Ws A x.2 D), (Ws H x.4 E)]), (Wp b0 0), (Wp b1 0), (Wp b550 0), (Wu []), (Wu []), (Ws (Ad b543 0) 0 0), (Wp b0 1), (Ws A x.2 D), (Ws ao545 x.2 cap546), (Ws (Ad b542 0) 0 0), (Wp b0 2), (Ws H x.4 E), (Ws ao548 x.4 cap549), (Wa [Wn, (Ws ao545 x.2 cap546), (Ws ao548 x.4 cap549)]), (Wp b0 0), (Ws O x.1.1 C), (Wi ((x.1.1 : Nat) : Int)), (Wi 0), (Wu []), (Wu []), (Wu []), (Wu []), (Wu []), (Wu []), (Wu []), (Wu []), (Wu []), (Wu []), (Wu []), (Wu [])] = [(Wa [(Ws O x.1.1 C), (Ws A x.2 D), (Ws H x.4 E)]), (Wp bp560 0), (Wp br561 0), (Wp bo562 0), (Wu []), (Wu []), (Ws (Ad b543 0) 0 0), (Wp b0 1), (Ws A x.2 D), (Ws ao545 x.2 cap546), (Ws (Ad b542 0) 0 0), (Wp b0 2), (Ws H x.4 E), (Ws ao548 x.4 cap549), (Wa [Wn, (Ws ao545 x.2 cap546), (Ws ao548 x.4 cap549)]), (Wp b0 0), (Ws O552 x551.1.1 C555), (Wi ((x551.1.1 : Nat) : Int)), (Wi 0), (Wu []), (Wu []), (Wu []), (Wu []), (Wu []), (Wu []), (Wu []), (Wu []), (Wu []), (Wu []), (Wu []), (Wu [])] ∧
 ((SelS [(Hr false O 0 2 x.1.1 0 [(fun i567 => (Cs 3 (so i567) (x.1.2 i567) (sc i567))), (fun i568 => (Cb (x.1.4 i568)))]), (Hr false A 0 1 x.2 0 [(fun i569 => (Ci (x.3 i569)))]), (Hr false H 0 1 x.4 0 [(fun i570 => (Ci (x.5 i570)))]), (Ho false (symRows false 0 x.1 so (fun x571 => 0))), (Hc b0 33 [(Cs 0 O x.1.1 C), (Cs 1 A x.2 D), (Cs 2 H x.4 E)]), (Hc b1 33 [Cz, Cz, Cz]), Hd, Hd, (Hr true ao545 3 1 x.2 cap546 [(fun i572 => (Ci (x.3 i572)))]), (Hr true ao548 3 1 x.4 cap549 [(fun i573 => (Ci (x.5 i573)))]), (Hc b550 33 [Cz, (Cs 8 ao545 x.2 cap546), (Cs 9 ao548 x.4 cap549)])] [0, 1, 2, 3, 4, 5, 10, 1000000, 8, 9, 1000003] [(Hr false O552 0 2 x551.1.1 0 [(fun i574 => (Cs 3 (so558 i574) (x551.1.2 i574) (sc559 i574))), (fun i575 => (Cb (x551.1.4 i575)))]), (Hr false A553 0 1 x551.2 0 [(fun i576 => (Ci (x551.3 i576)))]), (Hr false H554 0 1 x551.4 0 [(fun i577 => (Ci (x551.5 i577)))]), (Ho false (symRows false 0 x551.1 so558 (fun x578 => 0))), (Hc bp560 33 [(Cs 0 O552 x551.1.1 C555), (Cs 1 A553 x551.2 D556), (Cs 2 H554 x551.4 E557)]), (Hc br561 33 [Cz, Cz, Cz]), (Hc bo562 33 [(Cs 7 (none : Option (Addr)) 0 0), (Cs 8 Aq563 x551.2 Dq565), (Cs 9 Hq564 x551.4 Ee566)]), (Hr true (none : Option (Addr)) 52 2 0 0 [(fun i579 => (Cs 10 (none : Option (Addr)) (x551.1.2 i579) 0)), (fun i580 => (Cb (x551.1.4 i580)))]), (Hr true Aq563 3 1 x551.2 Dq565 [(fun i581 => (Ci (x551.3 i581)))]), (Hr true Hq564 3 1 x551.4 Ee566 [(fun i582 => (Ci (x551.5 i582)))]), (Ho true (symRows true 3 (CD.mk 0 x551.1.2 x551.1.3 x551.1.4) (fun x583 => (none : Option (Addr))) (fun x584 => 0)))]) ∧
 (capA x551))) ∧
 (∀ g585 : (Nat →
 Value),
 (∀ kx586 : Int,
 (∀ Oq587 : (Option Addr),
 (∀ Cq588 : Nat,
 (∀ soq589 : (Nat →
 (Option Addr)),
 (∀ scq590 : (Nat →
 Nat),
 (bo562 = bo562 ∧
 (br561 = br561 ∧
 (br561 = br561 ∧
 (∃ Oq591 : (Option Addr), (∃ Aq592 : (Option Addr), (∃ Hq593 : (Option Addr), (∃ Cq594 : Nat, (∃ Dq595 : Nat, (∃ Ee596 : Nat, (∃ soq597 : (Nat →
 (Option Addr)), (∃ scq598 : (Nat →
 Nat), ((Wa [(Ws Oq587 x551.1.1 Cq588), (Ws Aq563 x551.2 Dq565), (Ws Hq564 x551.4 Ee566)]) = (Wa [(Ws Oq591 x.1.1 Cq594), (Ws Aq592 x.2 Dq595), (Ws Hq593 x.4 Ee596)]) ∧
 (SelS [(Hr false O552 0 2 x551.1.1 0 [(fun i599 => (Cs 3 (so558 i599) (x551.1.2 i599) (sc559 i599))), (fun i600 => (Cb (x551.1.4 i600)))]), (Hr false A553 0 1 x551.2 0 [(fun i601 => (Ci (x551.3 i601)))]), (Hr false H554 0 1 x551.4 0 [(fun i602 => (Ci (x551.5 i602)))]), (Ho false (symRows false 0 x551.1 so558 (fun x603 => 0))), (Hc bp560 33 [(Cs 0 O552 x551.1.1 C555), (Cs 1 A553 x551.2 D556), (Cs 2 H554 x551.4 E557)]), (Hc br561 33 [(Cs 7 Oq587 x551.1.1 Cq588), (Cs 8 Aq563 x551.2 Dq565), (Cs 9 Hq564 x551.4 Ee566)]), (Hc bo562 33 [(Cs 7 Oq587 x551.1.1 Cq588), (Cs 8 Aq563 x551.2 Dq565), (Cs 9 Hq564 x551.4 Ee566)]), (Hr true Oq587 52 2 x551.1.1 Cq588 [(fun i604 => (Cs 10 (soq589 i604) (x551.1.2 i604) (scq590 i604))), (fun i605 => (Cb (x551.1.4 i605)))]), (Hr true Aq563 3 1 x551.2 Dq565 [(fun i606 => (Ci (x551.3 i606)))]), (Hr true Hq564 3 1 x551.4 Ee566 [(fun i607 => (Ci (x551.5 i607)))]), (Ho true (symRows true 3 (CD.mk x551.1.1 x551.1.2 x551.1.3 x551.1.4) soq589 scq590))] [7, 8, 9, 10] [(Hr true Oq591 52 2 x.1.1 Cq594 [(fun i608 => (Cs 3 (soq597 i608) (x.1.2 i608) (scq598 i608))), (fun i609 => (Cb (x.1.4 i609)))]), (Hr true Aq592 3 1 x.2 Dq595 [(fun i610 => (Ci (x.3 i610)))]), (Hr true Hq593 3 1 x.4 Ee596 [(fun i611 => (Ci (x.5 i611)))]), (Ho true (symRows true 3 x.1 soq597 scq598))]))))))))))))))))))))))))))))))))))))))))))))) ∧
 (∀ b612 : Nat,
 (True ∧
 ((b542 = b542 ∧
 ((H = H ∧
 x.4 = x.4) ∧
 ((∀ i613 : Nat,
 true = true) ∧
 (apC 0 x.4 8)))) ∧
 (∀ ao614 : (Option Addr),
 (∀ cap615 : Nat,
 (True ∧
 (b612 = b612 ∧
 (True ∧
 (b0 = b0 ∧
 (∃ x616 : AD, (∃ O617 : (Option Addr), (∃ A618 : (Option Addr), (∃ H619 : (Option Addr), (∃ C620 : Nat, (∃ D621 : Nat, (∃ E622 : Nat, (∃ so623 : (Nat →
 (Option Addr)), (∃ sc624 : (Nat →
 Nat), (∃ bp625 : Nat, (∃ br626 : Nat, (∃ bo627 : Nat, (∃ Aq628 : (Option Addr), (∃ Hq629 : (Option Addr), (∃ Dq630 : Nat, (∃ Ee631 : Nat, (([(Wa [(Ws O x.1.1 C), (Ws A x.2 D), (Ws H x.4 E)]), (Wp b0 0), (Wp b1 0), (Wp b612 0), (Wu []), (Wu []), (Ws (Ad b543 0) 0 0), (Wp b0 1), (Ws A x.2 D), (Ws ao545 x.2 cap546), (Ws (Ad b542 0) 0 0), (Wp b0 2), (Ws H x.4 E), (Ws ao614 x.4 cap615), (Wa [Wn, (Ws ao545 x.2 cap546), (Ws ao614 x.4 cap615)]), (Wp b0 0), (Ws O x.1.1 C), (Wi ((x.1.1 : Nat) : Int)), (Wi 0), (Wu []), (Wu []), (Wu []), (Wu []), (Wu []), (Wu []), (Wu []), (Wu []), (Wu []), (Wu []), (Wu []), (Wu [])] = [(Wa [(Ws O x.1.1 C), (Ws A x.2 D), (Ws H x.4 E)]), (Wp bp625 0), (Wp br626 0), (Wp bo627 0), (Wu []), (Wu []), (Ws (Ad b543 0) 0 0), (Wp b0 1), (Ws A x.2 D), (Ws ao545 x.2 cap546), (Ws (Ad b542 0) 0 0), (Wp b0 2), (Ws H x.4 E), (Ws ao614 x.4 cap615), (Wa [Wn, (Ws ao545 x.2 cap546), (Ws ao614 x.4 cap615)]), (Wp b0 0), (Ws O617 x616.1.1 C620), (Wi ((x616.1.1 : Nat) : Int)), (Wi 0), (Wu []), (Wu []), (Wu []), (Wu []), (Wu []), (Wu []), (Wu []), (Wu []), (Wu []), (Wu []), (Wu []), (Wu [])] ∧
 ((SelS [(Hr false O 0 2 x.1.1 0 [(fun i632 => (Cs 3 (so i632) (x.1.2 i632) (sc i632))), (fun i633 => (Cb (x.1.4 i633)))]), (Hr false A 0 1 x.2 0 [(fun i634 => (Ci (x.3 i634)))]), (Hr false H 0 1 x.4 0 [(fun i635 => (Ci (x.5 i635)))]), (Ho false (symRows false 0 x.1 so (fun x636 => 0))), (Hc b0 33 [(Cs 0 O x.1.1 C), (Cs 1 A x.2 D), (Cs 2 H x.4 E)]), (Hc b1 33 [Cz, Cz, Cz]), Hd, Hd, (Hr true ao545 3 1 x.2 cap546 [(fun i637 => (Ci (x.3 i637)))]), (Hc b612 33 [Cz, (Cs 8 ao545 x.2 cap546), (Cs 10 ao614 x.4 cap615)]), (Hr true ao614 3 1 x.4 cap615 [(fun i638 => (Ci (x.5 i638)))])] [0, 1, 2, 3, 4, 5, 9, 1000000, 8, 10, 1000003] [(Hr false O617 0 2 x616.1.1 0 [(fun i639 => (Cs 3 (so623 i639) (x616.1.2 i639) (sc624 i639))), (fun i640 => (Cb (x616.1.4 i640)))]), (Hr false A618 0 1 x616.2 0 [(fun i641 => (Ci (x616.3 i641)))]), (Hr false H619 0 1 x616.4 0 [(fun i642 => (Ci (x616.5 i642)))]), (Ho false (symRows false 0 x616.1 so623 (fun x643 => 0))), (Hc bp625 33 [(Cs 0 O617 x616.1.1 C620), (Cs 1 A618 x616.2 D621), (Cs 2 H619 x616.4 E622)]), (Hc br626 33 [Cz, Cz, Cz]), (Hc bo627 33 [(Cs 7 (none : Option (Addr)) 0 0), (Cs 8 Aq628 x616.2 Dq630), (Cs 9 Hq629 x616.4 Ee631)]), (Hr true (none : Option (Addr)) 52 2 0 0 [(fun i644 => (Cs 10 (none : Option (Addr)) (x616.1.2 i644) 0)), (fun i645 => (Cb (x616.1.4 i645)))]), (Hr true Aq628 3 1 x616.2 Dq630 [(fun i646 => (Ci (x616.3 i646)))]), (Hr true Hq629 3 1 x616.4 Ee631 [(fun i647 => (Ci (x616.5 i647)))]), (Ho true (symRows true 3 (CD.mk 0 x616.1.2 x616.1.3 x616.1.4) (fun x648 => (none : Option (Addr))) (fun x649 => 0)))]) ∧
 (capA x616))) ∧
 (∀ g650 : (Nat →
 Value),
 (∀ kx651 : Int,
 (∀ Oq652 : (Option Addr),
 (∀ Cq653 : Nat,
 (∀ soq654 : (Nat →
 (Option Addr)),
 (∀ scq655 : (Nat →
 Nat),
 (bo627 = bo627 ∧
 (br626 = br626 ∧
 (br626 = br626 ∧
 (∃ Oq656 : (Option Addr), (∃ Aq657 : (Option Addr), (∃ Hq658 : (Option Addr), (∃ Cq659 : Nat, (∃ Dq660 : Nat, (∃ Ee661 : Nat, (∃ soq662 : (Nat →
 (Option Addr)), (∃ scq663 : (Nat →
 Nat), ((Wa [(Ws Oq652 x616.1.1 Cq653), (Ws Aq628 x616.2 Dq630), (Ws Hq629 x616.4 Ee631)]) = (Wa [(Ws Oq656 x.1.1 Cq659), (Ws Aq657 x.2 Dq660), (Ws Hq658 x.4 Ee661)]) ∧
 (SelS [(Hr false O617 0 2 x616.1.1 0 [(fun i664 => (Cs 3 (so623 i664) (x616.1.2 i664) (sc624 i664))), (fun i665 => (Cb (x616.1.4 i665)))]), (Hr false A618 0 1 x616.2 0 [(fun i666 => (Ci (x616.3 i666)))]), (Hr false H619 0 1 x616.4 0 [(fun i667 => (Ci (x616.5 i667)))]), (Ho false (symRows false 0 x616.1 so623 (fun x668 => 0))), (Hc bp625 33 [(Cs 0 O617 x616.1.1 C620), (Cs 1 A618 x616.2 D621), (Cs 2 H619 x616.4 E622)]), (Hc br626 33 [(Cs 7 Oq652 x616.1.1 Cq653), (Cs 8 Aq628 x616.2 Dq630), (Cs 9 Hq629 x616.4 Ee631)]), (Hc bo627 33 [(Cs 7 Oq652 x616.1.1 Cq653), (Cs 8 Aq628 x616.2 Dq630), (Cs 9 Hq629 x616.4 Ee631)]), (Hr true Oq652 52 2 x616.1.1 Cq653 [(fun i669 => (Cs 10 (soq654 i669) (x616.1.2 i669) (scq655 i669))), (fun i670 => (Cb (x616.1.4 i670)))]), (Hr true Aq628 3 1 x616.2 Dq630 [(fun i671 => (Ci (x616.3 i671)))]), (Hr true Hq629 3 1 x616.4 Ee631 [(fun i672 => (Ci (x616.5 i672)))]), (Ho true (symRows true 3 (CD.mk x616.1.1 x616.1.2 x616.1.3 x616.1.4) soq654 scq655))] [7, 8, 9, 10] [(Hr true Oq656 52 2 x.1.1 Cq659 [(fun i673 => (Cs 3 (soq662 i673) (x.1.2 i673) (scq663 i673))), (fun i674 => (Cb (x.1.4 i674)))]), (Hr true Aq657 3 1 x.2 Dq660 [(fun i675 => (Ci (x.3 i675)))]), (Hr true Hq658 3 1 x.4 Ee661 [(fun i676 => (Ci (x.5 i676)))]), (Ho true (symRows true 3 x.1 soq662 scq663))])))))))))))))))))))))))))))))))))))))))))))))))))) ∧
 (∀ b677 : Nat,
 (True ∧
 ((b543 = b543 ∧
 ((A = A ∧
 x.2 = x.2) ∧
 ((∀ i678 : Nat,
 true = true) ∧
 (apC 0 x.2 8)))) ∧
 (∀ ao679 : (Option Addr),
 (∀ cap680 : Nat,
 (True ∧
 ((b542 = b542 ∧
 ((H = H ∧
 x.4 = x.4) ∧
 ((∀ i681 : Nat,
 true = true) ∧
 (apC 0 x.4 8)))) ∧
 (∀ ao682 : (Option Addr),
 (∀ cap683 : Nat,
 (True ∧
 (b677 = b677 ∧
 (True ∧
 (b0 = b0 ∧
 (∃ x684 : AD, (∃ O685 : (Option Addr), (∃ A686 : (Option Addr), (∃ H687 : (Option Addr), (∃ C688 : Nat, (∃ D689 : Nat, (∃ E690 : Nat, (∃ so691 : (Nat →
 (Option Addr)), (∃ sc692 : (Nat →
 Nat), (∃ bp693 : Nat, (∃ br694 : Nat, (∃ bo695 : Nat, (∃ Aq696 : (Option Addr), (∃ Hq697 : (Option Addr), (∃ Dq698 : Nat, (∃ Ee699 : Nat, (([(Wa [(Ws O x.1.1 C), (Ws A x.2 D), (Ws H x.4 E)]), (Wp b0 0), (Wp b1 0), (Wp b677 0), (Wu []), (Wu []), (Ws (Ad b543 0) 0 0), (Wp b0 1), (Ws A x.2 D), (Ws ao679 x.2 cap680), (Ws (Ad b542 0) 0 0), (Wp b0 2), (Ws H x.4 E), (Ws ao682 x.4 cap683), (Wa [Wn, (Ws ao679 x.2 cap680), (Ws ao682 x.4 cap683)]), (Wp b0 0), (Ws O x.1.1 C), (Wi ((x.1.1 : Nat) : Int)), (Wi 0), (Wu []), (Wu []), (Wu []), (Wu []), (Wu []), (Wu []), (Wu []), (Wu []), (Wu []), (Wu []), (Wu []), (Wu [])] = [(Wa [(Ws O x.1.1 C), (Ws A x.2 D), (Ws H x.4 E)]), (Wp bp693 0), (Wp br694 0), (Wp bo695 0), (Wu []), (Wu []), (Ws (Ad b543 0) 0 0), (Wp b0 1), (Ws A x.2 D), (Ws ao679 x.2 cap680), (Ws (Ad b542 0) 0 0), (Wp b0 2), (Ws H x.4 E), (Ws ao682 x.4 cap683), (Wa [Wn, (Ws ao679 x.2 cap680), (Ws ao682 x.4 cap683)]), (Wp b0 0), (Ws O685 x684.1.1 C688), (Wi ((x684.1.1 : Nat) : Int)), (Wi 0), (Wu []), (Wu []), (Wu []), (Wu []), (Wu []), (Wu []), (Wu []), (Wu []), (Wu []), (Wu []), (Wu []), (Wu [])] ∧
 ((SelS [(Hr false O 0 2 x.1.1 0 [(fun i700 => (Cs 3 (so i700) (x.1.2 i700) (sc i700))), (fun i701 => (Cb (x.1.4 i701)))]), (Hr false A 0 1 x.2 0 [(fun i702 => (Ci (x.3 i702)))]), (Hr false H 0 1 x.4 0 [(fun i703 => (Ci (x.5 i703)))]), (Ho false (symRows false 0 x.1 so (fun x704 => 0))), (Hc b0 33 [(Cs 0 O x.1.1 C), (Cs 1 A x.2 D), (Cs 2 H x.4 E)]), (Hc b1 33 [Cz, Cz, Cz]), Hd, Hd, (Hc b677 33 [Cz, (Cs 9 ao679 x.2 cap680), (Cs 10 ao682 x.4 cap683)]), (Hr true ao679 3 1 x.2 cap680 [(fun i705 => (Ci (x.3 i705)))]), (Hr true ao682 3 1 x.4 cap683 [(fun i706 => (Ci (x.5 i706)))])] [0, 1, 2, 3, 4, 5, 8, 1000000, 9, 10, 1000003] [(Hr false O685 0 2 x684.1.1 0 [(fun i707 => (Cs 3 (so691 i707) (x684.1.2 i707) (sc692 i707))), (fun i708 => (Cb (x684.1.4 i708)))]), (Hr false A686 0 1 x684.2 0 [(fun i709 => (Ci (x684.3 i709)))]), (Hr false H687 0 1 x684.4 0 [(fun i710 => (Ci (x684.5 i710)))]), (Ho false (symRows false 0 x684.1 so691 (fun x711 => 0))), (Hc bp693 33 [(Cs 0 O685 x684.1.1 C688), (Cs 1 A686 x684.2 D689), (Cs 2 H687 x684.4 E690)]), (Hc br694 33 [Cz, Cz, Cz]), (Hc bo695 33 [(Cs 7 (none : Option (Addr)) 0 0), (Cs 8 Aq696 x684.2 Dq698), (Cs 9 Hq697 x684.4 Ee699)]), (Hr true (none : Option (Addr)) 52 2 0 0 [(fun i712 => (Cs 10 (none : Option (Addr)) (x684.1.2 i712) 0)), (fun i713 => (Cb (x684.1.4 i713)))]), (Hr true Aq696 3 1 x684.2 Dq698 [(fun i714 => (Ci (x684.3 i714)))]), (Hr true Hq697 3 1 x684.4 Ee699 [(fun i715 => (Ci (x684.5 i715)))]), (Ho true (symRows true 3 (CD.mk 0 x684.1.2 x684.1.3 x684.1.4) (fun x716 => (none : Option (Addr))) (fun x717 => 0)))]) ∧
 (capA x684))) ∧
 (∀ g718 : (Nat →
 Value),
 (∀ kx719 : Int,
 (∀ Oq720 : (Option Addr),
 (∀ Cq721 : Nat,
 (∀ soq722 : (Nat →
 (Option Addr)),
 (∀ scq723 : (Nat →
 Nat),
 (bo695 = bo695 ∧
 (br694 = br694 ∧
 (br694 = br694 ∧
 (∃ Oq724 : (Option Addr), (∃ Aq725 : (Option Addr), (∃ Hq726 : (Option Addr), (∃ Cq727 : Nat, (∃ Dq728 : Nat, (∃ Ee729 : Nat, (∃ soq730 : (Nat →
 (Option Addr)), (∃ scq731 : (Nat →
 Nat), ((Wa [(Ws Oq720 x684.1.1 Cq721), (Ws Aq696 x684.2 Dq698), (Ws Hq697 x684.4 Ee699)]) = (Wa [(Ws Oq724 x.1.1 Cq727), (Ws Aq725 x.2 Dq728), (Ws Hq726 x.4 Ee729)]) ∧
 (SelS [(Hr false O685 0 2 x684.1.1 0 [(fun i732 => (Cs 3 (so691 i732) (x684.1.2 i732) (sc692 i732))), (fun i733 => (Cb (x684.1.4 i733)))]), (Hr false A686 0 1 x684.2 0 [(fun i734 => (Ci (x684.3 i734)))]), (Hr false H687 0 1 x684.4 0 [(fun i735 => (Ci (x684.5 i735)))]), (Ho false (symRows false 0 x684.1 so691 (fun x736 => 0))), (Hc bp693 33 [(Cs 0 O685 x684.1.1 C688), (Cs 1 A686 x684.2 D689), (Cs 2 H687 x684.4 E690)]), (Hc br694 33 [(Cs 7 Oq720 x684.1.1 Cq721), (Cs 8 Aq696 x684.2 Dq698), (Cs 9 Hq697 x684.4 Ee699)]), (Hc bo695 33 [(Cs 7 Oq720 x684.1.1 Cq721), (Cs 8 Aq696 x684.2 Dq698), (Cs 9 Hq697 x684.4 Ee699)]), (Hr true Oq720 52 2 x684.1.1 Cq721 [(fun i737 => (Cs 10 (soq722 i737) (x684.1.2 i737) (scq723 i737))), (fun i738 => (Cb (x684.1.4 i738)))]), (Hr true Aq696 3 1 x684.2 Dq698 [(fun i739 => (Ci (x684.3 i739)))]), (Hr true Hq697 3 1 x684.4 Ee699 [(fun i740 => (Ci (x684.5 i740)))]), (Ho true (symRows true 3 (CD.mk x684.1.1 x684.1.2 x684.1.3 x684.1.4) soq722 scq723))] [7, 8, 9, 10] [(Hr true Oq724 52 2 x.1.1 Cq727 [(fun i741 => (Cs 3 (soq730 i741) (x.1.2 i741) (scq731 i741))), (fun i742 => (Cb (x.1.4 i742)))]), (Hr true Aq725 3 1 x.2 Dq728 [(fun i743 => (Ci (x.3 i743)))]), (Hr true Hq726 3 1 x.4 Ee729 [(fun i744 => (Ci (x.5 i744)))]), (Ho true (symRows true 3 x.1 soq730 scq731))])))))))))))))))))))))))))))))))))))))))))))))))))))) ∧
 (∀ b745 : Nat,
 (True ∧
 (∀ b746 : Nat,
 (True ∧
 ((b746 = b746 ∧
 ((A = A ∧
 x.2 = x.2) ∧
 ((∀ i747 : Nat,
 true = true) ∧
 (apC 0 x.2 8)))) ∧
 (∀ ao748 : (Option Addr),
 (∀ cap749 : Nat,
 (True ∧
 ((b542 = b542 ∧
 ((H = H ∧
 x.4 = x.4) ∧
 ((∀ i750 : Nat,
 true = true) ∧
 (apC 0 x.4 8)))) ∧
 (∀ ao751 : (Option Addr),
 (∀ cap752 : Nat,
 (True ∧
 (b745 = b745 ∧
 (True ∧
 (b0 = b0 ∧
 (∃ x753 : AD, (∃ O754 : (Option Addr), (∃ A755 : (Option Addr), (∃ H756 : (Option Addr), (∃ C757 : Nat, (∃ D758 : Nat, (∃ E759 : Nat, (∃ so760 : (Nat →
 (Option Addr)), (∃ sc761 : (Nat →
 Nat), (∃ bp762 : Nat, (∃ br763 : Nat, (∃ bo764 : Nat, (∃ Aq765 : (Option Addr), (∃ Hq766 : (Option Addr), (∃ Dq767 : Nat, (∃ Ee768 : Nat, (([(Wa [(Ws O x.1.1 C), (Ws A x.2 D), (Ws H x.4 E)]), (Wp b0 0), (Wp b1 0), (Wp b745 0), (Wu []), (Wu []), (Ws (Ad b746 0) 0 0), (Wp b0 1), (Ws A x.2 D), (Ws ao748 x.2 cap749), (Ws (Ad b542 0) 0 0), (Wp b0 2), (Ws H x.4 E), (Ws ao751 x.4 cap752), (Wa [Wn, (Ws ao748 x.2 cap749), (Ws ao751 x.4 cap752)]), (Wp b0 0), (Ws O x.1.1 C), (Wi ((x.1.1 : Nat) : Int)), (Wi 0), (Wu []), (Wu []), (Wu []), (Wu []), (Wu []), (Wu []), (Wu []), (Wu []), (Wu []), (Wu []), (Wu []), (Wu [])] = [(Wa [(Ws O x.1.1 C), (Ws A x.2 D), (Ws H x.4 E)]), (Wp bp762 0), (Wp br763 0), (Wp bo764 0), (Wu []), (Wu []), (Ws (Ad b746 0) 0 0), (Wp b0 1), (Ws A x.2 D), (Ws ao748 x.2 cap749), (Ws (Ad b542 0) 0 0), (Wp b0 2), (Ws H x.4 E), (Ws ao751 x.4 cap752), (Wa [Wn, (Ws ao748 x.2 cap749), (Ws ao751 x.4 cap752)]), (Wp b0 0), (Ws O754 x753.1.1 C757), (Wi ((x753.1.1 : Nat) : Int)), (Wi 0), (Wu []), (Wu []), (Wu []), (Wu []), (Wu []), (Wu []), (Wu []), (Wu []), (Wu []), (Wu []), (Wu []), (Wu [])] ∧
 ((SelS [(Hr false O 0 2 x.1.1 0 [(fun i769 => (Cs 3 (so i769) (x.1.2 i769) (sc i769))), (fun i770 => (Cb (x.1.4 i770)))]), (Hr false A 0 1 x.2 0 [(fun i771 => (Ci (x.3 i771)))]), (Hr false H 0 1 x.4 0 [(fun i772 => (Ci (x.5 i772)))]), (Ho false (symRows false 0 x.1 so (fun x773 => 0))), (Hc b0 33 [(Cs 0 O x.1.1 C), (Cs 1 A x.2 D), (Cs 2 H x.4 E)]), (Hc b1 33 [Cz, Cz, Cz]), Hd, (Hc b745 33 [Cz, (Cs 9 ao748 x.2 cap749), (Cs 10 ao751 x.4 cap752)]), Hd, (Hr true ao748 3 1 x.2 cap749 [(fun i774 => (Ci (x.3 i774)))]), (Hr true ao751 3 1 x.4 cap752 [(fun i775 => (Ci (x.5 i775)))])] [0, 1, 2, 3, 4, 5, 7, 1000000, 9, 10, 1000003] [(Hr false O754 0 2 x753.1.1 0 [(fun i776 => (Cs 3 (so760 i776) (x753.1.2 i776) (sc761 i776))), (fun i777 => (Cb (x753.1.4 i777)))]), (Hr false A755 0 1 x753.2 0 [(fun i778 => (Ci (x753.3 i778)))]), (Hr false H756 0 1 x753.4 0 [(fun i779 => (Ci (x753.5 i779)))]), (Ho false (symRows false 0 x753.1 so760 (fun x780 => 0))), (Hc bp762 33 [(Cs 0 O754 x753.1.1 C757), (Cs 1 A755 x753.2 D758), (Cs 2 H756 x753.4 E759)]), (Hc br763 33 [Cz, Cz, Cz]), (Hc bo764 33 [(Cs 7 (none : Option (Addr)) 0 0), (Cs 8 Aq765 x753.2 Dq767), (Cs 9 Hq766 x753.4 Ee768)]), (Hr true (none : Option (Addr)) 52 2 0 0 [(fun i781 => (Cs 10 (none : Option (Addr)) (x753.1.2 i781) 0)), (fun i782 => (Cb (x753.1.4 i782)))]), (Hr true Aq765 3 1 x753.2 Dq767 [(fun i783 => (Ci (x753.3 i783)))]), (Hr true Hq766 3 1 x753.4 Ee768 [(fun i784 => (Ci (x753.5 i784)))]), (Ho true (symRows true 3 (CD.mk 0 x753.1.2 x753.1.3 x753.1.4) (fun x785 => (none : Option (Addr))) (fun x786 => 0)))]) ∧
 (capA x753))) ∧
 (∀ g787 : (Nat →
 Value),
 (∀ kx788 : Int,
 (∀ Oq789 : (Option Addr),
 (∀ Cq790 : Nat,
 (∀ soq791 : (Nat →
 (Option Addr)),
 (∀ scq792 : (Nat →
 Nat),
 (bo764 = bo764 ∧
 (br763 = br763 ∧
 (br763 = br763 ∧
 (∃ Oq793 : (Option Addr), (∃ Aq794 : (Option Addr), (∃ Hq795 : (Option Addr), (∃ Cq796 : Nat, (∃ Dq797 : Nat, (∃ Ee798 : Nat, (∃ soq799 : (Nat →
 (Option Addr)), (∃ scq800 : (Nat →
 Nat), ((Wa [(Ws Oq789 x753.1.1 Cq790), (Ws Aq765 x753.2 Dq767), (Ws Hq766 x753.4 Ee768)]) = (Wa [(Ws Oq793 x.1.1 Cq796), (Ws Aq794 x.2 Dq797), (Ws Hq795 x.4 Ee798)]) ∧
 (SelS [(Hr false O754 0 2 x753.1.1 0 [(fun i801 => (Cs 3 (so760 i801) (x753.1.2 i801) (sc761 i801))), (fun i802 => (Cb (x753.1.4 i802)))]), (Hr false A755 0 1 x753.2 0 [(fun i803 => (Ci (x753.3 i803)))]), (Hr false H756 0 1 x753.4 0 [(fun i804 => (Ci (x753.5 i804)))]), (Ho false (symRows false 0 x753.1 so760 (fun x805 => 0))), (Hc bp762 33 [(Cs 0 O754 x753.1.1 C757), (Cs 1 A755 x753.2 D758), (Cs 2 H756 x753.4 E759)]), (Hc br763 33 [(Cs 7 Oq789 x753.1.1 Cq790), (Cs 8 Aq765 x753.2 Dq767), (Cs 9 Hq766 x753.4 Ee768)]), (Hc bo764 33 [(Cs 7 Oq789 x753.1.1 Cq790), (Cs 8 Aq765 x753.2 Dq767), (Cs 9 Hq766 x753.4 Ee768)]), (Hr true Oq789 52 2 x753.1.1 Cq790 [(fun i806 => (Cs 10 (soq791 i806) (x753.1.2 i806) (scq792 i806))), (fun i807 => (Cb (x753.1.4 i807)))]), (Hr true Aq765 3 1 x753.2 Dq767 [(fun i808 => (Ci (x753.3 i808)))]), (Hr true Hq766 3 1 x753.4 Ee768 [(fun i809 => (Ci (x753.5 i809)))]), (Ho true (symRows true 3 (CD.mk x753.1.1 x753.1.2 x753.1.3 x753.1.4) soq791 scq792))] [7, 8, 9, 10] [(Hr true Oq793 52 2 x.1.1 Cq796 [(fun i810 => (Cs 3 (soq799 i810) (x.1.2 i810) (scq800 i810))), (fun i811 => (Cb (x.1.4 i811)))]), (Hr true Aq794 3 1 x.2 Dq797 [(fun i812 => (Ci (x.3 i812)))]), (Hr true Hq795 3 1 x.4 Ee798 [(fun i813 => (Ci (x.5 i813)))]), (Ho true (symRows true 3 x.1 soq799 scq800))])))))))))))))))))))))))))))))))))))))))))))))))))))))) ∧
 (∀ b814 : Nat,
 (True ∧
 ((∀ b815 : Nat,
 (True ∧
 (((b815 = b815 ∧
 ((A = A ∧
 x.2 = x.2) ∧
 ((∀ i816 : Nat,
 true = true) ∧
 (apC 0 x.2 8)))) ∧
 (∀ ao817 : (Option Addr),
 (∀ cap818 : Nat,
 (True ∧
 (∀ b819 : Nat,
 (True ∧
 ((b819 = b819 ∧
 ((H = H ∧
 x.4 = x.4) ∧
 ((∀ i820 : Nat,
 true = true) ∧
 (apC 0 x.4 8)))) ∧
 (∀ ao821 : (Option Addr),
 (∀ cap822 : Nat,
 (True ∧
 (b814 = b814 ∧
 (True ∧
 (b0 = b0 ∧
 (∃ x823 : AD, (∃ O824 : (Option Addr), (∃ A825 : (Option Addr), (∃ H826 : (Option Addr), (∃ C827 : Nat, (∃ D828 : Nat, (∃ E829 : Nat, (∃ so830 : (Nat →
 (Option Addr)), (∃ sc831 : (Nat →
 Nat), (∃ bp832 : Nat, (∃ br833 : Nat, (∃ bo834 : Nat, (∃ Aq835 : (Option Addr), (∃ Hq836 : (Option Addr), (∃ Dq837 : Nat, (∃ Ee838 : Nat, (([(Wa [(Ws O x.1.1 C), (Ws A x.2 D), (Ws H x.4 E)]), (Wp b0 0), (Wp b1 0), (Wp b814 0), (Wu []), (Wu []), (Ws (Ad b815 0) 0 0), (Wp b0 1), (Ws A x.2 D), (Ws ao817 x.2 cap818), (Ws (Ad b819 0) 0 0), (Wp b0 2), (Ws H x.4 E), (Ws ao821 x.4 cap822), (Wa [Wn, (Ws ao817 x.2 cap818), (Ws ao821 x.4 cap822)]), (Wp b0 0), (Ws O x.1.1 C), (Wi ((x.1.1 : Nat) : Int)), (Wi 0), (Wu []), (Wu []), (Wu []), (Wu []), (Wu []), (Wu []), (Wu []), (Wu []), (Wu []), (Wu []), (Wu []), (Wu [])] = [(Wa [(Ws O x.1.1 C), (Ws A x.2 D), (Ws H x.4 E)]), (Wp bp832 0), (Wp br833 0), (Wp bo834 0), (Wu []), (Wu []), (Ws (Ad b815 0) 0 0), (Wp b0 1), (Ws A x.2 D), (Ws ao817 x.2 cap818), (Ws (Ad b819 0) 0 0), (Wp b0 2), (Ws H x.4 E), (Ws ao821 x.4 cap822), (Wa [Wn, (Ws ao817 x.2 cap818), (Ws ao821 x.4 cap822)]), (Wp b0 0), (Ws O824 x823.1.1 C827), (Wi ((x823.1.1 : Nat) : Int)), (Wi 0), (Wu []), (Wu []), (Wu []), (Wu []), (Wu []), (Wu []), (Wu []), (Wu []), (Wu []), (Wu []), (Wu []), (Wu [])] ∧
 ((SelS [(Hr false O 0 2 x.1.1 0 [(fun i839 => (Cs 3 (so i839) (x.1.2 i839) (sc i839))), (fun i840 => (Cb (x.1.4 i840)))]), (Hr false A 0 1 x.2 0 [(fun i841 => (Ci (x.3 i841)))]), (Hr false H 0 1 x.4 0 [(fun i842 => (Ci (x.5 i842)))]), (Ho false (symRows false 0 x.1 so (fun x843 => 0))), (Hc b0 33 [(Cs 0 O x.1.1 C), (Cs 1 A x.2 D), (Cs 2 H x.4 E)]), (Hc b1 33 [Cz, Cz, Cz]), (Hc b814 33 [Cz, (Cs 8 ao817 x.2 cap818), (Cs 10 ao821 x.4 cap822)]), Hd, (Hr true ao817 3 1 x.2 cap818 [(fun i844 => (Ci (x.3 i844)))]), Hd, (Hr true ao821 3 1 x.4 cap822 [(fun i845 => (Ci (x.5 i845)))])] [0, 1, 2, 3, 4, 5, 6, 1000000, 8, 10, 1000003] [(Hr false O824 0 2 x823.1.1 0 [(fun i846 => (Cs 3 (so830 i846) (x823.1.2 i846) (sc831 i846))), (fun i847 => (Cb (x823.1.4 i847)))]), (Hr false A825 0 1 x823.2 0 [(fun i848 => (Ci (x823.3 i848)))]), (Hr false H826 0 1 x823.4 0 [(fun i849 => (Ci (x823.5 i849)))]), (Ho false (symRows false 0 x823.1 so830 (fun x850 => 0))), (Hc bp832 33 [(Cs 0 O824 x823.1.1 C827), (Cs 1 A825 x823.2 D828), (Cs 2 H826 x823.4 E829)]), (Hc br833 33 [Cz, Cz, Cz]), (Hc bo834 33 [(Cs 7 (none : Option (Addr)) 0 0), (Cs 8 Aq835 x823.2 Dq837), (Cs 9 Hq836 x823.4 Ee838)]), (Hr true (none : Option (Addr)) 52 2 0 0 [(fun i851 => (Cs 10 (none : Option (Addr)) (x823.1.2 i851) 0)), (fun i852 => (Cb (x823.1.4 i852)))]), (Hr true Aq835 3 1 x823.2 Dq837 [(fun i853 => (Ci (x823.3 i853)))]), (Hr true Hq836 3 1 x823.4 Ee838 [(fun i854 => (Ci (x823.5 i854)))]), (Ho true (symRows true 3 (CD.mk 0 x823.1.2 x823.1.3 x823.1.4) (fun x855 => (none : Option (Addr))) (fun x856 => 0)))]) ∧
 (capA x823))) ∧
 (∀ g857 : (Nat →
 Value),
 (∀ kx858 : Int,
 (∀ Oq859 : (Option Addr),
 (∀ Cq860 : Nat,
 (∀ soq861 : (Nat →
 (Option Addr)),
 (∀ scq862 : (Nat →
 Nat),
 (bo834 = bo834 ∧
 (br833 = br833 ∧
 (br833 = br833 ∧
 (∃ Oq863 : (Option Addr), (∃ Aq864 : (Option Addr), (∃ Hq865 : (Option Addr), (∃ Cq866 : Nat, (∃ Dq867 : Nat, (∃ Ee868 : Nat, (∃ soq869 : (Nat →
 (Option Addr)), (∃ scq870 : (Nat →
 Nat), ((Wa [(Ws Oq859 x823.1.1 Cq860), (Ws Aq835 x823.2 Dq837), (Ws Hq836 x823.4 Ee838)]) = (Wa [(Ws Oq863 x.1.1 Cq866), (Ws Aq864 x.2 Dq867), (Ws Hq865 x.4 Ee868)]) ∧
 (SelS [(Hr false O824 0 2 x823.1.1 0 [(fun i871 => (Cs 3 (so830 i871) (x823.1.2 i871) (sc831 i871))), (fun i872 => (Cb (x823.1.4 i872)))]), (Hr false A825 0 1 x823.2 0 [(fun i873 => (Ci (x823.3 i873)))]), (Hr false H826 0 1 x823.4 0 [(fun i874 => (Ci (x823.5 i874)))]), (Ho false (symRows false 0 x823.1 so830 (fun x875 => 0))), (Hc bp832 33 [(Cs 0 O824 x823.1.1 C827), (Cs 1 A825 x823.2 D828), (Cs 2 H826 x823.4 E829)]), (Hc br833 33 [(Cs 7 Oq859 x823.1.1 Cq860), (Cs 8 Aq835 x823.2 Dq837), (Cs 9 Hq836 x823.4 Ee838)]), (Hc bo834 33 [(Cs 7 Oq859 x823.1.1 Cq860), (Cs 8 Aq835 x823.2 Dq837), (Cs 9 Hq836 x823.4 Ee838)]), (Hr true Oq859 52 2 x823.1.1 Cq860 [(fun i876 => (Cs 10 (soq861 i876) (x823.1.2 i876) (scq862 i876))), (fun i877 => (Cb (x823.1.4 i877)))]), (Hr true Aq835 3 1 x823.2 Dq837 [(fun i878 => (Ci (x823.3 i878)))]), (Hr true Hq836 3 1 x823.4 Ee838 [(fun i879 => (Ci (x823.5 i879)))]), (Ho true (symRows true 3 (CD.mk x823.1.1 x823.1.2 x823.1.3 x823.1.4) soq861 scq862))] [7, 8, 9, 10] [(Hr true Oq863 52 2 x.1.1 Cq866 [(fun i880 => (Cs 3 (soq869 i880) (x.1.2 i880) (scq870 i880))), (fun i881 => (Cb (x.1.4 i881)))]), (Hr true Aq864 3 1 x.2 Dq867 [(fun i882 => (Ci (x.3 i882)))]), (Hr true Hq865 3 1 x.4 Ee868 [(fun i883 => (Ci (x.5 i883)))]), (Ho true (symRows true 3 x.1 soq869 scq870))]))))))))))))))))))))))))))))))))))))))))))))))))) ∧
 (∀ b884 : Nat,
 (True ∧
 ((b815 = b815 ∧
 ((A = A ∧
 x.2 = x.2) ∧
 ((∀ i885 : Nat,
 true = true) ∧
 (apC 0 x.2 8)))) ∧
 (∀ ao886 : (Option Addr),
 (∀ cap887 : Nat,
 (True ∧
 ((b884 = b884 ∧
 ((H = H ∧
 x.4 = x.4) ∧
 ((∀ i888 : Nat,
 true = true) ∧
 (apC 0 x.4 8)))) ∧
 (∀ ao889 : (Option Addr),
 (∀ cap890 : Nat,
 (True ∧
 (b814 = b814 ∧
 (True ∧
 (b0 = b0 ∧
 (∃ x891 : AD, (∃ O892 : (Option Addr), (∃ A893 : (Option Addr), (∃ H894 : (Option Addr), (∃ C895 : Nat, (∃ D896 : Nat, (∃ E897 : Nat, (∃ so898 : (Nat →
 (Option Addr)), (∃ sc899 : (Nat →
 Nat), (∃ bp900 : Nat, (∃ br901 : Nat, (∃ bo902 : Nat, (∃ Aq903 : (Option Addr), (∃ Hq904 : (Option Addr), (∃ Dq905 : Nat, (∃ Ee906 : Nat, (([(Wa [(Ws O x.1.1 C), (Ws A x.2 D), (Ws H x.4 E)]), (Wp b0 0), (Wp b1 0), (Wp b814 0), (Wu []), (Wu []), (Ws (Ad b815 0) 0 0), (Wp b0 1), (Ws A x.2 D), (Ws ao886 x.2 cap887), (Ws (Ad b884 0) 0 0), (Wp b0 2), (Ws H x.4 E), (Ws ao889 x.4 cap890), (Wa [Wn, (Ws ao886 x.2 cap887), (Ws ao889 x.4 cap890)]), (Wp b0 0), (Ws O x.1.1 C), (Wi ((x.1.1 : Nat) : Int)), (Wi 0), (Wu []), (Wu []), (Wu []), (Wu []), (Wu []), (Wu []), (Wu []), (Wu []), (Wu []), (Wu []), (Wu []), (Wu [])] = [(Wa [(Ws O x.1.1 C), (Ws A x.2 D), (Ws H x.4 E)]), (Wp bp900 0), (Wp br901 0), (Wp bo902 0), (Wu []), (Wu []), (Ws (Ad b815 0) 0 0), (Wp b0 1), (Ws A x.2 D), (Ws ao886 x.2 cap887), (Ws (Ad b884 0) 0 0), (Wp b0 2), (Ws H x.4 E), (Ws ao889 x.4 cap890), (Wa [Wn, (Ws ao886 x.2 cap887), (Ws ao889 x.4 cap890)]), (Wp b0 0), (Ws O892 x891.1.1 C895), (Wi ((x891.1.1 : Nat) : Int)), (Wi 0), (Wu []), (Wu []), (Wu []), (Wu []), (Wu []), (Wu []), (Wu []), (Wu []), (Wu []), (Wu []), (Wu []), (Wu [])] ∧
 ((SelS [(Hr false O 0 2 x.1.1 0 [(fun i907 => (Cs 3 (so i907) (x.1.2 i907) (sc i907))), (fun i908 => (Cb (x.1.4 i908)))]), (Hr false A 0 1 x.2 0 [(fun i909 => (Ci (x.3 i909)))]), (Hr false H 0 1 x.4 0 [(fun i910 => (Ci (x.5 i910)))]), (Ho false (symRows false 0 x.1 so (fun x911 => 0))), (Hc b0 33 [(Cs 0 O x.1.1 C), (Cs 1 A x.2 D), (Cs 2 H x.4 E)]), (Hc b1 33 [Cz, Cz, Cz]), (Hc b814 33 [Cz, (Cs 9 ao886 x.2 cap887), (Cs 10 ao889 x.4 cap890)]), Hd, Hd, (Hr true ao886 3 1 x.2 cap887 [(fun i912 => (Ci (x.3 i912)))]), (Hr true ao889 3 1 x.4 cap890 [(fun i913 => (Ci (x.5 i913)))])] [0, 1, 2, 3, 4, 5, 6, 1000000, 9, 10, 1000003] [(Hr false O892 0 2 x891.1.1 0 [(fun i914 => (Cs 3 (so898 i914) (x891.1.2 i914) (sc899 i914))), (fun i915 => (Cb (x891.1.4 i915)))]), (Hr false A893 0 1 x891.2 0 [(fun i916 => (Ci (x891.3 i916)))]), (Hr false H894 0 1 x891.4 0 [(fun i917 => (Ci (x891.5 i917)))]), (Ho false (symRows false 0 x891.1 so898 (fun x918 => 0))), (Hc bp900 33 [(Cs 0 O892 x891.1.1 C895), (Cs 1 A893 x891.2 D896), (Cs 2 H894 x891.4 E897)]), (Hc br901 33 [Cz, Cz, Cz]), (Hc bo902 33 [(Cs 7 (none : Option (Addr)) 0 0), (Cs 8 Aq903 x891.2 Dq905), (Cs 9 Hq904 x891.4 Ee906)]), (Hr true (none : Option (Addr)) 52 2 0 0 [(fun i919 => (Cs 10 (none : Option (Addr)) (x891.1.2 i919) 0)), (fun i920 => (Cb (x891.1.4 i920)))]), (Hr true Aq903 3 1 x891.2 Dq905 [(fun i921 => (Ci (x891.3 i921)))]), (Hr true Hq904 3 1 x891.4 Ee906 [(fun i922 => (Ci (x891.5 i922)))]), (Ho true (symRows true 3 (CD.mk 0 x891.1.2 x891.1.3 x891.1.4) (fun x923 => (none : Option (Addr))) (fun x924 => 0)))]) ∧
 (capA x891))) ∧
 (∀ g925 : (Nat →
 Value),
 (∀ kx926 : Int,
 (∀ Oq927 : (Option Addr),
 (∀ Cq928 : Nat,
 (∀ soq929 : (Nat →
 (Option Addr)),
 (∀ scq930 : (Nat →
 Nat),
 (bo902 = bo902 ∧
 (br901 = br901 ∧
 (br901 = br901 ∧
 (∃ Oq931 : (Option Addr), (∃ Aq932 : (Option Addr), (∃ Hq933 : (Option Addr), (∃ Cq934 : Nat, (∃ Dq935 : Nat, (∃ Ee936 : Nat, (∃ soq937 : (Nat →
 (Option Addr)), (∃ scq938 : (Nat →
 Nat), ((Wa [(Ws Oq927 x891.1.1 Cq928), (Ws Aq903 x891.2 Dq905), (Ws Hq904 x891.4 Ee906)]) = (Wa [(Ws Oq931 x.1.1 Cq934), (Ws Aq932 x.2 Dq935), (Ws Hq933 x.4 Ee936)]) ∧
 (SelS [(Hr false O892 0 2 x891.1.1 0 [(fun i939 => (Cs 3 (so898 i939) (x891.1.2 i939) (sc899 i939))), (fun i940 => (Cb (x891.1.4 i940)))]), (Hr false A893 0 1 x891.2 0 [(fun i941 => (Ci (x891.3 i941)))]), (Hr false H894 0 1 x891.4 0 [(fun i942 => (Ci (x891.5 i942)))]), (Ho false (symRows false 0 x891.1 so898 (fun x943 => 0))), (Hc bp900 33 [(Cs 0 O892 x891.1.1 C895), (Cs 1 A893 x891.2 D896), (Cs 2 H894 x891.4 E897)]), (Hc br901 33 [(Cs 7 Oq927 x891.1.1 Cq928), (Cs 8 Aq903 x891.2 Dq905), (Cs 9 Hq904 x891.4 Ee906)]), (Hc bo902 33 [(Cs 7 Oq927 x891.1.1 Cq928), (Cs 8 Aq903 x891.2 Dq905), (Cs 9 Hq904 x891.4 Ee906)]), (Hr true Oq927 52 2 x891.1.1 Cq928 [(fun i944 => (Cs 10 (soq929 i944) (x891.1.2 i944) (scq930 i944))), (fun i945 => (Cb (x891.1.4 i945)))]), (Hr true Aq903 3 1 x891.2 Dq905 [(fun i946 => (Ci (x891.3 i946)))]), (Hr true Hq904 3 1 x891.4 Ee906 [(fun i947 => (Ci (x891.5 i947)))]), (Ho true (symRows true 3 (CD.mk x891.1.1 x891.1.2 x891.1.3 x891.1.4) soq929 scq930))] [7, 8, 9, 10] [(Hr true Oq931 52 2 x.1.1 Cq934 [(fun i948 => (Cs 3 (soq937 i948) (x.1.2 i948) (scq938 i948))), (fun i949 => (Cb (x.1.4 i949)))]), (Hr true Aq932 3 1 x.2 Dq935 [(fun i950 => (Ci (x.3 i950)))]), (Hr true Hq933 3 1 x.4 Ee936 [(fun i951 => (Ci (x.5 i951)))]), (Ho true (symRows true 3 x.1 soq937 scq938))])))))))))))))))))))))))))))))))))))))))))))))))))))) ∧
 (∀ b952 : Nat,
 (True ∧
 (∀ b953 : Nat,
 (True ∧
 ((b953 = b953 ∧
 ((A = A ∧
 x.2 = x.2) ∧
 ((∀ i954 : Nat,
 true = true) ∧
 (apC 0 x.2 8)))) ∧
 (∀ ao955 : (Option Addr),
 (∀ cap956 : Nat,
 (True ∧
 ((b952 = b952 ∧
 ((H = H ∧
 x.4 = x.4) ∧
 ((∀ i957 : Nat,
 true = true) ∧
 (apC 0 x.4 8)))) ∧
 (∀ ao958 : (Option Addr),
 (∀ cap959 : Nat,
 (True ∧
 (b814 = b814 ∧
 (True ∧
 (b0 = b0 ∧
 (∃ x960 : AD, (∃ O961 : (Option Addr), (∃ A962 : (Option Addr), (∃ H963 : (Option Addr), (∃ C964 : Nat, (∃ D965 : Nat, (∃ E966 : Nat, (∃ so967 : (Nat →
 (Option Addr)), (∃ sc968 : (Nat →
 Nat), (∃ bp969 : Nat, (∃ br970 : Nat, (∃ bo971 : Nat, (∃ Aq972 : (Option Addr), (∃ Hq973 : (Option Addr), (∃ Dq974 : Nat, (∃ Ee975 : Nat, (([(Wa [(Ws O x.1.1 C), (Ws A x.2 D), (Ws H x.4 E)]), (Wp b0 0), (Wp b1 0), (Wp b814 0), (Wu []), (Wu []), (Ws (Ad b953 0) 0 0), (Wp b0 1), (Ws A x.2 D), (Ws ao955 x.2 cap956), (Ws (Ad b952 0) 0 0), (Wp b0 2), (Ws H x.4 E), (Ws ao958 x.4 cap959), (Wa [Wn, (Ws ao955 x.2 cap956), (Ws ao958 x.4 cap959)]), (Wp b0 0), (Ws O x.1.1 C), (Wi ((x.1.1 : Nat) : Int)), (Wi 0), (Wu []), (Wu []), (Wu []), (Wu []), (Wu []), (Wu []), (Wu []), (Wu []), (Wu []), (Wu []), (Wu []), (Wu [])] = [(Wa [(Ws O x.1.1 C), (Ws A x.2 D), (Ws H x.4 E)]), (Wp bp969 0), (Wp br970 0), (Wp bo971 0), (Wu []), (Wu []), (Ws (Ad b953 0) 0 0), (Wp b0 1), (Ws A x.2 D), (Ws ao955 x.2 cap956), (Ws (Ad b952 0) 0 0), (Wp b0 2), (Ws H x.4 E), (Ws ao958 x.4 cap959), (Wa [Wn, (Ws ao955 x.2 cap956), (Ws ao958 x.4 cap959)]), (Wp b0 0), (Ws O961 x960.1.1 C964), (Wi ((x960.1.1 : Nat) : Int)), (Wi 0), (Wu []), (Wu []), (Wu []), (Wu []), (Wu []), (Wu []), (Wu []), (Wu []), (Wu []), (Wu []), (Wu []), (Wu [])] ∧
 ((SelS [(Hr false O 0 2 x.1.1 0 [(fun i976 => (Cs 3 (so i976) (x.1.2 i976) (sc i976))), (fun i977 => (Cb (x.1.4 i977)))]), (Hr false A 0 1 x.2 0 [(fun i978 => (Ci (x.3 i978)))]), (Hr false H 0 1 x.4 0 [(fun i979 => (Ci (x.5 i979)))]), (Ho false (symRows false 0 x.1 so (fun x980 => 0))), (Hc b0 33 [(Cs 0 O x.1.1 C), (Cs 1 A x.2 D), (Cs 2 H x.4 E)]), (Hc b1 33 [Cz, Cz, Cz]), (Hc b814 33 [Cz, (Cs 9 ao955 x.2 cap956), (Cs 10 ao958 x.4 cap959)]), Hd, Hd, (Hr true ao955 3 1 x.2 cap956 [(fun i981 => (Ci (x.3 i981)))]), (Hr true ao958 3 1 x.4 cap959 [(fun i982 => (Ci (x.5 i982)))])] [0, 1, 2, 3, 4, 5, 6, 1000000, 9, 10, 1000003] [(Hr false O961 0 2 x960.1.1 0 [(fun i983 => (Cs 3 (so967 i983) (x960.1.2 i983) (sc968 i983))), (fun i984 => (Cb (x960.1.4 i984)))]), (Hr false A962 0 1 x960.2 0 [(fun i985 => (Ci (x960.3 i985)))]), (Hr false H963 0 1 x960.4 0 [(fun i986 => (Ci (x960.5 i986)))]), (Ho false (symRows false 0 x960.1 so967 (fun x987 => 0))), (Hc bp969 33 [(Cs 0 O961 x960.1.1 C964), (Cs 1 A962 x960.2 D965), (Cs 2 H963 x960.4 E966)]), (Hc br970 33 [Cz, Cz, Cz]), (Hc bo971 33 [(Cs 7 (none : Option (Addr)) 0 0), (Cs 8 Aq972 x960.2 Dq974), (Cs 9 Hq973 x960.4 Ee975)]), (Hr true (none : Option (Addr)) 52 2 0 0 [(fun i988 => (Cs 10 (none : Option (Addr)) (x960.1.2 i988) 0)), (fun i989 => (Cb (x960.1.4 i989)))]), (Hr true Aq972 3 1 x960.2 Dq974 [(fun i990 => (Ci (x960.3 i990)))]), (Hr true Hq973 3 1 x960.4 Ee975 [(fun i991 => (Ci (x960.5 i991)))]), (Ho true (symRows true 3 (CD.mk 0 x960.1.2 x960.1.3 x960.1.4) (fun x992 => (none : Option (Addr))) (fun x993 => 0)))]) ∧
 (capA x960))) ∧
 (∀ g994 : (Nat →
 Value),
 (∀ kx995 : Int,
 (∀ Oq996 : (Option Addr),
 (∀ Cq997 : Nat,
 (∀ soq998 : (Nat →
 (Option Addr)),
 (∀ scq999 : (Nat →
 Nat),
 (bo971 = bo971 ∧
 (br970 = br970 ∧
 (br970 = br970 ∧
 (∃ Oq1000 : (Option Addr), (∃ Aq1001 : (Option Addr), (∃ Hq1002 : (Option Addr), (∃ Cq1003 : Nat, (∃ Dq1004 : Nat, (∃ Ee1005 : Nat, (∃ soq1006 : (Nat →
 (Option Addr)), (∃ scq1007 : (Nat →
 Nat), ((Wa [(Ws Oq996 x960.1.1 Cq997), (Ws Aq972 x960.2 Dq974), (Ws Hq973 x960.4 Ee975)]) = (Wa [(Ws Oq1000 x.1.1 Cq1003), (Ws Aq1001 x.2 Dq1004), (Ws Hq1002 x.4 Ee1005)]) ∧
 (SelS [(Hr false O961 0 2 x960.1.1 0 [(fun i1008 => (Cs 3 (so967 i1008) (x960.1.2 i1008) (sc968 i1008))), (fun i1009 => (Cb (x960.1.4 i1009)))]), (Hr false A962 0 1 x960.2 0 [(fun i1010 => (Ci (x960.3 i1010)))]), (Hr false H963 0 1 x960.4 0 [(fun i1011 => (Ci (x960.5 i1011)))]), (Ho false (symRows false 0 x960.1 so967 (fun x1012 => 0))), (Hc bp969 33 [(Cs 0 O961 x960.1.1 C964), (Cs 1 A962 x960.2 D965), (Cs 2 H963 x960.4 E966)]), (Hc br970 33 [(Cs 7 Oq996 x960.1.1 Cq997), (Cs 8 Aq972 x960.2 Dq974), (Cs 9 Hq973 x960.4 Ee975)]), (Hc bo971 33 [(Cs 7 Oq996 x960.1.1 Cq997), (Cs 8 Aq972 x960.2 Dq974), (Cs 9 Hq973 x960.4 Ee975)]), (Hr true Oq996 52 2 x960.1.1 Cq997 [(fun i1013 => (Cs 10 (soq998 i1013) (x960.1.2 i1013) (scq999 i1013))), (fun i1014 => (Cb (x960.1.4 i1014)))]), (Hr true Aq972 3 1 x960.2 Dq974 [(fun i1015 => (Ci (x960.3 i1015)))]), (Hr true Hq973 3 1 x960.4 Ee975 [(fun i1016 => (Ci (x960.5 i1016)))]), (Ho true (symRows true 3 (CD.mk x960.1.1 x960.1.2 x960.1.3 x960.1.4) soq998 scq999))] [7, 8, 9, 10] [(Hr true Oq1000 52 2 x.1.1 Cq1003 [(fun i1017 => (Cs 3 (soq1006 i1017) (x.1.2 i1017) (scq1007 i1017))), (fun i1018 => (Cb (x.1.4 i1018)))]), (Hr true Aq1001 3 1 x.2 Dq1004 [(fun i1019 => (Ci (x.3 i1019)))]), (Hr true Hq1002 3 1 x.4 Ee1005 [(fun i1020 => (Ci (x.5 i1020)))]), (Ho true (symRows true 3 x.1 soq1006 scq1007))]))))))))))))))))))))))))))))))))))))))))))))))))))))))))))))) := by kernel_rfl
theorem cpaI_any (x : AD) (O A H : Option Addr) (C D E : Nat) (so : Nat → Option Addr) (sc : Nat → Nat) (w : World) (hA : SeenA w x O A H so sc) (hcap : capA x) : Calls Try.prog 53 #[arrV x O A H C D E] w fun e w' => ∃ (Oq Aq Hq : Option Addr) (Cq Dq Ee : Nat) (soq : Nat → Option Addr) (scq : Nat → Nat), e = .returned (arrV x Oq Aq Hq Cq Dq Ee) ∧ HS ⟨w, fun _ => False⟩ (arrO 0 x Oq Aq Hq Cq Dq Ee soq scq) w' := by
  refine fn_ok mixed (E := { L := [(3, scpI)] }) trivial Try.func53 (one_loop (by kernel_rfl) (by kernel_rfl) (cpI_ok _)) (@Eq.mpr _ _ (cpaI_T x O A H C D E so sc) ?_) (HS.seenAll (fun _ => False) _ (hA.all 0 seenC_nil)) (fun v ch' w' ⟨Oq, Aq, Hq, Cq, Dq, Ee, soq, scq, hv, hc⟩ hs => ⟨Oq, Aq, Hq, Cq, Dq, Ee, soq, scq, by rw [hv], hc.hs hs⟩)
  clear hA
  have hcap2 := hcap
  obtain ⟨c1, c2, c3, c4⟩ := hcap2
  repeat' (first
    | with_reducible exact rfl
    | exact True.intro
    | with_reducible assumption
    | (refine ⟨x, O, A, H, C, D, E, so, sc, _, _, _, _, _, _, _, ⟨rfl, ?_, hcap⟩, ?_⟩)
    | exact (by refine ⟨?_, rfl⟩; repeat' (first | exact True.intro | exact symRows_push | exact rfl | refine And.intro ?_ ?_ | (intro i hi; show _ = _; with_reducible rfl) | (intro i hi; show _ = _; rfl) | exact symRows_nil | (intro i hi; show _ = _; simp only [SC.den]; split <;> rfl)))
    | refine And.intro ?_ ?_
    | apply Exists.intro
    | (intro h; replace h := of_decide_eq_true h; first | (exfalso; omega) | skip)
    | (intro h; replace h := of_decide_eq_false h; first | (exfalso; omega) | skip)
    | (intro i hi; with_reducible exact rfl)
    | intro _
    | omega
    | exact rfl)
theorem cpaS_T (x : AD) (O A H : Option Addr) (C D E : Nat) (so : Nat → Option Addr) (sc : Nat → Nat) : (exFn Try.prog { L := [(3, scpS)] } 400 Try.f45 ([.a (arrS 0 x O A H C D E)]) (arrR 0 x O A H so sc) (fun v ch => ∃ (Oq Aq Hq : Option Addr) (Cq Dq Ee : Nat) (soq : Nat → Option Addr) (scq : Nat → Nat), v.den = arrV x Oq Aq Hq Cq Dq Ee ∧ SelS ch (idsArr v ch) (arrO 0 x Oq Aq Hq Cq Dq Ee soq scq))) = (
  (∀ b0 : Nat,
 (∀ b1 : Nat,
 (b0 = b0 ∧
 (b0 = b0 ∧
 ((∀ b2 : Nat,
 (True ∧
 (((b2 = b2 ∧
 ((A = A ∧
 x.2 = x.2) ∧
 ((∀ i3 : Nat,
 true = true) ∧
 (apC 0 x.2 8)))) ∧
 (∀ ao4 : (Option Addr),
 (∀ cap5 : Nat,
 (True ∧
 ((∀ b6 : Nat,
 (True ∧
 (((b6 = b6 ∧
 ((H = H ∧
 x.4 = x.4) ∧
 ((∀ i7 : Nat,
 true = true) ∧
 (apC 0 x.4 8)))) ∧
 (∀ ao8 : (Option Addr),
 (∀ cap9 : Nat,
 (True ∧
 (∀ b10 : Nat,
 (True ∧
 (b10 = b10 ∧
 (True ∧
 (∃ x11 : AD, (∃ O12 : (Option Addr), (∃ A13 : (Option Addr), (∃ H14 : (Option Addr), (∃ C15 : Nat, (∃ D16 : Nat, (∃ E17 : Nat, (∃ so18 : (Nat →
 (Option Addr)), (∃ sc19 : (Nat →
 Nat), (∃ bp20 : Nat, (∃ br21 : Nat, (∃ bo22 : Nat, (∃ Aq23 : (Option Addr), (∃ Hq24 : (Option Addr), (∃ Dq25 : Nat, (∃ Ee26 : Nat, (([(Wa [(Ws O x.1.1 C), (Ws A x.2 D), (Ws H x.4 E)]), (Wp b0 0), (Wp b1 0), (Wp b10 0), (Wi 0), (Ws (Ad b2 0) 0 0), (Wp b0 1), (Ws A x.2 D), (Ws ao4 x.2 cap5), (Ws (Ad b6 0) 0 0), (Wp b0 2), (Ws H x.4 E), (Ws ao8 x.4 cap9), (Wa [Wn, (Ws ao4 x.2 cap5), (Ws ao8 x.4 cap9)]), (Wu []), (Wu []), (Wu []), (Wu []), (Wu []), (Wu []), (Wu []), (Wu []), (Wu []), (Wu []), (Wu []), (Wu []), (Wu []), (Wu []), (Wu []), (Wu []), (Wu []), (Wu []), (Wu [])] = [(Wa [(Ws O x.1.1 C), (Ws A x.2 D), (Ws H x.4 E)]), (Wp bp20 0), (Wp br21 0), (Wp bo22 0), (Wi 0), (Ws (Ad b2 0) 0 0), (Wp b0 1), (Ws A x.2 D), (Ws ao4 x.2 cap5), (Ws (Ad b6 0) 0 0), (Wp b0 2), (Ws H x.4 E), (Ws ao8 x.4 cap9), (Wa [Wn, (Ws ao4 x.2 cap5), (Ws ao8 x.4 cap9)]), (Wu []), (Wu []), (Wu []), (Wu []), (Wu []), (Wu []), (Wu []), (Wu []), (Wu []), (Wu []), (Wu []), (Wu []), (Wu []), (Wu []), (Wu []), (Wu []), (Wu []), (Wu []), (Wu [])] ∧
 ((SelS [(Hr false O 0 2 x.1.1 0 [(fun i27 => (Cs 3 (so i27) (x.1.2 i27) (sc i27))), (fun i28 => (Cb (x.1.4 i28)))]), (Hr false A 0 1 x.2 0 [(fun i29 => (Ci (x.3 i29)))]), (Hr false H 0 1 x.4 0 [(fun i30 => (Ci (x.5 i30)))]), (Ho false (symRows false 0 x.1 so (fun x31 => 0))), (Hc b0 33 [(Cs 0 O x.1.1 C), (Cs 1 A x.2 D), (Cs 2 H x.4 E)]), (Hc b1 33 [Cz, Cz, Cz]), Hd, (Hr true ao4 3 1 x.2 cap5 [(fun i32 => (Ci (x.3 i32)))]), Hd, (Hr true ao8 3 1 x.4 cap9 [(fun i33 => (Ci (x.5 i33)))]), (Hc b10 33 [Cz, (Cs 7 ao4 x.2 cap5), (Cs 9 ao8 x.4 cap9)])] [0, 1, 2, 3, 4, 5, 10, 1000000, 7, 9, 1000003] [(Hr false O12 0 2 x11.1.1 0 [(fun i34 => (Cs 3 (so18 i34) (x11.1.2 i34) (sc19 i34))), (fun i35 => (Cb (x11.1.4 i35)))]), (Hr false A13 0 1 x11.2 0 [(fun i36 => (Ci (x11.3 i36)))]), (Hr false H14 0 1 x11.4 0 [(fun i37 => (Ci (x11.5 i37)))]), (Ho false (symRows false 0 x11.1 so18 (fun x38 => 0))), (Hc bp20 33 [(Cs 0 O12 x11.1.1 C15), (Cs 1 A13 x11.2 D16), (Cs 2 H14 x11.4 E17)]), (Hc br21 33 [Cz, Cz, Cz]), (Hc bo22 33 [(Cs 7 (none : Option (Addr)) 0 0), (Cs 8 Aq23 x11.2 Dq25), (Cs 9 Hq24 x11.4 Ee26)]), (Hr true (none : Option (Addr)) 52 2 0 0 [(fun i39 => (Cs 10 (none : Option (Addr)) (x11.1.2 i39) 0)), (fun i40 => (Cb (x11.1.4 i40)))]), (Hr true Aq23 3 1 x11.2 Dq25 [(fun i41 => (Ci (x11.3 i41)))]), (Hr true Hq24 3 1 x11.4 Ee26 [(fun i42 => (Ci (x11.5 i42)))]), (Ho true (symRows true 3 (CD.mk 0 x11.1.2 x11.1.3 x11.1.4) (fun x43 => (none : Option (Addr))) (fun x44 => 0)))]) ∧
 (capA x11))) ∧
 (∀ g45 : (Nat →
 Value),
 (∀ kx46 : Int,
 (∀ Oq47 : (Option Addr),
 (∀ Cq48 : Nat,
 (∀ soq49 : (Nat →
 (Option Addr)),
 (∀ scq50 : (Nat →
 Nat),
 (bo22 = bo22 ∧
 (br21 = br21 ∧
 (br21 = br21 ∧
 (∃ Oq51 : (Option Addr), (∃ Aq52 : (Option Addr), (∃ Hq53 : (Option Addr), (∃ Cq54 : Nat, (∃ Dq55 : Nat, (∃ Ee56 : Nat, (∃ soq57 : (Nat →
 (Option Addr)), (∃ scq58 : (Nat →
 Nat), ((Wa [(Ws Oq47 x11.1.1 Cq48), (Ws Aq23 x11.2 Dq25), (Ws Hq24 x11.4 Ee26)]) = (Wa [(Ws Oq51 x.1.1 Cq54), (Ws Aq52 x.2 Dq55), (Ws Hq53 x.4 Ee56)]) ∧
 (SelS [(Hr false O12 0 2 x11.1.1 0 [(fun i59 => (Cs 3 (so18 i59) (x11.1.2 i59) (sc19 i59))), (fun i60 => (Cb (x11.1.4 i60)))]), (Hr false A13 0 1 x11.2 0 [(fun i61 => (Ci (x11.3 i61)))]), (Hr false H14 0 1 x11.4 0 [(fun i62 => (Ci (x11.5 i62)))]), (Ho false (symRows false 0 x11.1 so18 (fun x63 => 0))), (Hc bp20 33 [(Cs 0 O12 x11.1.1 C15), (Cs 1 A13 x11.2 D16), (Cs 2 H14 x11.4 E17)]), (Hc br21 33 [(Cs 7 Oq47 x11.1.1 Cq48), (Cs 8 Aq23 x11.2 Dq25), (Cs 9 Hq24 x11.4 Ee26)]), (Hc bo22 33 [(Cs 7 Oq47 x11.1.1 Cq48), (Cs 8 Aq23 x11.2 Dq25), (Cs 9 Hq24 x11.4 Ee26)]), (Hr true Oq47 52 2 x11.1.1 Cq48 [(fun i64 => (Cs 10 (soq49 i64) (x11.1.2 i64) (scq50 i64))), (fun i65 => (Cb (x11.1.4 i65)))]), (Hr true Aq23 3 1 x11.2 Dq25 [(fun i66 => (Ci (x11.3 i66)))]), (Hr true Hq24 3 1 x11.4 Ee26 [(fun i67 => (Ci (x11.5 i67)))]), (Ho true (symRows true 3 (CD.mk x11.1.1 x11.1.2 x11.1.3 x11.1.4) soq49 scq50))] [7, 8, 9, 10] [(Hr true Oq51 52 2 x.1.1 Cq54 [(fun i68 => (Cs 3 (soq57 i68) (x.1.2 i68) (scq58 i68))), (fun i69 => (Cb (x.1.4 i69)))]), (Hr true Aq52 3 1 x.2 Dq55 [(fun i70 => (Ci (x.3 i70)))]), (Hr true Hq53 3 1 x.4 Ee56 [(fun i71 => (Ci (x.5 i71)))]), (Ho true (symRows true 3 x.1 soq57 scq58))])))))))))))))))))))))))))))))))))))))))))))) ∧
 (∀ b72 : Nat,
 (True ∧
 ((b6 = b6 ∧
 ((H = H ∧
 x.4 = x.4) ∧
 ((∀ i73 : Nat,
 true = true) ∧
 (apC 0 x.4 8)))) ∧
 (∀ ao74 : (Option Addr),
 (∀ cap75 : Nat,
 (True ∧
 (b72 = b72 ∧
 (True ∧
 (∃ x76 : AD, (∃ O77 : (Option Addr), (∃ A78 : (Option Addr), (∃ H79 : (Option Addr), (∃ C80 : Nat, (∃ D81 : Nat, (∃ E82 : Nat, (∃ so83 : (Nat →
 (Option Addr)), (∃ sc84 : (Nat →
 Nat), (∃ bp85 : Nat, (∃ br86 : Nat, (∃ bo87 : Nat, (∃ Aq88 : (Option Addr), (∃ Hq89 : (Option Addr), (∃ Dq90 : Nat, (∃ Ee91 : Nat, (([(Wa [(Ws O x.1.1 C), (Ws A x.2 D), (Ws H x.4 E)]), (Wp b0 0), (Wp b1 0), (Wp b72 0), (Wi 0), (Ws (Ad b2 0) 0 0), (Wp b0 1), (Ws A x.2 D), (Ws ao4 x.2 cap5), (Ws (Ad b6 0) 0 0), (Wp b0 2), (Ws H x.4 E), (Ws ao74 x.4 cap75), (Wa [Wn, (Ws ao4 x.2 cap5), (Ws ao74 x.4 cap75)]), (Wu []), (Wu []), (Wu []), (Wu []), (Wu []), (Wu []), (Wu []), (Wu []), (Wu []), (Wu []), (Wu []), (Wu []), (Wu []), (Wu []), (Wu []), (Wu []), (Wu []), (Wu []), (Wu [])] = [(Wa [(Ws O x.1.1 C), (Ws A x.2 D), (Ws H x.4 E)]), (Wp bp85 0), (Wp br86 0), (Wp bo87 0), (Wi 0), (Ws (Ad b2 0) 0 0), (Wp b0 1), (Ws A x.2 D), (Ws ao4 x.2 cap5), (Ws (Ad b6 0) 0 0), (Wp b0 2), (Ws H x.4 E), (Ws ao74 x.4 cap75), (Wa [Wn, (Ws ao4 x.2 cap5), (Ws ao74 x.4 cap75)]), (Wu []), (Wu []), (Wu []), (Wu []), (Wu []), (Wu []), (Wu []), (Wu []), (Wu []), (Wu []), (Wu []), (Wu []), (Wu []), (Wu []), (Wu []), (Wu []), (Wu []), (Wu []), (Wu [])] ∧
 ((SelS [(Hr false O 0 2 x.1.1 0 [(fun i92 => (Cs 3 (so i92) (x.1.2 i92) (sc i92))), (fun i93 => (Cb (x.1.4 i93)))]), (Hr false A 0 1 x.2 0 [(fun i94 => (Ci (x.3 i94)))]), (Hr false H 0 1 x.4 0 [(fun i95 => (Ci (x.5 i95)))]), (Ho false (symRows false 0 x.1 so (fun x96 => 0))), (Hc b0 33 [(Cs 0 O x.1.1 C), (Cs 1 A x.2 D), (Cs 2 H x.4 E)]), (Hc b1 33 [Cz, Cz, Cz]), Hd, (Hr true ao4 3 1 x.2 cap5 [(fun i97 => (Ci (x.3 i97)))]), Hd, (Hc b72 33 [Cz, (Cs 7 ao4 x.2 cap5), (Cs 10 ao74 x.4 cap75)]), (Hr true ao74 3 1 x.4 cap75 [(fun i98 => (Ci (x.5 i98)))])] [0, 1, 2, 3, 4, 5, 9, 1000000, 7, 10, 1000003] [(Hr false O77 0 2 x76.1.1 0 [(fun i99 => (Cs 3 (so83 i99) (x76.1.2 i99) (sc84 i99))), (fun i100 => (Cb (x76.1.4 i100)))]), (Hr false A78 0 1 x76.2 0 [(fun i101 => (Ci (x76.3 i101)))]), (Hr false H79 0 1 x76.4 0 [(fun i102 => (Ci (x76.5 i102)))]), (Ho false (symRows false 0 x76.1 so83 (fun x103 => 0))), (Hc bp85 33 [(Cs 0 O77 x76.1.1 C80), (Cs 1 A78 x76.2 D81), (Cs 2 H79 x76.4 E82)]), (Hc br86 33 [Cz, Cz, Cz]), (Hc bo87 33 [(Cs 7 (none : Option (Addr)) 0 0), (Cs 8 Aq88 x76.2 Dq90), (Cs 9 Hq89 x76.4 Ee91)]), (Hr true (none : Option (Addr)) 52 2 0 0 [(fun i104 => (Cs 10 (none : Option (Addr)) (x76.1.2 i104) 0)), (fun i105 => (Cb (x76.1.4 i105)))]), (Hr true Aq88 3 1 x76.2 Dq90 [(fun i106 => (Ci (x76.3 i106)))]), (Hr true Hq89 3 1 x76.4 Ee91 [(fun i107 => (Ci (x76.5 i107)))]), (Ho true (symRows true 3 (CD.mk 0 x76.1.2 x76.1.3 x76.1.4) (fun x108 => (none : Option (Addr))) (fun x109 => 0)))]) ∧
 (capA x76))) ∧
 (∀ g110 : (Nat →
 Value),
 (∀ kx111 : Int,
 (∀ Oq112 : (Option Addr),
 (∀ Cq113 : Nat,
 (∀ soq114 : (Nat →
 (Option Addr)),
 (∀ scq115 : (Nat →
 Nat),
 (bo87 = bo87 ∧
 (br86 = br86 ∧
 (br86 = br86 ∧
 (∃ Oq116 : (Option Addr), (∃ Aq117 : (Option Addr), (∃ Hq118 : (Option Addr), (∃ Cq119 : Nat, (∃ Dq120 : Nat, (∃ Ee121 : Nat, (∃ soq122 : (Nat →
 (Option Addr)), (∃ scq123 : (Nat →
 Nat), ((Wa [(Ws Oq112 x76.1.1 Cq113), (Ws Aq88 x76.2 Dq90), (Ws Hq89 x76.4 Ee91)]) = (Wa [(Ws Oq116 x.1.1 Cq119), (Ws Aq117 x.2 Dq120), (Ws Hq118 x.4 Ee121)]) ∧
 (SelS [(Hr false O77 0 2 x76.1.1 0 [(fun i124 => (Cs 3 (so83 i124) (x76.1.2 i124) (sc84 i124))), (fun i125 => (Cb (x76.1.4 i125)))]), (Hr false A78 0 1 x76.2 0 [(fun i126 => (Ci (x76.3 i126)))]), (Hr false H79 0 1 x76.4 0 [(fun i127 => (Ci (x76.5 i127)))]), (Ho false (symRows false 0 x76.1 so83 (fun x128 => 0))), (Hc bp85 33 [(Cs 0 O77 x76.1.1 C80), (Cs 1 A78 x76.2 D81), (Cs 2 H79 x76.4 E82)]), (Hc br86 33 [(Cs 7 Oq112 x76.1.1 Cq113), (Cs 8 Aq88 x76.2 Dq90), (Cs 9 Hq89 x76.4 Ee91)]), (Hc bo87 33 [(Cs 7 Oq112 x76.1.1 Cq113), (Cs 8 Aq88 x76.2 Dq90), (Cs 9 Hq89 x76.4 Ee91)]), (Hr true Oq112 52 2 x76.1.1 Cq113 [(fun i129 => (Cs 10 (soq114 i129) (x76.1.2 i129) (scq115 i129))), (fun i130 => (Cb (x76.1.4 i130)))]), (Hr true Aq88 3 1 x76.2 Dq90 [(fun i131 => (Ci (x76.3 i131)))]), (Hr true Hq89 3 1 x76.4 Ee91 [(fun i132 => (Ci (x76.5 i132)))]), (Ho true (symRows true 3 (CD.mk x76.1.1 x76.1.2 x76.1.3 x76.1.4) soq114 scq115))] [7, 8, 9, 10] [(Hr true Oq116 52 2 x.1.1 Cq119 [(fun i133 => (Cs 3 (soq122 i133) (x.1.2 i133) (scq123 i133))), (fun i134 => (Cb (x.1.4 i134)))]), (Hr true Aq117 3 1 x.2 Dq120 [(fun i135 => (Ci (x.3 i135)))]), (Hr true Hq118 3 1 x.4 Ee121 [(fun i136 => (Ci (x.5 i136)))]), (Ho true (symRows true 3 x.1 soq122 scq123))]))))))))))))))))))))))))))))))))))))))))))))))) ∧
 (∀ b137 : Nat,
 (True ∧
 (∀ b138 : Nat,
 (True ∧
 ((b138 = b138 ∧
 ((H = H ∧
 x.4 = x.4) ∧
 ((∀ i139 : Nat,
 true = true) ∧
 (apC 0 x.4 8)))) ∧
 (∀ ao140 : (Option Addr),
 (∀ cap141 : Nat,
 (True ∧
 (b137 = b137 ∧
 (True ∧
 (∃ x142 : AD, (∃ O143 : (Option Addr), (∃ A144 : (Option Addr), (∃ H145 : (Option Addr), (∃ C146 : Nat, (∃ D147 : Nat, (∃ E148 : Nat, (∃ so149 : (Nat →
 (Option Addr)), (∃ sc150 : (Nat →
 Nat), (∃ bp151 : Nat, (∃ br152 : Nat, (∃ bo153 : Nat, (∃ Aq154 : (Option Addr), (∃ Hq155 : (Option Addr), (∃ Dq156 : Nat, (∃ Ee157 : Nat, (([(Wa [(Ws O x.1.1 C), (Ws A x.2 D), (Ws H x.4 E)]), (Wp b0 0), (Wp b1 0), (Wp b137 0), (Wi 0), (Ws (Ad b2 0) 0 0), (Wp b0 1), (Ws A x.2 D), (Ws ao4 x.2 cap5), (Ws (Ad b138 0) 0 0), (Wp b0 2), (Ws H x.4 E), (Ws ao140 x.4 cap141), (Wa [Wn, (Ws ao4 x.2 cap5), (Ws ao140 x.4 cap141)]), (Wu []), (Wu []), (Wu []), (Wu []), (Wu []), (Wu []), (Wu []), (Wu []), (Wu []), (Wu []), (Wu []), (Wu []), (Wu []), (Wu []), (Wu []), (Wu []), (Wu []), (Wu []), (Wu [])] = [(Wa [(Ws O x.1.1 C), (Ws A x.2 D), (Ws H x.4 E)]), (Wp bp151 0), (Wp br152 0), (Wp bo153 0), (Wi 0), (Ws (Ad b2 0) 0 0), (Wp b0 1), (Ws A x.2 D), (Ws ao4 x.2 cap5), (Ws (Ad b138 0) 0 0), (Wp b0 2), (Ws H x.4 E), (Ws ao140 x.4 cap141), (Wa [Wn, (Ws ao4 x.2 cap5), (Ws ao140 x.4 cap141)]), (Wu []), (Wu []), (Wu []), (Wu []), (Wu []), (Wu []), (Wu []), (Wu []), (Wu []), (Wu []), (Wu []), (Wu []), (Wu []), (Wu []), (Wu []), (Wu []), (Wu []), (Wu []), (Wu [])] ∧
 ((SelS [(Hr false O 0 2 x.1.1 0 [(fun i158 => (Cs 3 (so i158) (x.1.2 i158) (sc i158))), (fun i159 => (Cb (x.1.4 i159)))]), (Hr false A 0 1 x.2 0 [(fun i160 => (Ci (x.3 i160)))]), (Hr false H 0 1 x.4 0 [(fun i161 => (Ci (x.5 i161)))]), (Ho false (symRows false 0 x.1 so (fun x162 => 0))), (Hc b0 33 [(Cs 0 O x.1.1 C), (Cs 1 A x.2 D), (Cs 2 H x.4 E)]), (Hc b1 33 [Cz, Cz, Cz]), Hd, (Hr true ao4 3 1 x.2 cap5 [(fun i163 => (Ci (x.3 i163)))]), (Hc b137 33 [Cz, (Cs 7 ao4 x.2 cap5), (Cs 10 ao140 x.4 cap141)]), Hd, (Hr true ao140 3 1 x.4 cap141 [(fun i164 => (Ci (x.5 i164)))])] [0, 1, 2, 3, 4, 5, 8, 1000000, 7, 10, 1000003] [(Hr false O143 0 2 x142.1.1 0 [(fun i165 => (Cs 3 (so149 i165) (x142.1.2 i165) (sc150 i165))), (fun i166 => (Cb (x142.1.4 i166)))]), (Hr false A144 0 1 x142.2 0 [(fun i167 => (Ci (x142.3 i167)))]), (Hr false H145 0 1 x142.4 0 [(fun i168 => (Ci (x142.5 i168)))]), (Ho false (symRows false 0 x142.1 so149 (fun x169 => 0))), (Hc bp151 33 [(Cs 0 O143 x142.1.1 C146), (Cs 1 A144 x142.2 D147), (Cs 2 H145 x142.4 E148)]), (Hc br152 33 [Cz, Cz, Cz]), (Hc bo153 33 [(Cs 7 (none : Option (Addr)) 0 0), (Cs 8 Aq154 x142.2 Dq156), (Cs 9 Hq155 x142.4 Ee157)]), (Hr true (none : Option (Addr)) 52 2 0 0 [(fun i170 => (Cs 10 (none : Option (Addr)) (x142.1.2 i170) 0)), (fun i171 => (Cb (x142.1.4 i171)))]), (Hr true Aq154 3 1 x142.2 Dq156 [(fun i172 => (Ci (x142.3 i172)))]), (Hr true Hq155 3 1 x142.4 Ee157 [(fun i173 => (Ci (x142.5 i173)))]), (Ho true (symRows true 3 (CD.mk 0 x142.1.2 x142.1.3 x142.1.4) (fun x174 => (none : Option (Addr))) (fun x175 => 0)))]) ∧
 (capA x142))) ∧
 (∀ g176 : (Nat →
 Value),
 (∀ kx177 : Int,
 (∀ Oq178 : (Option Addr),
 (∀ Cq179 : Nat,
 (∀ soq180 : (Nat →
 (Option Addr)),
 (∀ scq181 : (Nat →
 Nat),
 (bo153 = bo153 ∧
 (br152 = br152 ∧
 (br152 = br152 ∧
 (∃ Oq182 : (Option Addr), (∃ Aq183 : (Option Addr), (∃ Hq184 : (Option Addr), (∃ Cq185 : Nat, (∃ Dq186 : Nat, (∃ Ee187 : Nat, (∃ soq188 : (Nat →
 (Option Addr)), (∃ scq189 : (Nat →
 Nat), ((Wa [(Ws Oq178 x142.1.1 Cq179), (Ws Aq154 x142.2 Dq156), (Ws Hq155 x142.4 Ee157)]) = (Wa [(Ws Oq182 x.1.1 Cq185), (Ws Aq183 x.2 Dq186), (Ws Hq184 x.4 Ee187)]) ∧
 (SelS [(Hr false O143 0 2 x142.1.1 0 [(fun i190 => (Cs 3 (so149 i190) (x142.1.2 i190) (sc150 i190))), (fun i191 => (Cb (x142.1.4 i191)))]), (Hr false A144 0 1 x142.2 0 [(fun i192 => (Ci (x142.3 i192)))]), (Hr false H145 0 1 x142.4 0 [(fun i193 => (Ci (x142.5 i193)))]), (Ho false (symRows false 0 x142.1 so149 (fun x194 => 0))), (Hc bp151 33 [(Cs 0 O143 x142.1.1 C146), (Cs 1 A144 x142.2 D147), (Cs 2 H145 x142.4 E148)]), (Hc br152 33 [(Cs 7 Oq178 x142.1.1 Cq179), (Cs 8 Aq154 x142.2 Dq156), (Cs 9 Hq155 x142.4 Ee157)]), (Hc bo153 33 [(Cs 7 Oq178 x142.1.1 Cq179), (Cs 8 Aq154 x142.2 Dq156), (Cs 9 Hq155 x142.4 Ee157)]), (Hr true Oq178 52 2 x142.1.1 Cq179 [(fun i195 => (Cs 10 (soq180 i195) (x142.1.2 i195) (scq181 i195))), (fun i196 => (Cb (x142.1.4 i196)))]), (Hr true Aq154 3 1 x142.2 Dq156 [(fun i197 => (Ci (x142.3 i197)))]), (Hr true Hq155 3 1 x142.4 Ee157 [(fun i198 => (Ci (x142.5 i198)))]), (Ho true (symRows true 3 (CD.mk x142.1.1 x142.1.2 x142.1.3 x142.1.4) soq180 scq181))] [7, 8, 9, 10] [(Hr true Oq182 52 2 x.1.1 Cq185 [(fun i199 => (Cs 3 (soq188 i199) (x.1.2 i199) (scq189 i199))), (fun i200 => (Cb (x.1.4 i200)))]), (Hr true Aq183 3 1 x.2 Dq186 [(fun i201 => (Ci (x.3 i201)))]), (Hr true Hq184 3 1 x.4 Ee187 [(fun i202 => (Ci (x.5 i202)))]), (Ho true (symRows true 3 x.1 soq188 scq189))]))))))))))))))))))))))))))))))))))))))))))))))))))) ∧
 ((∀ b203 : Nat,
 (True ∧
 (((b2 = b2 ∧
 ((A = A ∧
 x.2 = x.2) ∧
 ((∀ i204 : Nat,
 true = true) ∧
 (apC 0 x.2 8)))) ∧
 (∀ ao205 : (Option Addr),
 (∀ cap206 : Nat,
 (True ∧
 (((b203 = b203 ∧
 ((H = H ∧
 x.4 = x.4) ∧
 ((∀ i207 : Nat,
 true = true) ∧
 (apC 0 x.4 8)))) ∧
 (∀ ao208 : (Option Addr),
 (∀ cap209 : Nat,
 (True ∧
 (∀ b210 : Nat,
 (True ∧
 (b210 = b210 ∧
 (True ∧
 (∃ x211 : AD, (∃ O212 : (Option Addr), (∃ A213 : (Option Addr), (∃ H214 : (Option Addr), (∃ C215 : Nat, (∃ D216 : Nat, (∃ E217 : Nat, (∃ so218 : (Nat →
 (Option Addr)), (∃ sc219 : (Nat →
 Nat), (∃ bp220 : Nat, (∃ br221 : Nat, (∃ bo222 : Nat, (∃ Aq223 : (Option Addr), (∃ Hq224 : (Option Addr), (∃ Dq225 : Nat, (∃ Ee226 : Nat, (([(Wa [(Ws O x.1.1 C), (Ws A x.2 D), (Ws H x.4 E)]), (Wp b0 0), (Wp b1 0), (Wp b210 0), (Wi 0), (Ws (Ad b2 0) 0 0), (Wp b0 1), (Ws A x.2 D), (Ws ao205 x.2 cap206), (Ws (Ad b203 0) 0 0), (Wp b0 2), (Ws H x.4 E), (Ws ao208 x.4 cap209), (Wa [Wn, (Ws ao205 x.2 cap206), (Ws ao208 x.4 cap209)]), (Wu []), (Wu []), (Wu []), (Wu []), (Wu []), (Wu []), (Wu []), (Wu []), (Wu []), (Wu []), (Wu []), (Wu []), (Wu []), (Wu []), (Wu []), (Wu []), (Wu []), (Wu []), (Wu [])] = [(Wa [(Ws O x.1.1 C), (Ws A x.2 D), (Ws H x.4 E)]), (Wp bp220 0), (Wp br221 0), (Wp bo222 0), (Wi 0), (Ws (Ad b2 0) 0 0), (Wp b0 1), (Ws A x.2 D), (Ws ao205 x.2 cap206), (Ws (Ad b203 0) 0 0), (Wp b0 2), (Ws H x.4 E), (Ws ao208 x.4 cap209), (Wa [Wn, (Ws ao205 x.2 cap206), (Ws ao208 x.4 cap209)]), (Wu []), (Wu []), (Wu []), (Wu []), (Wu []), (Wu []), (Wu []), (Wu []), (Wu []), (Wu []), (Wu []), (Wu []), (Wu []), (Wu []), (Wu []), (Wu []), (Wu []), (Wu []), (Wu [])] ∧
 ((SelS [(Hr false O 0 2 x.1.1 0 [(fun i227 => (Cs 3 (so i227) (x.1.2 i227) (sc i227))), (fun i228 => (Cb (x.1.4 i228)))]), (Hr false A 0 1 x.2 0 [(fun i229 => (Ci (x.3 i229)))]), (Hr false H 0 1 x.4 0 [(fun i230 => (Ci (x.5 i230)))]), (Ho false (symRows false 0 x.1 so (fun x231 => 0))), (Hc b0 33 [(Cs 0 O x.1.1 C), (Cs 1 A x.2 D), (Cs 2 H x.4 E)]), (Hc b1 33 [Cz, Cz, Cz]), Hd, Hd, (Hr true ao205 3 1 x.2 cap206 [(fun i232 => (Ci (x.3 i232)))]), (Hr true ao208 3 1 x.4 cap209 [(fun i233 => (Ci (x.5 i233)))]), (Hc b210 33 [Cz, (Cs 8 ao205 x.2 cap206), (Cs 9 ao208 x.4 cap209)])] [0, 1, 2, 3, 4, 5, 10, 1000000, 8, 9, 1000003] [(Hr false O212 0 2 x211.1.1 0 [(fun i234 => (Cs 3 (so218 i234) (x211.1.2 i234) (sc219 i234))), (fun i235 => (Cb (x211.1.4 i235)))]), (Hr false A213 0 1 x211.2 0 [(fun i236 => (Ci (x211.3 i236)))]), (Hr false H214 0 1 x211.4 0 [(fun i237 => (Ci (x211.5 i237)))]), (Ho false (symRows false 0 x211.1 so218 (fun x238 => 0))), (Hc bp220 33 [(Cs 0 O212 x211.1.1 C215), (Cs 1 A213 x211.2 D216), (Cs 2 H214 x211.4 E217)]), (Hc br221 33 [Cz, Cz, Cz]), (Hc bo222 33 [(Cs 7 (none : Option (Addr)) 0 0), (Cs 8 Aq223 x211.2 Dq225), (Cs 9 Hq224 x211.4 Ee226)]), (Hr true (none : Option (Addr)) 52 2 0 0 [(fun i239 => (Cs 10 (none : Option (Addr)) (x211.1.2 i239) 0)), (fun i240 => (Cb (x211.1.4 i240)))]), (Hr true Aq223 3 1 x211.2 Dq225 [(fun i241 => (Ci (x211.3 i241)))]), (Hr true Hq224 3 1 x211.4 Ee226 [(fun i242 => (Ci (x211.5 i242)))]), (Ho true (symRows true 3 (CD.mk 0 x211.1.2 x211.1.3 x211.1.4) (fun x243 => (none : Option (Addr))) (fun x244 => 0)))]) ∧
 (capA x211))) ∧
 (∀ g245 : (Nat →
 Value),
 (∀ kx246 : Int,
 (∀ Oq247 : (Option Addr),
 (∀ Cq248 : Nat,
 (∀ soq249 : (Nat →
 (Option Addr)),
 (∀ scq250 : (Nat →
 Nat),
 (bo222 = bo222 ∧
 (br221 = br221 ∧
 (br221 = br221 ∧
 (∃ Oq251 : (Option Addr), (∃ Aq252 : (Option Addr), (∃ Hq253 : (Option Addr), (∃ Cq254 : Nat, (∃ Dq255 : Nat, (∃ Ee256 : Nat, (∃ soq257 : (Nat →
 (Option Addr)), (∃ scq258 : (Nat →
 Nat), ((Wa [(Ws Oq247 x211.1.1 Cq248), (Ws Aq223 x211.2 Dq225), (Ws Hq224 x211.4 Ee226)]) = (Wa [(Ws Oq251 x.1.1 Cq254), (Ws Aq252 x.2 Dq255), (Ws Hq253 x.4 Ee256)]) ∧
 (SelS [(Hr false O212 0 2 x211.1.1 0 [(fun i259 => (Cs 3 (so218 i259) (x211.1.2 i259) (sc219 i259))), (fun i260 => (Cb (x211.1.4 i260)))]), (Hr false A213 0 1 x211.2 0 [(fun i261 => (Ci (x211.3 i261)))]), (Hr false H214 0 1 x211.4 0 [(fun i262 => (Ci (x211.5 i262)))]), (Ho false (symRows false 0 x211.1 so218 (fun x263 => 0))), (Hc bp220 33 [(Cs 0 O212 x211.1.1 C215), (Cs 1 A213 x211.2 D216), (Cs 2 H214 x211.4 E217)]), (Hc br221 33 [(Cs 7 Oq247 x211.1.1 Cq248), (Cs 8 Aq223 x211.2 Dq225), (Cs 9 Hq224 x211.4 Ee226)]), (Hc bo222 33 [(Cs 7 Oq247 x211.1.1 Cq248), (Cs 8 Aq223 x211.2 Dq225), (Cs 9 Hq224 x211.4 Ee226)]), (Hr true Oq247 52 2 x211.1.1 Cq248 [(fun i264 => (Cs 10 (soq249 i264) (x211.1.2 i264) (scq250 i264))), (fun i265 => (Cb (x211.1.4 i265)))]), (Hr true Aq223 3 1 x211.2 Dq225 [(fun i266 => (Ci (x211.3 i266)))]), (Hr true Hq224 3 1 x211.4 Ee226 [(fun i267 => (Ci (x211.5 i267)))]), (Ho true (symRows true 3 (CD.mk x211.1.1 x211.1.2 x211.1.3 x211.1.4) soq249 scq250))] [7, 8, 9, 10] [(Hr true Oq251 52 2 x.1.1 Cq254 [(fun i268 => (Cs 3 (soq257 i268) (x.1.2 i268) (scq258 i268))), (fun i269 => (Cb (x.1.4 i269)))]), (Hr true Aq252 3 1 x.2 Dq255 [(fun i270 => (Ci (x.3 i270)))]), (Hr true Hq253 3 1 x.4 Ee256 [(fun i271 => (Ci (x.5 i271)))]), (Ho true (symRows true 3 x.1 soq257 scq258))])))))))))))))))))))))))))))))))))))))))))))) ∧
 (∀ b272 : Nat,
 (True ∧
 ((b203 = b203 ∧
 ((H = H ∧
 x.4 = x.4) ∧
 ((∀ i273 : Nat,
 true = true) ∧
 (apC 0 x.4 8)))) ∧
 (∀ ao274 : (Option Addr),
 (∀ cap275 : Nat,
 (True ∧
 (b272 = b272 ∧
 (True ∧
 (∃ x276 : AD, (∃ O277 : (Option Addr), (∃ A278 : (Option Addr), (∃ H279 : (Option Addr), (∃ C280 : Nat, (∃ D281 : Nat, (∃ E282 : Nat, (∃ so283 : (Nat →
 (Option Addr)), (∃ sc284 : (Nat →
 Nat), (∃ bp285 : Nat, (∃ br286 : Nat, (∃ bo287 : Nat, (∃ Aq288 : (Option Addr), (∃ Hq289 : (Option Addr), (∃ Dq290 : Nat, (∃ Ee291 : Nat, (([(Wa [(Ws O x.1.1 C), (Ws A x.2 D), (Ws H x.4 E)]), (Wp b0 0), (Wp b1 0), (Wp b272 0), (Wi 0), (Ws (Ad b2 0) 0 0), (Wp b0 1), (Ws A x.2 D), (Ws ao205 x.2 cap206), (Ws (Ad b203 0) 0 0), (Wp b0 2), (Ws H x.4 E), (Ws ao274 x.4 cap275), (Wa [Wn, (Ws ao205 x.2 cap206), (Ws ao274 x.4 cap275)]), (Wu []), (Wu []), (Wu []), (Wu []), (Wu []), (Wu []), (Wu []), (Wu []), (Wu []), (Wu []), (Wu []), (Wu []), (Wu []), (Wu []), (Wu []), (Wu []), (Wu []), (Wu []), (Wu [])] = [(Wa [(Ws O x.1.1 C), (Ws A x.2 D), (Ws H x.4 E)]), (Wp bp285 0), (Wp br286 0), (Wp bo287 0), (Wi 0), (Ws (Ad b2 0) 0 0), (Wp b0 1), (Ws A x.2 D), (Ws ao205 x.2 cap206), (Ws (Ad b203 0) 0 0), (Wp b0 2), (Ws H x.4 E), (Ws ao274 x.4 cap275), (Wa [Wn, (Ws ao205 x.2 cap206), (Ws ao274 x.4 cap275)]), (Wu []), (Wu []), (Wu []), (Wu []), (Wu []), (Wu []), (Wu []), (Wu []), (Wu []), (Wu []), (Wu []), (Wu []), (Wu []), (Wu []), (Wu []), (Wu []), (Wu []), (Wu []), (Wu [])] ∧
 ((SelS [(Hr false O 0 2 x.1.1 0 [(fun i292 => (Cs 3 (so i292) (x.1.2 i292) (sc i292))), (fun i293 => (Cb (x.1.4 i293)))]), (Hr false A 0 1 x.2 0 [(fun i294 => (Ci (x.3 i294)))]), (Hr false H 0 1 x.4 0 [(fun i295 => (Ci (x.5 i295)))]), (Ho false (symRows false 0 x.1 so (fun x296 => 0))), (Hc b0 33 [(Cs 0 O x.1.1 C), (Cs 1 A x.2 D), (Cs 2 H x.4 E)]), (Hc b1 33 [Cz, Cz, Cz]), Hd, Hd, (Hr true ao205 3 1 x.2 cap206 [(fun i297 => (Ci (x.3 i297)))]), (Hc b272 33 [Cz, (Cs 8 ao205 x.2 cap206), (Cs 10 ao274 x.4 cap275)]), (Hr true ao274 3 1 x.4 cap275 [(fun i298 => (Ci (x.5 i298)))])] [0, 1, 2, 3, 4, 5, 9, 1000000, 8, 10, 1000003] [(Hr false O277 0 2 x276.1.1 0 [(fun i299 => (Cs 3 (so283 i299) (x276.1.2 i299) (sc284 i299))), (fun i300 => (Cb (x276.1.4 i300)))]), (Hr false A278 0 1 x276.2 0 [(fun i301 => (Ci (x276.3 i301)))]), (Hr false H279 0 1 x276.4 0 [(fun i302 => (Ci (x276.5 i302)))]), (Ho false (symRows false 0 x276.1 so283 (fun x303 => 0))), (Hc bp285 33 [(Cs 0 O277 x276.1.1 C280), (Cs 1 A278 x276.2 D281), (Cs 2 H279 x276.4 E282)]), (Hc br286 33 [Cz, Cz, Cz]), (Hc bo287 33 [(Cs 7 (none : Option (Addr)) 0 0), (Cs 8 Aq288 x276.2 Dq290), (Cs 9 Hq289 x276.4 Ee291)]), (Hr true (none : Option (Addr)) 52 2 0 0 [(fun i304 => (Cs 10 (none : Option (Addr)) (x276.1.2 i304) 0)), (fun i305 => (Cb (x276.1.4 i305)))]), (Hr true Aq288 3 1 x276.2 Dq290 [(fun i306 => (Ci (x276.3 i306)))]), (Hr true Hq289 3 1 x276.4 Ee291 [(fun i307 => (Ci (x276.5 i307)))]), (Ho true (symRows true 3 (CD.mk 0 x276.1.2 x276.1.3 x276.1.4) (fun x308 => (none : Option (Addr))) (fun x309 => 0)))]) ∧
 (capA x276))) ∧
 (∀ g310 : (Nat →
 Value),
 (∀ kx311 : Int,
 (∀ Oq312 : (Option Addr),
 (∀ Cq313 : Nat,
 (∀ soq314 : (Nat →
 (Option Addr)),
 (∀ scq315 : (Nat →
 Nat),
 (bo287 = bo287 ∧
 (br286 = br286 ∧
 (br286 = br286 ∧
 (∃ Oq316 : (Option Addr), (∃ Aq317 : (Option Addr), (∃ Hq318 : (Option Addr), (∃ Cq319 : Nat, (∃ Dq320 : Nat, (∃ Ee321 : Nat, (∃ soq322 : (Nat →
 (Option Addr)), (∃ scq323 : (Nat →
 Nat), ((Wa [(Ws Oq312 x276.1.1 Cq313), (Ws Aq288 x276.2 Dq290), (Ws Hq289 x276.4 Ee291)]) = (Wa [(Ws Oq316 x.1.1 Cq319), (Ws Aq317 x.2 Dq320), (Ws Hq318 x.4 Ee321)]) ∧
 (SelS [(Hr false O277 0 2 x276.1.1 0 [(fun i324 => (Cs 3 (so283 i324) (x276.1.2 i324) (sc284 i324))), (fun i325 => (Cb (x276.1.4 i325)))]), (Hr false A278 0 1 x276.2 0 [(fun i326 => (Ci (x276.3 i326)))]), (Hr false H279 0 1 x276.4 0 [(fun i327 => (Ci (x276.5 i327)))]), (Ho false (symRows false 0 x276.1 so283 (fun x328 => 0))), (Hc bp285 33 [(Cs 0 O277 x276.1.1 C280), (Cs 1 A278 x276.2 D281), (Cs 2 H279 x276.4 E282)]), (Hc br286 33 [(Cs 7 Oq312 x276.1.1 Cq313), (Cs 8 Aq288 x276.2 Dq290), (Cs 9 Hq289 x276.4 Ee291)]), (Hc bo287 33 [(Cs 7 Oq312 x276.1.1 Cq313), (Cs 8 Aq288 x276.2 Dq290), (Cs 9 Hq289 x276.4 Ee291)]), (Hr true Oq312 52 2 x276.1.1 Cq313 [(fun i329 => (Cs 10 (soq314 i329) (x276.1.2 i329) (scq315 i329))), (fun i330 => (Cb (x276.1.4 i330)))]), (Hr true Aq288 3 1 x276.2 Dq290 [(fun i331 => (Ci (x276.3 i331)))]), (Hr true Hq289 3 1 x276.4 Ee291 [(fun i332 => (Ci (x276.5 i332)))]), (Ho true (symRows true 3 (CD.mk x276.1.1 x276.1.2 x276.1.3 x276.1.4) soq314 scq315))] [7, 8, 9, 10] [(Hr true Oq316 52 2 x.1.1 Cq319 [(fun i333 => (Cs 3 (soq322 i333) (x.1.2 i333) (scq323 i333))), (fun i334 => (Cb (x.1.4 i334)))]), (Hr true Aq317 3 1 x.2 Dq320 [(fun i335 => (Ci (x.3 i335)))]), (Hr true Hq318 3 1 x.4 Ee321 [(fun i336 => (Ci (x.5 i336)))]), (Ho true (symRows true 3 x.1 soq322 scq323))]))))))))))))))))))))))))))))))))))))))))))))))))) ∧
 (∀ b337 : Nat,
 (True ∧
 ((b2 = b2 ∧
 ((A = A ∧
 x.2 = x.2) ∧
 ((∀ i338 : Nat,
 true = true) ∧
 (apC 0 x.2 8)))) ∧
 (∀ ao339 : (Option Addr),
 (∀ cap340 : Nat,
 (True ∧
 ((b203 = b203 ∧
 ((H = H ∧
 x.4 = x.4) ∧
 ((∀ i341 : Nat,
 true = true) ∧
 (apC 0 x.4 8)))) ∧
 (∀ ao342 : (Option Addr),
 (∀ cap343 : Nat,
 (True ∧
 (b337 = b337 ∧
 (True ∧
 (∃ x344 : AD, (∃ O345 : (Option Addr), (∃ A346 : (Option Addr), (∃ H347 : (Option Addr), (∃ C348 : Nat, (∃ D349 : Nat, (∃ E350 : Nat, (∃ so351 : (Nat →
 (Option Addr)), (∃ sc352 : (Nat →
 Nat), (∃ bp353 : Nat, (∃ br354 : Nat, (∃ bo355 : Nat, (∃ Aq356 : (Option Addr), (∃ Hq357 : (Option Addr), (∃ Dq358 : Nat, (∃ Ee359 : Nat, (([(Wa [(Ws O x.1.1 C), (Ws A x.2 D), (Ws H x.4 E)]), (Wp b0 0), (Wp b1 0), (Wp b337 0), (Wi 0), (Ws (Ad b2 0) 0 0), (Wp b0 1), (Ws A x.2 D), (Ws ao339 x.2 cap340), (Ws (Ad b203 0) 0 0), (Wp b0 2), (Ws H x.4 E), (Ws ao342 x.4 cap343), (Wa [Wn, (Ws ao339 x.2 cap340), (Ws ao342 x.4 cap343)]), (Wu []), (Wu []), (Wu []), (Wu []), (Wu []), (Wu []), (Wu []), (Wu []), (Wu []), (Wu []), (Wu []), (Wu []), (Wu []), (Wu []), (Wu []), (Wu []), (Wu []), (Wu []), (Wu [])] = [(Wa [(Ws O x.1.1 C), (Ws A x.2 D), (Ws H x.4 E)]), (Wp bp353 0), (Wp br354 0), (Wp bo355 0), (Wi 0), (Ws (Ad b2 0) 0 0), (Wp b0 1), (Ws A x.2 D), (Ws ao339 x.2 cap340), (Ws (Ad b203 0) 0 0), (Wp b0 2), (Ws H x.4 E), (Ws ao342 x.4 cap343), (Wa [Wn, (Ws ao339 x.2 cap340), (Ws ao342 x.4 cap343)]), (Wu []), (Wu []), (Wu []), (Wu []), (Wu []), (Wu []), (Wu []), (Wu []), (Wu []), (Wu []), (Wu []), (Wu []), (Wu []), (Wu []), (Wu []), (Wu []), (Wu []), (Wu []), (Wu [])] ∧
 ((SelS [(Hr false O 0 2 x.1.1 0 [(fun i360 => (Cs 3 (so i360) (x.1.2 i360) (sc i360))), (fun i361 => (Cb (x.1.4 i361)))]), (Hr false A 0 1 x.2 0 [(fun i362 => (Ci (x.3 i362)))]), (Hr false H 0 1 x.4 0 [(fun i363 => (Ci (x.5 i363)))]), (Ho false (symRows false 0 x.1 so (fun x364 => 0))), (Hc b0 33 [(Cs 0 O x.1.1 C), (Cs 1 A x.2 D), (Cs 2 H x.4 E)]), (Hc b1 33 [Cz, Cz, Cz]), Hd, Hd, (Hc b337 33 [Cz, (Cs 9 ao339 x.2 cap340), (Cs 10 ao342 x.4 cap343)]), (Hr true ao339 3 1 x.2 cap340 [(fun i365 => (Ci (x.3 i365)))]), (Hr true ao342 3 1 x.4 cap343 [(fun i366 => (Ci (x.5 i366)))])] [0, 1, 2, 3, 4, 5, 8, 1000000, 9, 10, 1000003] [(Hr false O345 0 2 x344.1.1 0 [(fun i367 => (Cs 3 (so351 i367) (x344.1.2 i367) (sc352 i367))), (fun i368 => (Cb (x344.1.4 i368)))]), (Hr false A346 0 1 x344.2 0 [(fun i369 => (Ci (x344.3 i369)))]), (Hr false H347 0 1 x344.4 0 [(fun i370 => (Ci (x344.5 i370)))]), (Ho false (symRows false 0 x344.1 so351 (fun x371 => 0))), (Hc bp353 33 [(Cs 0 O345 x344.1.1 C348), (Cs 1 A346 x344.2 D349), (Cs 2 H347 x344.4 E350)]), (Hc br354 33 [Cz, Cz, Cz]), (Hc bo355 33 [(Cs 7 (none : Option (Addr)) 0 0), (Cs 8 Aq356 x344.2 Dq358), (Cs 9 Hq357 x344.4 Ee359)]), (Hr true (none : Option (Addr)) 52 2 0 0 [(fun i372 => (Cs 10 (none : Option (Addr)) (x344.1.2 i372) 0)), (fun i373 => (Cb (x344.1.4 i373)))]), (Hr true Aq356 3 1 x344.2 Dq358 [(fun i374 => (Ci (x344.3 i374)))]), (Hr true Hq357 3 1 x344.4 Ee359 [(fun i375 => (Ci (x344.5 i375)))]), (Ho true (symRows true 3 (CD.mk 0 x344.1.2 x344.1.3 x344.1.4) (fun x376 => (none : Option (Addr))) (fun x377 => 0)))]) ∧
 (capA x344))) ∧
 (∀ g378 : (Nat →
 Value),
 (∀ kx379 : Int,
 (∀ Oq380 : (Option Addr),
 (∀ Cq381 : Nat,
 (∀ soq382 : (Nat →
 (Option Addr)),
 (∀ scq383 : (Nat →
 Nat),
 (bo355 = bo355 ∧
 (br354 = br354 ∧
 (br354 = br354 ∧
 (∃ Oq384 : (Option Addr), (∃ Aq385 : (Option Addr), (∃ Hq386 : (Option Addr), (∃ Cq387 : Nat, (∃ Dq388 : Nat, (∃ Ee389 : Nat, (∃ soq390 : (Nat →
 (Option Addr)), (∃ scq391 : (Nat →
 Nat), ((Wa [(Ws Oq380 x344.1.1 Cq381), (Ws Aq356 x344.2 Dq358), (Ws Hq357 x344.4 Ee359)]) = (Wa [(Ws Oq384 x.1.1 Cq387), (Ws Aq385 x.2 Dq388), (Ws Hq386 x.4 Ee389)]) ∧
 (SelS [(Hr false O345 0 2 x344.1.1 0 [(fun i392 => (Cs 3 (so351 i392) (x344.1.2 i392) (sc352 i392))), (fun i393 => (Cb (x344.1.4 i393)))]), (Hr false A346 0 1 x344.2 0 [(fun i394 => (Ci (x344.3 i394)))]), (Hr false H347 0 1 x344.4 0 [(fun i395 => (Ci (x344.5 i395)))]), (Ho false (symRows false 0 x344.1 so351 (fun x396 => 0))), (Hc bp353 33 [(Cs 0 O345 x344.1.1 C348), (Cs 1 A346 x344.2 D349), (Cs 2 H347 x344.4 E350)]), (Hc br354 33 [(Cs 7 Oq380 x344.1.1 Cq381), (Cs 8 Aq356 x344.2 Dq358), (Cs 9 Hq357 x344.4 Ee359)]), (Hc bo355 33 [(Cs 7 Oq380 x344.1.1 Cq381), (Cs 8 Aq356 x344.2 Dq358), (Cs 9 Hq357 x344.4 Ee359)]), (Hr true Oq380 52 2 x344.1.1 Cq381 [(fun i397 => (Cs 10 (soq382 i397) (x344.1.2 i397) (scq383 i397))), (fun i398 => (Cb (x344.1.4 i398)))]), (Hr true Aq356 3 1 x344.2 Dq358 [(fun i399 => (Ci (x344.3 i399)))]), (Hr true Hq357 3 1 x344.4 Ee359 [(fun i400 => (Ci (x344.5 i400)))]), (Ho true (symRows true 3 (CD.mk x344.1.1 x344.1.2 x344.1.3 x344.1.4) soq382 scq383))] [7, 8, 9, 10] [(Hr true Oq384 52 2 x.1.1 Cq387 [(fun i401 => (Cs 3 (soq390 i401) (x.1.2 i401) (scq391 i401))), (fun i402 => (Cb (x.1.4 i402)))]), (Hr true Aq385 3 1 x.2 Dq388 [(fun i403 => (Ci (x.3 i403)))]), (Hr true Hq386 3 1 x.4 Ee389 [(fun i404 => (Ci (x.5 i404)))]), (Ho true (symRows true 3 x.1 soq390 scq391))]))))))))))))))))))))))))))))))))))))))))))))))))))) ∧
 (∀ b405 : Nat,
 (True ∧
 (((b2 = b2 ∧
 ((A = A ∧
 x.2 = x.2) ∧
 ((∀ i406 : Nat,
 true = true) ∧
 (apC 0 x.2 8)))) ∧
 (∀ ao407 : (Option Addr),
 (∀ cap408 : Nat,
 (True ∧
 (∀ b409 : Nat,
 (True ∧
 ((b409 = b409 ∧
 ((H = H ∧
 x.4 = x.4) ∧
 ((∀ i410 : Nat,
 true = true) ∧
 (apC 0 x.4 8)))) ∧
 (∀ ao411 : (Option Addr),
 (∀ cap412 : Nat,
 (True ∧
 (b405 = b405 ∧
 (True ∧
 (∃ x413 : AD, (∃ O414 : (Option Addr), (∃ A415 : (Option Addr), (∃ H416 : (Option Addr), (∃ C417 : Nat, (∃ D418 : Nat, (∃ E419 : Nat, (∃ so420 : (Nat →
 (Option Addr)), (∃ sc421 : (Nat →
 Nat), (∃ bp422 : Nat, (∃ br423 : Nat, (∃ bo424 : Nat, (∃ Aq425 : (Option Addr), (∃ Hq426 : (Option Addr), (∃ Dq427 : Nat, (∃ Ee428 : Nat, (([(Wa [(Ws O x.1.1 C), (Ws A x.2 D), (Ws H x.4 E)]), (Wp b0 0), (Wp b1 0), (Wp b405 0), (Wi 0), (Ws (Ad b2 0) 0 0), (Wp b0 1), (Ws A x.2 D), (Ws ao407 x.2 cap408), (Ws (Ad b409 0) 0 0), (Wp b0 2), (Ws H x.4 E), (Ws ao411 x.4 cap412), (Wa [Wn, (Ws ao407 x.2 cap408), (Ws ao411 x.4 cap412)]), (Wu []), (Wu []), (Wu []), (Wu []), (Wu []), (Wu []), (Wu []), (Wu []), (Wu []), (Wu []), (Wu []), (Wu []), (Wu []), (Wu []), (Wu []), (Wu []), (Wu []), (Wu []), (Wu [])] = [(Wa [(Ws O x.1.1 C), (Ws A x.2 D), (Ws H x.4 E)]), (Wp bp422 0), (Wp br423 0), (Wp bo424 0), (Wi 0), (Ws (Ad b2 0) 0 0), (Wp b0 1), (Ws A x.2 D), (Ws ao407 x.2 cap408), (Ws (Ad b409 0) 0 0), (Wp b0 2), (Ws H x.4 E), (Ws ao411 x.4 cap412), (Wa [Wn, (Ws ao407 x.2 cap408), (Ws ao411 x.4 cap412)]), (Wu []), (Wu []), (Wu []), (Wu []), (Wu []), (Wu []), (Wu []), (Wu []), (Wu []), (Wu []), (Wu []), (Wu []), (Wu []), (Wu []), (Wu []), (Wu []), (Wu []), (Wu []), (Wu [])] ∧
 ((SelS [(Hr false O 0 2 x.1.1 0 [(fun i429 => (Cs 3 (so i429) (x.1.2 i429) (sc i429))), (fun i430 => (Cb (x.1.4 i430)))]), (Hr false A 0 1 x.2 0 [(fun i431 => (Ci (x.3 i431)))]), (Hr false H 0 1 x.4 0 [(fun i432 => (Ci (x.5 i432)))]), (Ho false (symRows false 0 x.1 so (fun x433 => 0))), (Hc b0 33 [(Cs 0 O x.1.1 C), (Cs 1 A x.2 D), (Cs 2 H x.4 E)]), (Hc b1 33 [Cz, Cz, Cz]), Hd, (Hc b405 33 [Cz, (Cs 8 ao407 x.2 cap408), (Cs 10 ao411 x.4 cap412)]), (Hr true ao407 3 1 x.2 cap408 [(fun i434 => (Ci (x.3 i434)))]), Hd, (Hr true ao411 3 1 x.4 cap412 [(fun i435 => (Ci (x.5 i435)))])] [0, 1, 2, 3, 4, 5, 7, 1000000, 8, 10, 1000003] [(Hr false O414 0 2 x413.1.1 0 [(fun i436 => (Cs 3 (so420 i436) (x413.1.2 i436) (sc421 i436))), (fun i437 => (Cb (x413.1.4 i437)))]), (Hr false A415 0 1 x413.2 0 [(fun i438 => (Ci (x413.3 i438)))]), (Hr false H416 0 1 x413.4 0 [(fun i439 => (Ci (x413.5 i439)))]), (Ho false (symRows false 0 x413.1 so420 (fun x440 => 0))), (Hc bp422 33 [(Cs 0 O414 x413.1.1 C417), (Cs 1 A415 x413.2 D418), (Cs 2 H416 x413.4 E419)]), (Hc br423 33 [Cz, Cz, Cz]), (Hc bo424 33 [(Cs 7 (none : Option (Addr)) 0 0), (Cs 8 Aq425 x413.2 Dq427), (Cs 9 Hq426 x413.4 Ee428)]), (Hr true (none : Option (Addr)) 52 2 0 0 [(fun i441 => (Cs 10 (none : Option (Addr)) (x413.1.2 i441) 0)), (fun i442 => (Cb (x413.1.4 i442)))]), (Hr true Aq425 3 1 x413.2 Dq427 [(fun i443 => (Ci (x413.3 i443)))]), (Hr true Hq426 3 1 x413.4 Ee428 [(fun i444 => (Ci (x413.5 i444)))]), (Ho true (symRows true 3 (CD.mk 0 x413.1.2 x413.1.3 x413.1.4) (fun x445 => (none : Option (Addr))) (fun x446 => 0)))]) ∧
 (capA x413))) ∧
 (∀ g447 : (Nat →
 Value),
 (∀ kx448 : Int,
 (∀ Oq449 : (Option Addr),
 (∀ Cq450 : Nat,
 (∀ soq451 : (Nat →
 (Option Addr)),
 (∀ scq452 : (Nat →
 Nat),
 (bo424 = bo424 ∧
 (br423 = br423 ∧
 (br423 = br423 ∧
 (∃ Oq453 : (Option Addr), (∃ Aq454 : (Option Addr), (∃ Hq455 : (Option Addr), (∃ Cq456 : Nat, (∃ Dq457 : Nat, (∃ Ee458 : Nat, (∃ soq459 : (Nat →
 (Option Addr)), (∃ scq460 : (Nat →
 Nat), ((Wa [(Ws Oq449 x413.1.1 Cq450), (Ws Aq425 x413.2 Dq427), (Ws Hq426 x413.4 Ee428)]) = (Wa [(Ws Oq453 x.1.1 Cq456), (Ws Aq454 x.2 Dq457), (Ws Hq455 x.4 Ee458)]) ∧
 (SelS [(Hr false O414 0 2 x413.1.1 0 [(fun i461 => (Cs 3 (so420 i461) (x413.1.2 i461) (sc421 i461))), (fun i462 => (Cb (x413.1.4 i462)))]), (Hr false A415 0 1 x413.2 0 [(fun i463 => (Ci (x413.3 i463)))]), (Hr false H416 0 1 x413.4 0 [(fun i464 => (Ci (x413.5 i464)))]), (Ho false (symRows false 0 x413.1 so420 (fun x465 => 0))), (Hc bp422 33 [(Cs 0 O414 x413.1.1 C417), (Cs 1 A415 x413.2 D418), (Cs 2 H416 x413.4 E419)]), (Hc br423 33 [(Cs 7 Oq449 x413.1.1 Cq450), (Cs 8 Aq425 x413.2 Dq427), (Cs 9 Hq426 x413.4 Ee428)]), (Hc bo424 33 [(Cs 7 Oq449 x413.1.1 Cq450), (Cs 8 Aq425 x413.2 Dq427), (Cs 9 Hq426 x413.4 Ee428)]), (Hr true Oq449 52 2 x413.1.1 Cq450 [(fun i466 => (Cs 10 (soq451 i466) (x413.1.2 i466) (scq452 i466))), (fun i467 => (Cb (x413.1.4 i467)))]), (Hr true Aq425 3 1 x413.2 Dq427 [(fun i468 => (Ci (x413.3 i468)))]), (Hr true Hq426 3 1 x413.4 Ee428 [(fun i469 => (Ci (x413.5 i469)))]), (Ho true (symRows true 3 (CD.mk x413.1.1 x413.1.2 x413.1.3 x413.1.4) soq451 scq452))] [7, 8, 9, 10] [(Hr true Oq453 52 2 x.1.1 Cq456 [(fun i470 => (Cs 3 (soq459 i470) (x.1.2 i470) (scq460 i470))), (fun i471 => (Cb (x.1.4 i471)))]), (Hr true Aq454 3 1 x.2 Dq457 [(fun i472 => (Ci (x.3 i472)))]), (Hr true Hq455 3 1 x.4 Ee458 [(fun i473 => (Ci (x.5 i473)))]), (Ho true (symRows true 3 x.1 soq459 scq460))])))))))))))))))))))))))))))))))))))))))))))))))) ∧
 (∀ b474 : Nat,
 (True ∧
 ((b2 = b2 ∧
 ((A = A ∧
 x.2 = x.2) ∧
 ((∀ i475 : Nat,
 true = true) ∧
 (apC 0 x.2 8)))) ∧
 (∀ ao476 : (Option Addr),
 (∀ cap477 : Nat,
 (True ∧
 ((b474 = b474 ∧
 ((H = H ∧
 x.4 = x.4) ∧
 ((∀ i478 : Nat,
 true = true) ∧
 (apC 0 x.4 8)))) ∧
 (∀ ao479 : (Option Addr),
 (∀ cap480 : Nat,
 (True ∧
 (b405 = b405 ∧
 (True ∧
 (∃ x481 : AD, (∃ O482 : (Option Addr), (∃ A483 : (Option Addr), (∃ H484 : (Option Addr), (∃ C485 : Nat, (∃ D486 : Nat, (∃ E487 : Nat, (∃ so488 : (Nat →
 (Option Addr)), (∃ sc489 : (Nat →
 Nat), (∃ bp490 : Nat, (∃ br491 : Nat, (∃ bo492 : Nat, (∃ Aq493 : (Option Addr), (∃ Hq494 : (Option Addr), (∃ Dq495 : Nat, (∃ Ee496 : Nat, (([(Wa [(Ws O x.1.1 C), (Ws A x.2 D), (Ws H x.4 E)]), (Wp b0 0), (Wp b1 0), (Wp b405 0), (Wi 0), (Ws (Ad b2 0) 0 0), (Wp b0 1), (Ws A x.2 D), (Ws ao476 x.2 cap477), (Ws (Ad b474 0) 0 0), (Wp b0 2), (Ws H x.4 E), (Ws ao479 x.4 cap480), (Wa [Wn, (Ws ao476 x.2 cap477), (Ws ao479 x.4 cap480)]), (Wu []), (Wu []), (Wu []), (Wu []), (Wu []), (Wu []), (Wu []), (Wu []), (Wu []), (Wu []), (Wu []), (Wu []), (Wu []), (Wu []), (Wu []), (Wu []), (Wu []), (Wu []), (Wu [])] = [(Wa [(Ws O x.1.1 C), (Ws A x.2 D), (Ws H x.4 E)]), (Wp bp490 0), (Wp br491 0), (Wp bo492 0), (Wi 0), (Ws (Ad b2 0) 0 0), (Wp b0 1), (Ws A x.2 D), (Ws ao476 x.2 cap477), (Ws (Ad b474 0) 0 0), (Wp b0 2), (Ws H x.4 E), (Ws ao479 x.4 cap480), (Wa [Wn, (Ws ao476 x.2 cap477), (Ws ao479 x.4 cap480)]), (Wu []), (Wu []), (Wu []), (Wu []), (Wu []), (Wu []), (Wu []), (Wu []), (Wu []), (Wu []), (Wu []), (Wu []), (Wu []), (Wu []), (Wu []), (Wu []), (Wu []), (Wu []), (Wu [])] ∧
 ((SelS [(Hr false O 0 2 x.1.1 0 [(fun i497 => (Cs 3 (so i497) (x.1.2 i497) (sc i497))), (fun i498 => (Cb (x.1.4 i498)))]), (Hr false A 0 1 x.2 0 [(fun i499 => (Ci (x.3 i499)))]), (Hr false H 0 1 x.4 0 [(fun i500 => (Ci (x.5 i500)))]), (Ho false (symRows false 0 x.1 so (fun x501 => 0))), (Hc b0 33 [(Cs 0 O x.1.1 C), (Cs 1 A x.2 D), (Cs 2 H x.4 E)]), (Hc b1 33 [Cz, Cz, Cz]), Hd, (Hc b405 33 [Cz, (Cs 9 ao476 x.2 cap477), (Cs 10 ao479 x.4 cap480)]), Hd, (Hr true ao476 3 1 x.2 cap477 [(fun i502 => (Ci (x.3 i502)))]), (Hr true ao479 3 1 x.4 cap480 [(fun i503 => (Ci (x.5 i503)))])] [0, 1, 2, 3, 4, 5, 7, 1000000, 9, 10, 1000003] [(Hr false O482 0 2 x481.1.1 0 [(fun i504 => (Cs 3 (so488 i504) (x481.1.2 i504) (sc489 i504))), (fun i505 => (Cb (x481.1.4 i505)))]), (Hr false A483 0 1 x481.2 0 [(fun i506 => (Ci (x481.3 i506)))]), (Hr false H484 0 1 x481.4 0 [(fun i507 => (Ci (x481.5 i507)))]), (Ho false (symRows false 0 x481.1 so488 (fun x508 => 0))), (Hc bp490 33 [(Cs 0 O482 x481.1.1 C485), (Cs 1 A483 x481.2 D486), (Cs 2 H484 x481.4 E487)]), (Hc br491 33 [Cz, Cz, Cz]), (Hc bo492 33 [(Cs 7 (none : Option (Addr)) 0 0), (Cs 8 Aq493 x481.2 Dq495), (Cs 9 Hq494 x481.4 Ee496)]), (Hr true (none : Option (Addr)) 52 2 0 0 [(fun i509 => (Cs 10 (none : Option (Addr)) (x481.1.2 i509) 0)), (fun i510 => (Cb (x481.1.4 i510)))]), (Hr true Aq493 3 1 x481.2 Dq495 [(fun i511 => (Ci (x481.3 i511)))]), (Hr true Hq494 3 1 x481.4 Ee496 [(fun i512 => (Ci (x481.5 i512)))]), (Ho true (symRows true 3 (CD.mk 0 x481.1.2 x481.1.3 x481.1.4) (fun x513 => (none : Option (Addr))) (fun x514 => 0)))]) ∧
 (capA x481))) ∧
 (∀ g515 : (Nat →
 Value),
 (∀ kx516 : Int,
 (∀ Oq517 : (Option Addr),
 (∀ Cq518 : Nat,
 (∀ soq519 : (Nat →
 (Option Addr)),
 (∀ scq520 : (Nat →
 Nat),
 (bo492 = bo492 ∧
 (br491 = br491 ∧
 (br491 = br491 ∧
 (∃ Oq521 : (Option Addr), (∃ Aq522 : (Option Addr), (∃ Hq523 : (Option Addr), (∃ Cq524 : Nat, (∃ Dq525 : Nat, (∃ Ee526 : Nat, (∃ soq527 : (Nat →
 (Option Addr)), (∃ scq528 : (Nat →
 Nat), ((Wa [(Ws Oq517 x481.1.1 Cq518), (Ws Aq493 x481.2 Dq495), (Ws Hq494 x481.4 Ee496)]) = (Wa [(Ws Oq521 x.1.1 Cq524), (Ws Aq522 x.2 Dq525), (Ws Hq523 x.4 Ee526)]) ∧
 (SelS [(Hr false O482 0 2 x481.1.1 0 [(fun i529 => (Cs 3 (so488 i529) (x481.1.2 i529) (sc489 i529))), (fun i530 => (Cb (x481.1.4 i530)))]), (Hr false A483 0 1 x481.2 0 [(fun i531 => (Ci (x481.3 i531)))]), (Hr false H484 0 1 x481.4 0 [(fun i532 => (Ci (x481.5 i532)))]), (Ho false (symRows false 0 x481.1 so488 (fun x533 => 0))), (Hc bp490 33 [(Cs 0 O482 x481.1.1 C485), (Cs 1 A483 x481.2 D486), (Cs 2 H484 x481.4 E487)]), (Hc br491 33 [(Cs 7 Oq517 x481.1.1 Cq518), (Cs 8 Aq493 x481.2 Dq495), (Cs 9 Hq494 x481.4 Ee496)]), (Hc bo492 33 [(Cs 7 Oq517 x481.1.1 Cq518), (Cs 8 Aq493 x481.2 Dq495), (Cs 9 Hq494 x481.4 Ee496)]), (Hr true Oq517 52 2 x481.1.1 Cq518 [(fun i534 => (Cs 10 (soq519 i534) (x481.1.2 i534) (scq520 i534))), (fun i535 => (Cb (x481.1.4 i535)))]), (Hr true Aq493 3 1 x481.2 Dq495 [(fun i536 => (Ci (x481.3 i536)))]), (Hr true Hq494 3 1 x481.4 Ee496 [(fun i537 => (Ci (x481.5 i537)))]), (Ho true (symRows true 3 (CD.mk x481.1.1 x481.1.2 x481.1.3 x481.1.4) soq519 scq520))] [7, 8, 9, 10] [(Hr true Oq521 52 2 x.1.1 Cq524 [(fun i538 => (Cs 3 (soq527 i538) (x.1.2 i538) (scq528 i538))), (fun i539 => (Cb (x.1.4 i539)))]), (Hr true Aq522 3 1 x.2 Dq525 [(fun i540 => (Ci (x.3 i540)))]), (Hr true Hq523 3 1 x.4 Ee526 [(fun i541 => (Ci (x.5 i541)))]), (Ho true (symRows true 3 x.1 soq527 scq528))]))))))))))))))))))))))))))))))))))))))))))))))))))))))) ∧
 ((∀ b542 : Nat,
 (True ∧
 ((∀ b543 : Nat,
 (True ∧
 (((b543 = b543 ∧
 ((A = A ∧
 x.2 = x.2) ∧
 ((∀ i544 : Nat,
 true = true) ∧
 (apC 0 x.2 8)))) ∧
 (∀ ao545 : (Option Addr),
 (∀ cap546 : Nat,
 (True ∧
 (((b542 = b542 ∧
 ((H = H ∧
 x.4 = x.4) ∧
 ((∀ i547 : Nat,
 true = true) ∧
 (apC 0 x.4 8)))) ∧
 (∀ ao548 : (Option Addr),
 (∀ cap549 : Nat,
 (True ∧
 (∀ b550 : Nat,
 (True ∧
 (b550 = b550 ∧
 (True ∧
 (∃ x551 : AD, (∃ O552 : (Option Addr), (∃ A553 : (Option Addr), (∃ H554 : (Option Addr), (∃ C555 : Nat, (∃ D556 : Nat, (∃ E557 : Nat, (∃ so558 : (Nat →
 (Option Addr)), (∃ sc559 : (Nat →
 Nat), (∃ bp560 : Nat, (∃ br561 : Nat, (∃ bo562 : Nat, (∃ Aq563 : (Option Addr), (∃ Hq564 : (Option Addr), (∃ Dq565 : Nat, (∃ Ee566 : Nat, (([(Wa [(Ws O x.1.1 C), (Ws A x.2 D), (Ws H x.4 E)]), (Wp b0 0), (Wp b1 0), (Wp b550 0), (Wi 0), (Ws (Ad b543 0) 0 0), (Wp b0 1), (Ws A x.2 D), (Ws ao545 x.2 cap546), (Ws (Ad b542 0) 0 0), (Wp b0 2), (Ws H x.4 E), (Ws ao548 x.4 cap549), (Wa [Wn, (Ws ao545 x.2 cap546), (Ws ao548 x.4 cap549)]), (Wu []), (Wu []), (Wu []), (Wu []), (Wu []), (Wu []), (Wu []), (Wu []), (Wu []), (Wu []), (Wu []), (Wu []), (Wu []), (Wu []), (Wu []), (Wu []), (Wu []), (Wu []), (Wu [])] = [(Wa [(Ws O x.1.1 C), (Ws A x.2 D), (Ws H x.4 E)]), (Wp bp560 0), (Wp br561 0), (Wp bo562 0), (Wi 0), (Ws (Ad b543 0) 0 0), (Wp b0 1), (Ws A x.2 D), (Ws ao545 x.2 cap546), (Ws (Ad b542 0) 0 0), (Wp b0 2), (Ws H x.4 E), (Ws ao548 x.4 cap549), (Wa [Wn, (Ws ao545 x.2 cap546), (Ws ao548 x.4 cap549)]), (Wu []), (Wu []), (Wu []), (Wu []), (Wu []), (Wu []), (Wu []), (Wu []), (Wu []), (Wu []), (Wu []), (Wu []), (Wu []), (Wu []), (Wu []), (Wu []), (Wu []), (Wu []), (Wu [])] ∧
 ((SelS [(Hr false O 0 2 x.1.1 0 [(fun i567 => (Cs 3 (so i567) (x.1.2 i567) (sc i567))), (fun i568 => (Cb (x.1.4 i568)))]), (Hr false A 0 1 x.2 0 [(fun i569 => (Ci (x.3 i569)))]), (Hr false H 0 1 x.4 0 [(fun i570 => (Ci (x.5 i570)))]), (Ho false (symRows false 0 x.1 so (fun x571 => 0))), (Hc b0 33 [(Cs 0 O x.1.1 C), (Cs 1 A x.2 D), (Cs 2 H x.4 E)]), (Hc b1 33 [Cz, Cz, Cz]), Hd, Hd, (Hr true ao545 3 1 x.2 cap546 [(fun i572 => (Ci (x.3 i572)))]), (Hr true ao548 3 1 x.4 cap549 [(fun i573 => (Ci (x.5 i573)))]), (Hc b550 33 [Cz, (Cs 8 ao545 x.2 cap546), (Cs 9 ao548 x.4 cap549)])] [0, 1, 2, 3, 4, 5, 10, 1000000, 8, 9, 1000003] [(Hr false O552 0 2 x551.1.1 0 [(fun i574 => (Cs 3 (so558 i574) (x551.1.2 i574) (sc559 i574))), (fun i575 => (Cb (x551.1.4 i575)))]), (Hr false A553 0 1 x551.2 0 [(fun i576 => (Ci (x551.3 i576)))]), (Hr false H554 0 1 x551.4 0 [(fun i577 => (Ci (x551.5 i577)))]), (Ho false (symRows false 0 x551.1 so558 (fun x578 => 0))), (Hc bp560 33 [(Cs 0 O552 x551.1.1 C555), (Cs 1 A553 x551.2 D556), (Cs 2 H554 x551.4 E557)]), (Hc br561 33 [Cz, Cz, Cz]), (Hc bo562 33 [(Cs 7 (none : Option (Addr)) 0 0), (Cs 8 Aq563 x551.2 Dq565), (Cs 9 Hq564 x551.4 Ee566)]), (Hr true (none : Option (Addr)) 52 2 0 0 [(fun i579 => (Cs 10 (none : Option (Addr)) (x551.1.2 i579) 0)), (fun i580 => (Cb (x551.1.4 i580)))]), (Hr true Aq563 3 1 x551.2 Dq565 [(fun i581 => (Ci (x551.3 i581)))]), (Hr true Hq564 3 1 x551.4 Ee566 [(fun i582 => (Ci (x551.5 i582)))]), (Ho true (symRows true 3 (CD.mk 0 x551.1.2 x551.1.3 x551.1.4) (fun x583 => (none : Option (Addr))) (fun x584 => 0)))]) ∧
 (capA x551))) ∧
 (∀ g585 : (Nat →
 Value),
 (∀ kx586 : Int,
 (∀ Oq587 : (Option Addr),
 (∀ Cq588 : Nat,
 (∀ soq589 : (Nat →
 (Option Addr)),
 (∀ scq590 : (Nat →
 Nat),
 (bo562 = bo562 ∧
 (br561 = br561 ∧
 (br561 = br561 ∧
 (∃ Oq591 : (Option Addr), (∃ Aq592 : (Option Addr), (∃ Hq593 : (Option Addr), (∃ Cq594 : Nat, (∃ Dq595 : Nat, (∃ Ee596 : Nat, (∃ soq597 : (Nat →
 (Option Addr)), (∃ scq598 : (Nat →
 Nat), ((Wa [(Ws Oq587 x551.1.1 Cq588), (Ws Aq563 x551.2 Dq565), (Ws Hq564 x551.4 Ee566)]) = (Wa [(Ws Oq591 x.1.1 Cq594), (Ws Aq592 x.2 Dq595), (Ws Hq593 x.4 Ee596)]) ∧
 (SelS [(Hr false O552 0 2 x551.1.1 0 [(fun i599 => (Cs 3 (so558 i599) (x551.1.2 i599) (sc559 i599))), (fun i600 => (Cb (x551.1.4 i600)))]), (Hr false A553 0 1 x551.2 0 [(fun i601 => (Ci (x551.3 i601)))]), (Hr false H554 0 1 x551.4 0 [(fun i602 => (Ci (x551.5 i602)))]), (Ho false (symRows false 0 x551.1 so558 (fun x603 => 0))), (Hc bp560 33 [(Cs 0 O552 x551.1.1 C555), (Cs 1 A553 x551.2 D556), (Cs 2 H554 x551.4 E557)]), (Hc br561 33 [(Cs 7 Oq587 x551.1.1 Cq588), (Cs 8 Aq563 x551.2 Dq565), (Cs 9 Hq564 x551.4 Ee566)]), (Hc bo562 33 [(Cs 7 Oq587 x551.1.1 Cq588), (Cs 8 Aq563 x551.2 Dq565), (Cs 9 Hq564 x551.4 Ee566)]), (Hr true Oq587 52 2 x551.1.1 Cq588 [(fun i604 => (Cs 10 (soq589 i604) (x551.1.2 i604) (scq590 i604))), (fun i605 => (Cb (x551.1.4 i605)))]), (Hr true Aq563 3 1 x551.2 Dq565 [(fun i606 => (Ci (x551.3 i606)))]), (Hr true Hq564 3 1 x551.4 Ee566 [(fun i607 => (Ci (x551.5 i607)))]), (Ho true (symRows true 3 (CD.mk x551.1.1 x551.1.2 x551.1.3 x551.1.4) soq589 scq590))] [7, 8, 9, 10] [(Hr true Oq591 52 2 x.1.1 Cq594 [(fun i608 => (Cs 3 (soq597 i608) (x.1.2 i608) (scq598 i608))), (fun i609 => (Cb (x.1.4 i609)))]), (Hr true Aq592 3 1 x.2 Dq595 [(fun i610 => (Ci (x.3 i610)))]), (Hr true Hq593 3 1 x.4 Ee596 [(fun i611 => (Ci (x.5 i611)))]), (Ho true (symRows true 3 x.1 soq597 scq598))])))))))))))))))))))))))))))))))))))))))))))) ∧
 (∀ b612 : Nat,
 (True ∧
 ((b542 = b542 ∧
 ((H = H ∧
 x.4 = x.4) ∧
 ((∀ i613 : Nat,
 true = true) ∧
 (apC 0 x.4 8)))) ∧
 (∀ ao614 : (Option Addr),
 (∀ cap615 : Nat,
 (True ∧
 (b612 = b612 ∧
 (True ∧
 (∃ x616 : AD, (∃ O617 : (Option Addr), (∃ A618 : (Option Addr), (∃ H619 : (Option Addr), (∃ C620 : Nat, (∃ D621 : Nat, (∃ E622 : Nat, (∃ so623 : (Nat →
 (Option Addr)), (∃ sc624 : (Nat →
 Nat), (∃ bp625 : Nat, (∃ br626 : Nat, (∃ bo627 : Nat, (∃ Aq628 : (Option Addr), (∃ Hq629 : (Option Addr), (∃ Dq630 : Nat, (∃ Ee631 : Nat, (([(Wa [(Ws O x.1.1 C), (Ws A x.2 D), (Ws H x.4 E)]), (Wp b0 0), (Wp b1 0), (Wp b612 0), (Wi 0), (Ws (Ad b543 0) 0 0), (Wp b0 1), (Ws A x.2 D), (Ws ao545 x.2 cap546), (Ws (Ad b542 0) 0 0), (Wp b0 2), (Ws H x.4 E), (Ws ao614 x.4 cap615), (Wa [Wn, (Ws ao545 x.2 cap546), (Ws ao614 x.4 cap615)]), (Wu []), (Wu []), (Wu []), (Wu []), (Wu []), (Wu []), (Wu []), (Wu []), (Wu []), (Wu []), (Wu []), (Wu []), (Wu []), (Wu []), (Wu []), (Wu []), (Wu []), (Wu []), (Wu [])] = [(Wa [(Ws O x.1.1 C), (Ws A x.2 D), (Ws H x.4 E)]), (Wp bp625 0), (Wp br626 0), (Wp bo627 0), (Wi 0), (Ws (Ad b543 0) 0 0), (Wp b0 1), (Ws A x.2 D), (Ws ao545 x.2 cap546), (Ws (Ad b542 0) 0 0), (Wp b0 2), (Ws H x.4 E), (Ws ao614 x.4 cap615), (Wa [Wn, (Ws ao545 x.2 cap546), (Ws ao614 x.4 cap615)]), (Wu []), (Wu []), (Wu []), (Wu []), (Wu []), (Wu []), (Wu []), (Wu []), (Wu []), (Wu []), (Wu []), (Wu []), (Wu []), (Wu []), (Wu []), (Wu []), (Wu []), (Wu []), (Wu [])] ∧
 ((SelS [(Hr false O 0 2 x.1.1 0 [(fun i632 => (Cs 3 (so i632) (x.1.2 i632) (sc i632))), (fun i633 => (Cb (x.1.4 i633)))]), (Hr false A 0 1 x.2 0 [(fun i634 => (Ci (x.3 i634)))]), (Hr false H 0 1 x.4 0 [(fun i635 => (Ci (x.5 i635)))]), (Ho false (symRows false 0 x.1 so (fun x636 => 0))), (Hc b0 33 [(Cs 0 O x.1.1 C), (Cs 1 A x.2 D), (Cs 2 H x.4 E)]), (Hc b1 33 [Cz, Cz, Cz]), Hd, Hd, (Hr true ao545 3 1 x.2 cap546 [(fun i637 => (Ci (x.3 i637)))]), (Hc b612 33 [Cz, (Cs 8 ao545 x.2 cap546), (Cs 10 ao614 x.4 cap615)]), (Hr true ao614 3 1 x.4 cap615 [(fun i638 => (Ci (x.5 i638)))])] [0, 1, 2, 3, 4, 5, 9, 1000000, 8, 10, 1000003] [(Hr false O617 0 2 x616.1.1 0 [(fun i639 => (Cs 3 (so623 i639) (x616.1.2 i639) (sc624 i639))), (fun i640 => (Cb (x616.1.4 i640)))]), (Hr false A618 0 1 x616.2 0 [(fun i641 => (Ci (x616.3 i641)))]), (Hr false H619 0 1 x616.4 0 [(fun i642 => (Ci (x616.5 i642)))]), (Ho false (symRows false 0 x616.1 so623 (fun x643 => 0))), (Hc bp625 33 [(Cs 0 O617 x616.1.1 C620), (Cs 1 A618 x616.2 D621), (Cs 2 H619 x616.4 E622)]), (Hc br626 33 [Cz, Cz, Cz]), (Hc bo627 33 [(Cs 7 (none : Option (Addr)) 0 0), (Cs 8 Aq628 x616.2 Dq630), (Cs 9 Hq629 x616.4 Ee631)]), (Hr true (none : Option (Addr)) 52 2 0 0 [(fun i644 => (Cs 10 (none : Option (Addr)) (x616.1.2 i644) 0)), (fun i645 => (Cb (x616.1.4 i645)))]), (Hr true Aq628 3 1 x616.2 Dq630 [(fun i646 => (Ci (x616.3 i646)))]), (Hr true Hq629 3 1 x616.4 Ee631 [(fun i647 => (Ci (x616.5 i647)))]), (Ho true (symRows true 3 (CD.mk 0 x616.1.2 x616.1.3 x616.1.4) (fun x648 => (none : Option (Addr))) (fun x649 => 0)))]) ∧
 (capA x616))) ∧
 (∀ g650 : (Nat →
 Value),
 (∀ kx651 : Int,
 (∀ Oq652 : (Option Addr),
 (∀ Cq653 : Nat,
 (∀ soq654 : (Nat →
 (Option Addr)),
 (∀ scq655 : (Nat →
 Nat),
 (bo627 = bo627 ∧
 (br626 = br626 ∧
 (br626 = br626 ∧
 (∃ Oq656 : (Option Addr), (∃ Aq657 : (Option Addr), (∃ Hq658 : (Option Addr), (∃ Cq659 : Nat, (∃ Dq660 : Nat, (∃ Ee661 : Nat, (∃ soq662 : (Nat →
 (Option Addr)), (∃ scq663 : (Nat →
 Nat), ((Wa [(Ws Oq652 x616.1.1 Cq653), (Ws Aq628 x616.2 Dq630), (Ws Hq629 x616.4 Ee631)]) = (Wa [(Ws Oq656 x.1.1 Cq659), (Ws Aq657 x.2 Dq660), (Ws Hq658 x.4 Ee661)]) ∧
 (SelS [(Hr false O617 0 2 x616.1.1 0 [(fun i664 => (Cs 3 (so623 i664) (x616.1.2 i664) (sc624 i664))), (fun i665 => (Cb (x616.1.4 i665)))]), (Hr false A618 0 1 x616.2 0 [(fun i666 => (Ci (x616.3 i666)))]), (Hr false H619 0 1 x616.4 0 [(fun i667 => (Ci (x616.5 i667)))]), (Ho false (symRows false 0 x616.1 so623 (fun x668 => 0))), (Hc bp625 33 [(Cs 0 O617 x616.1.1 C620), (Cs 1 A618 x616.2 D621), (Cs 2 H619 x616.4 E622)]), (Hc br626 33 [(Cs 7 Oq652 x616.1.1 Cq653), (Cs 8 Aq628 x616.2 Dq630), (Cs 9 Hq629 x616.4 Ee631)]), (Hc bo627 33 [(Cs 7 Oq652 x616.1.1 Cq653), (Cs 8 Aq628 x616.2 Dq630), (Cs 9 Hq629 x616.4 Ee631)]), (Hr true Oq652 52 2 x616.1.1 Cq653 [(fun i669 => (Cs 10 (soq654 i669) (x616.1.2 i669) (scq655 i669))), (fun i670 => (Cb (x616.1.4 i670)))]), (Hr true Aq628 3 1 x616.2 Dq630 [(fun i671 => (Ci (x616.3 i671)))]), (Hr true Hq629 3 1 x616.4 Ee631 [(fun i672 => (Ci (x616.5 i672)))]), (Ho true (symRows true 3 (CD.mk x616.1.1 x616.1.2 x616.1.3 x616.1.4) soq654 scq655))] [7, 8, 9, 10] [(Hr true Oq656 52 2 x.1.1 Cq659 [(fun i673 => (Cs 3 (soq662 i673) (x.1.2 i673) (scq663 i673))), (fun i674 => (Cb (x.1.4 i674)))]), (Hr true Aq657 3 1 x.2 Dq660 [(fun i675 => (Ci (x.3 i675)))]), (Hr true Hq658 3 1 x.4 Ee661 [(fun i676 => (Ci (x.5 i676)))]), (Ho true (symRows true 3 x.1 soq662 scq663))]))))))))))))))))))))))))))))))))))))))))))))))))) ∧
 (∀ b677 : Nat,
 (True ∧
 ((b543 = b543 ∧
 ((A = A ∧
 x.2 = x.2) ∧
 ((∀ i678 : Nat,
 true = true) ∧
 (apC 0 x.2 8)))) ∧
 (∀ ao679 : (Option Addr),
 (∀ cap680 : Nat,
 (True ∧
 ((b542 = b542 ∧
 ((H = H ∧
 x.4 = x.4) ∧
 ((∀ i681 : Nat,
 true = true) ∧
 (apC 0 x.4 8)))) ∧
 (∀ ao682 : (Option Addr),
 (∀ cap683 : Nat,
 (True ∧
 (b677 = b677 ∧
 (True ∧
 (∃ x684 : AD, (∃ O685 : (Option Addr), (∃ A686 : (Option Addr), (∃ H687 : (Option Addr), (∃ C688 : Nat, (∃ D689 : Nat, (∃ E690 : Nat, (∃ so691 : (Nat →
 (Option Addr)), (∃ sc692 : (Nat →
 Nat), (∃ bp693 : Nat, (∃ br694 : Nat, (∃ bo695 : Nat, (∃ Aq696 : (Option Addr), (∃ Hq697 : (Option Addr), (∃ Dq698 : Nat, (∃ Ee699 : Nat, (([(Wa [(Ws O x.1.1 C), (Ws A x.2 D), (Ws H x.4 E)]), (Wp b0 0), (Wp b1 0), (Wp b677 0), (Wi 0), (Ws (Ad b543 0) 0 0), (Wp b0 1), (Ws A x.2 D), (Ws ao679 x.2 cap680), (Ws (Ad b542 0) 0 0), (Wp b0 2), (Ws H x.4 E), (Ws ao682 x.4 cap683), (Wa [Wn, (Ws ao679 x.2 cap680), (Ws ao682 x.4 cap683)]), (Wu []), (Wu []), (Wu []), (Wu []), (Wu []), (Wu []), (Wu []), (Wu []), (Wu []), (Wu []), (Wu []), (Wu []), (Wu []), (Wu []), (Wu []), (Wu []), (Wu []), (Wu []), (Wu [])] = [(Wa [(Ws O x.1.1 C), (Ws A x.2 D), (Ws H x.4 E)]), (Wp bp693 0), (Wp br694 0), (Wp bo695 0), (Wi 0), (Ws (Ad b543 0) 0 0), (Wp b0 1), (Ws A x.2 D), (Ws ao679 x.2 cap680), (Ws (Ad b542 0) 0 0), (Wp b0 2), (Ws H x.4 E), (Ws ao682 x.4 cap683), (Wa [Wn, (Ws ao679 x.2 cap680), (Ws ao682 x.4 cap683)]), (Wu []), (Wu []), (Wu []), (Wu []), (Wu []), (Wu []), (Wu []), (Wu []), (Wu []), (Wu []), (Wu []), (Wu []), (Wu []), (Wu []), (Wu []), (Wu []), (Wu []), (Wu []), (Wu [])] ∧
 ((SelS [(Hr false O 0 2 x.1.1 0 [(fun i700 => (Cs 3 (so i700) (x.1.2 i700) (sc i700))), (fun i701 => (Cb (x.1.4 i701)))]), (Hr false A 0 1 x.2 0 [(fun i702 => (Ci (x.3 i702)))]), (Hr false H 0 1 x.4 0 [(fun i703 => (Ci (x.5 i703)))]), (Ho false (symRows false 0 x.1 so (fun x704 => 0))), (Hc b0 33 [(Cs 0 O x.1.1 C), (Cs 1 A x.2 D), (Cs 2 H x.4 E)]), (Hc b1 33 [Cz, Cz, Cz]), Hd, Hd, (Hc b677 33 [Cz, (Cs 9 ao679 x.2 cap680), (Cs 10 ao682 x.4 cap683)]), (Hr true ao679 3 1 x.2 cap680 [(fun i705 => (Ci (x.3 i705)))]), (Hr true ao682 3 1 x.4 cap683 [(fun i706 => (Ci (x.5 i706)))])] [0, 1, 2, 3, 4, 5, 8, 1000000, 9, 10, 1000003] [(Hr false O685 0 2 x684.1.1 0 [(fun i707 => (Cs 3 (so691 i707) (x684.1.2 i707) (sc692 i707))), (fun i708 => (Cb (x684.1.4 i708)))]), (Hr false A686 0 1 x684.2 0 [(fun i709 => (Ci (x684.3 i709)))]), (Hr false H687 0 1 x684.4 0 [(fun i710 => (Ci (x684.5 i710)))]), (Ho false (symRows false 0 x684.1 so691 (fun x711 => 0))), (Hc bp693 33 [(Cs 0 O685 x684.1.1 C688), (Cs 1 A686 x684.2 D689), (Cs 2 H687 x684.4 E690)]), (Hc br694 33 [Cz, Cz, Cz]), (Hc bo695 33 [(Cs 7 (none : Option (Addr)) 0 0), (Cs 8 Aq696 x684.2 Dq698), (Cs 9 Hq697 x684.4 Ee699)]), (Hr true (none : Option (Addr)) 52 2 0 0 [(fun i712 => (Cs 10 (none : Option (Addr)) (x684.1.2 i712) 0)), (fun i713 => (Cb (x684.1.4 i713)))]), (Hr true Aq696 3 1 x684.2 Dq698 [(fun i714 => (Ci (x684.3 i714)))]), (Hr true Hq697 3 1 x684.4 Ee699 [(fun i715 => (Ci (x684.5 i715)))]), (Ho true (symRows true 3 (CD.mk 0 x684.1.2 x684.1.3 x684.1.4) (fun x716 => (none : Option (Addr))) (fun x717 => 0)))]) ∧
 (capA x684))) ∧
 (∀ g718 : (Nat →
 Value),
 (∀ kx719 : Int,
 (∀ Oq720 : (Option Addr),
 (∀ Cq721 : Nat,
 (∀ soq722 : (Nat →
 (Option Addr)),
 (∀ scq723 : (Nat →
 Nat),
 (bo695 = bo695 ∧
 (br694 = br694 ∧
 (br694 = br694 ∧
 (∃ Oq724 : (Option Addr), (∃ Aq725 : (Option Addr), (∃ Hq726 : (Option Addr), (∃ Cq727 : Nat, (∃ Dq728 : Nat, (∃ Ee729 : Nat, (∃ soq730 : (Nat →
 (Option Addr)), (∃ scq731 : (Nat →
 Nat), ((Wa [(Ws Oq720 x684.1.1 Cq721), (Ws Aq696 x684.2 Dq698), (Ws Hq697 x684.4 Ee699)]) = (Wa [(Ws Oq724 x.1.1 Cq727), (Ws Aq725 x.2 Dq728), (Ws Hq726 x.4 Ee729)]) ∧
 (SelS [(Hr false O685 0 2 x684.1.1 0 [(fun i732 => (Cs 3 (so691 i732) (x684.1.2 i732) (sc692 i732))), (fun i733 => (Cb (x684.1.4 i733)))]), (Hr false A686 0 1 x684.2 0 [(fun i734 => (Ci (x684.3 i734)))]), (Hr false H687 0 1 x684.4 0 [(fun i735 => (Ci (x684.5 i735)))]), (Ho false (symRows false 0 x684.1 so691 (fun x736 => 0))), (Hc bp693 33 [(Cs 0 O685 x684.1.1 C688), (Cs 1 A686 x684.2 D689), (Cs 2 H687 x684.4 E690)]), (Hc br694 33 [(Cs 7 Oq720 x684.1.1 Cq721), (Cs 8 Aq696 x684.2 Dq698), (Cs 9 Hq697 x684.4 Ee699)]), (Hc bo695 33 [(Cs 7 Oq720 x684.1.1 Cq721), (Cs 8 Aq696 x684.2 Dq698), (Cs 9 Hq697 x684.4 Ee699)]), (Hr true Oq720 52 2 x684.1.1 Cq721 [(fun i737 => (Cs 10 (soq722 i737) (x684.1.2 i737) (scq723 i737))), (fun i738 => (Cb (x684.1.4 i738)))]), (Hr true Aq696 3 1 x684.2 Dq698 [(fun i739 => (Ci (x684.3 i739)))]), (Hr true Hq697 3 1 x684.4 Ee699 [(fun i740 => (Ci (x684.5 i740)))]), (Ho true (symRows true 3 (CD.mk x684.1.1 x684.1.2 x684.1.3 x684.1.4) soq722 scq723))] [7, 8, 9, 10] [(Hr true Oq724 52 2 x.1.1 Cq727 [(fun i741 => (Cs 3 (soq730 i741) (x.1.2 i741) (scq731 i741))), (fun i742 => (Cb (x.1.4 i742)))]), (Hr true Aq725 3 1 x.2 Dq728 [(fun i743 => (Ci (x.3 i743)))]), (Hr true Hq726 3 1 x.4 Ee729 [(fun i744 => (Ci (x.5 i744)))]), (Ho true (symRows true 3 x.1 soq730 scq731))]))))))))))))))))))))))))))))))))))))))))))))))))))) ∧
 (∀ b745 : Nat,
 (True ∧
 (∀ b746 : Nat,
 (True ∧
 ((b746 = b746 ∧
 ((A = A ∧
 x.2 = x.2) ∧
 ((∀ i747 : Nat,
 true = true) ∧
 (apC 0 x.2 8)))) ∧
 (∀ ao748 : (Option Addr),
 (∀ cap749 : Nat,
 (True ∧
 ((b542 = b542 ∧
 ((H = H ∧
 x.4 = x.4) ∧
 ((∀ i750 : Nat,
 true = true) ∧
 (apC 0 x.4 8)))) ∧
 (∀ ao751 : (Option Addr),
 (∀ cap752 : Nat,
 (True ∧
 (b745 = b745 ∧
 (True ∧
 (∃ x753 : AD, (∃ O754 : (Option Addr), (∃ A755 : (Option Addr), (∃ H756 : (Option Addr), (∃ C757 : Nat, (∃ D758 : Nat, (∃ E759 : Nat, (∃ so760 : (Nat →
 (Option Addr)), (∃ sc761 : (Nat →
 Nat), (∃ bp762 : Nat, (∃ br763 : Nat, (∃ bo764 : Nat, (∃ Aq765 : (Option Addr), (∃ Hq766 : (Option Addr), (∃ Dq767 : Nat, (∃ Ee768 : Nat, (([(Wa [(Ws O x.1.1 C), (Ws A x.2 D), (Ws H x.4 E)]), (Wp b0 0), (Wp b1 0), (Wp b745 0), (Wi 0), (Ws (Ad b746 0) 0 0), (Wp b0 1), (Ws A x.2 D), (Ws ao748 x.2 cap749), (Ws (Ad b542 0) 0 0), (Wp b0 2), (Ws H x.4 E), (Ws ao751 x.4 cap752), (Wa [Wn, (Ws ao748 x.2 cap749), (Ws ao751 x.4 cap752)]), (Wu []), (Wu []), (Wu []), (Wu []), (Wu []), (Wu []), (Wu []), (Wu []), (Wu []), (Wu []), (Wu []), (Wu []), (Wu []), (Wu []), (Wu []), (Wu []), (Wu []), (Wu []), (Wu [])] = [(Wa [(Ws O x.1.1 C), (Ws A x.2 D), (Ws H x.4 E)]), (Wp bp762 0), (Wp br763 0), (Wp bo764 0), (Wi 0), (Ws (Ad b746 0) 0 0), (Wp b0 1), (Ws A x.2 D), (Ws ao748 x.2 cap749), (Ws (Ad b542 0) 0 0), (Wp b0 2), (Ws H x.4 E), (Ws ao751 x.4 cap752), (Wa [Wn, (Ws ao748 x.2 cap749), (Ws ao751 x.4 cap752)]), (Wu []), (Wu []), (Wu []), (Wu []), (Wu []), (Wu []), (Wu []), (Wu []), (Wu []), (Wu []), (Wu []), (Wu []), (Wu []), (Wu []), (Wu []), (Wu []), (Wu []), (Wu []), (Wu [])] ∧
 ((SelS [(Hr false O 0 2 x.1.1 0 [(fun i769 => (Cs 3 (so i769) (x.1.2 i769) (sc i769))), (fun i770 => (Cb (x.1.4 i770)))]), (Hr false A 0 1 x.2 0 [(fun i771 => (Ci (x.3 i771)))]), (Hr false H 0 1 x.4 0 [(fun i772 => (Ci (x.5 i772)))]), (Ho false (symRows false 0 x.1 so (fun x773 => 0))), (Hc b0 33 [(Cs 0 O x.1.1 C), (Cs 1 A x.2 D), (Cs 2 H x.4 E)]), (Hc b1 33 [Cz, Cz, Cz]), Hd, (Hc b745 33 [Cz, (Cs 9 ao748 x.2 cap749), (Cs 10 ao751 x.4 cap752)]), Hd, (Hr true ao748 3 1 x.2 cap749 [(fun i774 => (Ci (x.3 i774)))]), (Hr true ao751 3 1 x.4 cap752 [(fun i775 => (Ci (x.5 i775)))])] [0, 1, 2, 3, 4, 5, 7, 1000000, 9, 10, 1000003] [(Hr false O754 0 2 x753.1.1 0 [(fun i776 => (Cs 3 (so760 i776) (x753.1.2 i776) (sc761 i776))), (fun i777 => (Cb (x753.1.4 i777)))]), (Hr false A755 0 1 x753.2 0 [(fun i778 => (Ci (x753.3 i778)))]), (Hr false H756 0 1 x753.4 0 [(fun i779 => (Ci (x753.5 i779)))]), (Ho false (symRows false 0 x753.1 so760 (fun x780 => 0))), (Hc bp762 33 [(Cs 0 O754 x753.1.1 C757), (Cs 1 A755 x753.2 D758), (Cs 2 H756 x753.4 E759)]), (Hc br763 33 [Cz, Cz, Cz]), (Hc bo764 33 [(Cs 7 (none : Option (Addr)) 0 0), (Cs 8 Aq765 x753.2 Dq767), (Cs 9 Hq766 x753.4 Ee768)]), (Hr true (none : Option (Addr)) 52 2 0 0 [(fun i781 => (Cs 10 (none : Option (Addr)) (x753.1.2 i781) 0)), (fun i782 => (Cb (x753.1.4 i782)))]), (Hr true Aq765 3 1 x753.2 Dq767 [(fun i783 => (Ci (x753.3 i783)))]), (Hr true Hq766 3 1 x753.4 Ee768 [(fun i784 => (Ci (x753.5 i784)))]), (Ho true (symRows true 3 (CD.mk 0 x753.1.2 x753.1.3 x753.1.4) (fun x785 => (none : Option (Addr))) (fun x786 => 0)))]) ∧
 (capA x753))) ∧
 (∀ g787 : (Nat →
 Value),
 (∀ kx788 : Int,
 (∀ Oq789 : (Option Addr),
 (∀ Cq790 : Nat,
 (∀ soq791 : (Nat →
 (Option Addr)),
 (∀ scq792 : (Nat →
 Nat),
 (bo764 = bo764 ∧
 (br763 = br763 ∧
 (br763 = br763 ∧
 (∃ Oq793 : (Option Addr), (∃ Aq794 : (Option Addr), (∃ Hq795 : (Option Addr), (∃ Cq796 : Nat, (∃ Dq797 : Nat, (∃ Ee798 : Nat, (∃ soq799 : (Nat →
 (Option Addr)), (∃ scq800 : (Nat →
 Nat), ((Wa [(Ws Oq789 x753.1.1 Cq790), (Ws Aq765 x753.2 Dq767), (Ws Hq766 x753.4 Ee768)]) = (Wa [(Ws Oq793 x.1.1 Cq796), (Ws Aq794 x.2 Dq797), (Ws Hq795 x.4 Ee798)]) ∧
 (SelS [(Hr false O754 0 2 x753.1.1 0 [(fun i801 => (Cs 3 (so760 i801) (x753.1.2 i801) (sc761 i801))), (fun i802 => (Cb (x753.1.4 i802)))]), (Hr false A755 0 1 x753.2 0 [(fun i803 => (Ci (x753.3 i803)))]), (Hr false H756 0 1 x753.4 0 [(fun i804 => (Ci (x753.5 i804)))]), (Ho false (symRows false 0 x753.1 so760 (fun x805 => 0))), (Hc bp762 33 [(Cs 0 O754 x753.1.1 C757), (Cs 1 A755 x753.2 D758), (Cs 2 H756 x753.4 E759)]), (Hc br763 33 [(Cs 7 Oq789 x753.1.1 Cq790), (Cs 8 Aq765 x753.2 Dq767), (Cs 9 Hq766 x753.4 Ee768)]), (Hc bo764 33 [(Cs 7 Oq789 x753.1.1 Cq790), (Cs 8 Aq765 x753.2 Dq767), (Cs 9 Hq766 x753.4 Ee768)]), (Hr true Oq789 52 2 x753.1.1 Cq790 [(fun i806 => (Cs 10 (soq791 i806) (x753.1.2 i806) (scq792 i806))), (fun i807 => (Cb (x753.1.4 i807)))]), (Hr true Aq765 3 1 x753.2 Dq767 [(fun i808 => (Ci (x753.3 i808)))]), (Hr true Hq766 3 1 x753.4 Ee768 [(fun i809 => (Ci (x753.5 i809)))]), (Ho true (symRows true 3 (CD.mk x753.1.1 x753.1.2 x753.1.3 x753.1.4) soq791 scq792))] [7, 8, 9, 10] [(Hr true Oq793 52 2 x.1.1 Cq796 [(fun i810 => (Cs 3 (soq799 i810) (x.1.2 i810) (scq800 i810))), (fun i811 => (Cb (x.1.4 i811)))]), (Hr true Aq794 3 1 x.2 Dq797 [(fun i812 => (Ci (x.3 i812)))]), (Hr true Hq795 3 1 x.4 Ee798 [(fun i813 => (Ci (x.5 i813)))]), (Ho true (symRows true 3 x.1 soq799 scq800))]))))))))))))))))))))))))))))))))))))))))))))))))))))) ∧
 (∀ b814 : Nat,
 (True ∧
 ((∀ b815 : Nat,
 (True ∧
 (((b815 = b815 ∧
 ((A = A ∧
 x.2 = x.2) ∧
 ((∀ i816 : Nat,
 true = true) ∧
 (apC 0 x.2 8)))) ∧
 (∀ ao817 : (Option Addr),
 (∀ cap818 : Nat,
 (True ∧
 (∀ b819 : Nat,
 (True ∧
 ((b819 = b819 ∧
 ((H = H ∧
 x.4 = x.4) ∧
 ((∀ i820 : Nat,
 true = true) ∧
 (apC 0 x.4 8)))) ∧
 (∀ ao821 : (Option Addr),
 (∀ cap822 : Nat,
 (True ∧
 (b814 = b814 ∧
 (True ∧
 (∃ x823 : AD, (∃ O824 : (Option Addr), (∃ A825 : (Option Addr), (∃ H826 : (Option Addr), (∃ C827 : Nat, (∃ D828 : Nat, (∃ E829 : Nat, (∃ so830 : (Nat →
 (Option Addr)), (∃ sc831 : (Nat →
 Nat), (∃ bp832 : Nat, (∃ br833 : Nat, (∃ bo834 : Nat, (∃ Aq835 : (Option Addr), (∃ Hq836 : (Option Addr), (∃ Dq837 : Nat, (∃ Ee838 : Nat, (([(Wa [(Ws O x.1.1 C), (Ws A x.2 D), (Ws H x.4 E)]), (Wp b0 0), (Wp b1 0), (Wp b814 0), (Wi 0), (Ws (Ad b815 0) 0 0), (Wp b0 1), (Ws A x.2 D), (Ws ao817 x.2 cap818), (Ws (Ad b819 0) 0 0), (Wp b0 2), (Ws H x.4 E), (Ws ao821 x.4 cap822), (Wa [Wn, (Ws ao817 x.2 cap818), (Ws ao821 x.4 cap822)]), (Wu []), (Wu []), (Wu []), (Wu []), (Wu []), (Wu []), (Wu []), (Wu []), (Wu []), (Wu []), (Wu []), (Wu []), (Wu []), (Wu []), (Wu []), (Wu []), (Wu []), (Wu []), (Wu [])] = [(Wa [(Ws O x.1.1 C), (Ws A x.2 D), (Ws H x.4 E)]), (Wp bp832 0), (Wp br833 0), (Wp bo834 0), (Wi 0), (Ws (Ad b815 0) 0 0), (Wp b0 1), (Ws A x.2 D), (Ws ao817 x.2 cap818), (Ws (Ad b819 0) 0 0), (Wp b0 2), (Ws H x.4 E), (Ws ao821 x.4 cap822), (Wa [Wn, (Ws ao817 x.2 cap818), (Ws ao821 x.4 cap822)]), (Wu []), (Wu []), (Wu []), (Wu []), (Wu []), (Wu []), (Wu []), (Wu []), (Wu []), (Wu []), (Wu []), (Wu []), (Wu []), (Wu []), (Wu []), (Wu []), (Wu []), (Wu []), (Wu [])] ∧
 ((SelS [(Hr false O 0 2 x.1.1 0 [(fun i839 => (Cs 3 (so i839) (x.1.2 i839) (sc i839))), (fun i840 => (Cb (x.1.4 i840)))]), (Hr false A 0 1 x.2 0 [(fun i841 => (Ci (x.3 i841)))]), (Hr false H 0 1 x.4 0 [(fun i842 => (Ci (x.5 i842)))]), (Ho false (symRows false 0 x.1 so (fun x843 => 0))), (Hc b0 33 [(Cs 0 O x.1.1 C), (Cs 1 A x.2 D), (Cs 2 H x.4 E)]), (Hc b1 33 [Cz, Cz, Cz]), (Hc b814 33 [Cz, (Cs 8 ao817 x.2 cap818), (Cs 10 ao821 x.4 cap822)]), Hd, (Hr true ao817 3 1 x.2 cap818 [(fun i844 => (Ci (x.3 i844)))]), Hd, (Hr true ao821 3 1 x.4 cap822 [(fun i845 => (Ci (x.5 i845)))])] [0, 1, 2, 3, 4, 5, 6, 1000000, 8, 10, 1000003] [(Hr false O824 0 2 x823.1.1 0 [(fun i846 => (Cs 3 (so830 i846) (x823.1.2 i846) (sc831 i846))), (fun i847 => (Cb (x823.1.4 i847)))]), (Hr false A825 0 1 x823.2 0 [(fun i848 => (Ci (x823.3 i848)))]), (Hr false H826 0 1 x823.4 0 [(fun i849 => (Ci (x823.5 i849)))]), (Ho false (symRows false 0 x823.1 so830 (fun x850 => 0))), (Hc bp832 33 [(Cs 0 O824 x823.1.1 C827), (Cs 1 A825 x823.2 D828), (Cs 2 H826 x823.4 E829)]), (Hc br833 33 [Cz, Cz, Cz]), (Hc bo834 33 [(Cs 7 (none : Option (Addr)) 0 0), (Cs 8 Aq835 x823.2 Dq837), (Cs 9 Hq836 x823.4 Ee838)]), (Hr true (none : Option (Addr)) 52 2 0 0 [(fun i851 => (Cs 10 (none : Option (Addr)) (x823.1.2 i851) 0)), (fun i852 => (Cb (x823.1.4 i852)))]), (Hr true Aq835 3 1 x823.2 Dq837 [(fun i853 => (Ci (x823.3 i853)))]), (Hr true Hq836 3 1 x823.4 Ee838 [(fun i854 => (Ci (x823.5 i854)))]), (Ho true (symRows true 3 (CD.mk 0 x823.1.2 x823.1.3 x823.1.4) (fun x855 => (none : Option (Addr))) (fun x856 => 0)))]) ∧
 (capA x823))) ∧
 (∀ g857 : (Nat →
 Value),
 (∀ kx858 : Int,
 (∀ Oq859 : (Option Addr),
 (∀ Cq860 : Nat,
 (∀ soq861 : (Nat →
 (Option Addr)),
 (∀ scq862 : (Nat →
 Nat),
 (bo834 = bo834 ∧
 (br833 = br833 ∧
 (br833 = br833 ∧
 (∃ Oq863 : (Option Addr), (∃ Aq864 : (Option Addr), (∃ Hq865 : (Option Addr), (∃ Cq866 : Nat, (∃ Dq867 : Nat, (∃ Ee868 : Nat, (∃ soq869 : (Nat →
 (Option Addr)), (∃ scq870 : (Nat →
 Nat), ((Wa [(Ws Oq859 x823.1.1 Cq860), (Ws Aq835 x823.2 Dq837), (Ws Hq836 x823.4 Ee838)]) = (Wa [(Ws Oq863 x.1.1 Cq866), (Ws Aq864 x.2 Dq867), (Ws Hq865 x.4 Ee868)]) ∧
 (SelS [(Hr false O824 0 2 x823.1.1 0 [(fun i871 => (Cs 3 (so830 i871) (x823.1.2 i871) (sc831 i871))), (fun i872 => (Cb (x823.1.4 i872)))]), (Hr false A825 0 1 x823.2 0 [(fun i873 => (Ci (x823.3 i873)))]), (Hr false H826 0 1 x823.4 0 [(fun i874 => (Ci (x823.5 i874)))]), (Ho false (symRows false 0 x823.1 so830 (fun x875 => 0))), (Hc bp832 33 [(Cs 0 O824 x823.1.1 C827), (Cs 1 A825 x823.2 D828), (Cs 2 H826 x823.4 E829)]), (Hc br833 33 [(Cs 7 Oq859 x823.1.1 Cq860), (Cs 8 Aq835 x823.2 Dq837), (Cs 9 Hq836 x823.4 Ee838)]), (Hc bo834 33 [(Cs 7 Oq859 x823.1.1 Cq860), (Cs 8 Aq835 x823.2 Dq837), (Cs 9 Hq836 x823.4 Ee838)]), (Hr true Oq859 52 2 x823.1.1 Cq860 [(fun i876 => (Cs 10 (soq861 i876) (x823.1.2 i876) (scq862 i876))), (fun i877 => (Cb (x823.1.4 i877)))]), (Hr true Aq835 3 1 x823.2 Dq837 [(fun i878 => (Ci (x823.3 i878)))]), (Hr true Hq836 3 1 x823.4 Ee838 [(fun i879 => (Ci (x823.5 i879)))]), (Ho true (symRows true 3 (CD.mk x823.1.1 x823.1.2 x823.1.3 x823.1.4) soq861 scq862))] [7, 8, 9, 10] [(Hr true Oq863 52 2 x.1.1 Cq866 [(fun i880 => (Cs 3 (soq869 i880) (x.1.2 i880) (scq870 i880))), (fun i881 => (Cb (x.1.4 i881)))]), (Hr true Aq864 3 1 x.2 Dq867 [(fun i882 => (Ci (x.3 i882)))]), (Hr true Hq865 3 1 x.4 Ee868 [(fun i883 => (Ci (x.5 i883)))]), (Ho true (symRows true 3 x.1 soq869 scq870))])))))))))))))))))))))))))))))))))))))))))))))))) ∧
 (∀ b884 : Nat,
 (True ∧
 ((b815 = b815 ∧
 ((A = A ∧
 x.2 = x.2) ∧
 ((∀ i885 : Nat,
 true = true) ∧
 (apC 0 x.2 8)))) ∧
 (∀ ao886 : (Option Addr),
 (∀ cap887 : Nat,
 (True ∧
 ((b884 = b884 ∧
 ((H = H ∧
 x.4 = x.4) ∧
 ((∀ i888 : Nat,
 true = true) ∧
 (apC 0 x.4 8)))) ∧
 (∀ ao889 : (Option Addr),
 (∀ cap890 : Nat,
 (True ∧
 (b814 = b814 ∧
 (True ∧
 (∃ x891 : AD, (∃ O892 : (Option Addr), (∃ A893 : (Option Addr), (∃ H894 : (Option Addr), (∃ C895 : Nat, (∃ D896 : Nat, (∃ E897 : Nat, (∃ so898 : (Nat →
 (Option Addr)), (∃ sc899 : (Nat →
 Nat), (∃ bp900 : Nat, (∃ br901 : Nat, (∃ bo902 : Nat, (∃ Aq903 : (Option Addr), (∃ Hq904 : (Option Addr), (∃ Dq905 : Nat, (∃ Ee906 : Nat, (([(Wa [(Ws O x.1.1 C), (Ws A x.2 D), (Ws H x.4 E)]), (Wp b0 0), (Wp b1 0), (Wp b814 0), (Wi 0), (Ws (Ad b815 0) 0 0), (Wp b0 1), (Ws A x.2 D), (Ws ao886 x.2 cap887), (Ws (Ad b884 0) 0 0), (Wp b0 2), (Ws H x.4 E), (Ws ao889 x.4 cap890), (Wa [Wn, (Ws ao886 x.2 cap887), (Ws ao889 x.4 cap890)]), (Wu []), (Wu []), (Wu []), (Wu []), (Wu []), (Wu []), (Wu []), (Wu []), (Wu []), (Wu []), (Wu []), (Wu []), (Wu []), (Wu []), (Wu []), (Wu []), (Wu []), (Wu []), (Wu [])] = [(Wa [(Ws O x.1.1 C), (Ws A x.2 D), (Ws H x.4 E)]), (Wp bp900 0), (Wp br901 0), (Wp bo902 0), (Wi 0), (Ws (Ad b815 0) 0 0), (Wp b0 1), (Ws A x.2 D), (Ws ao886 x.2 cap887), (Ws (Ad b884 0) 0 0), (Wp b0 2), (Ws H x.4 E), (Ws ao889 x.4 cap890), (Wa [Wn, (Ws ao886 x.2 cap887), (Ws ao889 x.4 cap890)]), (Wu []), (Wu []), (Wu []), (Wu []), (Wu []), (Wu []), (Wu []), (Wu []), (Wu []), (Wu []), (Wu []), (Wu []), (Wu []), (Wu []), (Wu []), (Wu []), (Wu []), (Wu []), (Wu [])] ∧
 ((SelS [(Hr false O 0 2 x.1.1 0 [(fun i907 => (Cs 3 (so i907) (x.1.2 i907) (sc i907))), (fun i908 => (Cb (x.1.4 i908)))]), (Hr false A 0 1 x.2 0 [(fun i909 => (Ci (x.3 i909)))]), (Hr false H 0 1 x.4 0 [(fun i910 => (Ci (x.5 i910)))]), (Ho false (symRows false 0 x.1 so (fun x911 => 0))), (Hc b0 33 [(Cs 0 O x.1.1 C), (Cs 1 A x.2 D), (Cs 2 H x.4 E)]), (Hc b1 33 [Cz, Cz, Cz]), (Hc b814 33 [Cz, (Cs 9 ao886 x.2 cap887), (Cs 10 ao889 x.4 cap890)]), Hd, Hd, (Hr true ao886 3 1 x.2 cap887 [(fun i912 => (Ci (x.3 i912)))]), (Hr true ao889 3 1 x.4 cap890 [(fun i913 => (Ci (x.5 i913)))])] [0, 1, 2, 3, 4, 5, 6, 1000000, 9, 10, 1000003] [(Hr false O892 0 2 x891.1.1 0 [(fun i914 => (Cs 3 (so898 i914) (x891.1.2 i914) (sc899 i914))), (fun i915 => (Cb (x891.1.4 i915)))]), (Hr false A893 0 1 x891.2 0 [(fun i916 => (Ci (x891.3 i916)))]), (Hr false H894 0 1 x891.4 0 [(fun i917 => (Ci (x891.5 i917)))]), (Ho false (symRows false 0 x891.1 so898 (fun x918 => 0))), (Hc bp900 33 [(Cs 0 O892 x891.1.1 C895), (Cs 1 A893 x891.2 D896), (Cs 2 H894 x891.4 E897)]), (Hc br901 33 [Cz, Cz, Cz]), (Hc bo902 33 [(Cs 7 (none : Option (Addr)) 0 0), (Cs 8 Aq903 x891.2 Dq905), (Cs 9 Hq904 x891.4 Ee906)]), (Hr true (none : Option (Addr)) 52 2 0 0 [(fun i919 => (Cs 10 (none : Option (Addr)) (x891.1.2 i919) 0)), (fun i920 => (Cb (x891.1.4 i920)))]), (Hr true Aq903 3 1 x891.2 Dq905 [(fun i921 => (Ci (x891.3 i921)))]), (Hr true Hq904 3 1 x891.4 Ee906 [(fun i922 => (Ci (x891.5 i922)))]), (Ho true (symRows true 3 (CD.mk 0 x891.1.2 x891.1.3 x891.1.4) (fun x923 => (none : Option (Addr))) (fun x924 => 0)))]) ∧
 (capA x891))) ∧
 (∀ g925 : (Nat →
 Value),
 (∀ kx926 : Int,
 (∀ Oq927 : (Option Addr),
 (∀ Cq928 : Nat,
 (∀ soq929 : (Nat →
 (Option Addr)),
 (∀ scq930 : (Nat →
 Nat),
 (bo902 = bo902 ∧
 (br901 = br901 ∧
 (br901 = br901 ∧
 (∃ Oq931 : (Option Addr), (∃ Aq932 : (Option Addr), (∃ Hq933 : (Option Addr), (∃ Cq934 : Nat, (∃ Dq935 : Nat, (∃ Ee936 : Nat, (∃ soq937 : (Nat →
 (Option Addr)), (∃ scq938 : (Nat →
 Nat), ((Wa [(Ws Oq927 x891.1.1 Cq928), (Ws Aq903 x891.2 Dq905), (Ws Hq904 x891.4 Ee906)]) = (Wa [(Ws Oq931 x.1.1 Cq934), (Ws Aq932 x.2 Dq935), (Ws Hq933 x.4 Ee936)]) ∧
 (SelS [(Hr false O892 0 2 x891.1.1 0 [(fun i939 => (Cs 3 (so898 i939) (x891.1.2 i939) (sc899 i939))), (fun i940 => (Cb (x891.1.4 i940)))]), (Hr false A893 0 1 x891.2 0 [(fun i941 => (Ci (x891.3 i941)))]), (Hr false H894 0 1 x891.4 0 [(fun i942 => (Ci (x891.5 i942)))]), (Ho false (symRows false 0 x891.1 so898 (fun x943 => 0))), (Hc bp900 33 [(Cs 0 O892 x891.1.1 C895), (Cs 1 A893 x891.2 D896), (Cs 2 H894 x891.4 E897)]), (Hc br901 33 [(Cs 7 Oq927 x891.1.1 Cq928), (Cs 8 Aq903 x891.2 Dq905), (Cs 9 Hq904 x891.4 Ee906)]), (Hc bo902 33 [(Cs 7 Oq927 x891.1.1 Cq928), (Cs 8 Aq903 x891.2 Dq905), (Cs 9 Hq904 x891.4 Ee906)]), (Hr true Oq927 52 2 x891.1.1 Cq928 [(fun i944 => (Cs 10 (soq929 i944) (x891.1.2 i944) (scq930 i944))), (fun i945 => (Cb (x891.1.4 i945)))]), (Hr true Aq903 3 1 x891.2 Dq905 [(fun i946 => (Ci (x891.3 i946)))]), (Hr true Hq904 3 1 x891.4 Ee906 [(fun i947 => (Ci (x891.5 i947)))]), (Ho true (symRows true 3 (CD.mk x891.1.1 x891.1.2 x891.1.3 x891.1.4) soq929 scq930))] [7, 8, 9, 10] [(Hr true Oq931 52 2 x.1.1 Cq934 [(fun i948 => (Cs 3 (soq937 i948) (x.1.2 i948) (scq938 i948))), (fun i949 => (Cb (x.1.4 i949)))]), (Hr true Aq932 3 1 x.2 Dq935 [(fun i950 => (Ci (x.3 i950)))]), (Hr true Hq933 3 1 x.4 Ee936 [(fun i951 => (Ci (x.5 i951)))]), (Ho true (symRows true 3 x.1 soq937 scq938))]))))))))))))))))))))))))))))))))))))))))))))))))))) ∧
 (∀ b952 : Nat,
 (True ∧
 (∀ b953 : Nat,
 (True ∧
 ((b953 = b953 ∧
 ((A = A ∧
 x.2 = x.2) ∧
 ((∀ i954 : Nat,
 true = true) ∧
 (apC 0 x.2 8)))) ∧
 (∀ ao955 : (Option Addr),
 (∀ cap956 : Nat,
 (True ∧
 ((b952 = b952 ∧
 ((H = H ∧
 x.4 = x.4) ∧
 ((∀ i957 : Nat,
 true = true) ∧
 (apC 0 x.4 8)))) ∧
 (∀ ao958 : (Option Addr),
 (∀ cap959 : Nat,
 (True ∧
 (b814 = b814 ∧
 (True ∧
 (∃ x960 : AD, (∃ O961 : (Option Addr), (∃ A962 : (Option Addr), (∃ H963 : (Option Addr), (∃ C964 : Nat, (∃ D965 : Nat, (∃ E966 : Nat, (∃ so967 : (Nat →
 (Option Addr)), (∃ sc968 : (Nat →
 Nat), (∃ bp969 : Nat, (∃ br970 : Nat, (∃ bo971 : Nat, (∃ Aq972 : (Option Addr), (∃ Hq973 : (Option Addr), (∃ Dq974 : Nat, (∃ Ee975 : Nat, (([(Wa [(Ws O x.1.1 C), (Ws A x.2 D), (Ws H x.4 E)]), (Wp b0 0), (Wp b1 0), (Wp b814 0), (Wi 0), (Ws (Ad b953 0) 0 0), (Wp b0 1), (Ws A x.2 D), (Ws ao955 x.2 cap956), (Ws (Ad b952 0) 0 0), (Wp b0 2), (Ws H x.4 E), (Ws ao958 x.4 cap959), (Wa [Wn, (Ws ao955 x.2 cap956), (Ws ao958 x.4 cap959)]), (Wu []), (Wu []), (Wu []), (Wu []), (Wu []), (Wu []), (Wu []), (Wu []), (Wu []), (Wu []), (Wu []), (Wu []), (Wu []), (Wu []), (Wu []), (Wu []), (Wu []), (Wu []), (Wu [])] = [(Wa [(Ws O x.1.1 C), (Ws A x.2 D), (Ws H x.4 E)]), (Wp bp969 0), (Wp br970 0), (Wp bo971 0), (Wi 0), (Ws (Ad b953 0) 0 0), (Wp b0 1), (Ws A x.2 D), (Ws ao955 x.2 cap956), (Ws (Ad b952 0) 0 0), (Wp b0 2), (Ws H x.4 E), (Ws ao958 x.4 cap959), (Wa [Wn, (Ws ao955 x.2 cap956), (Ws ao958 x.4 cap959)]), (Wu []), (Wu []), (Wu []), (Wu []), (Wu []), (Wu []), (Wu []), (Wu []), (Wu []), (Wu []), (Wu []), (Wu []), (Wu []), (Wu []), (Wu []), (Wu []), (Wu []), (Wu []), (Wu [])] ∧
 ((SelS [(Hr false O 0 2 x.1.1 0 [(fun i976 => (Cs 3 (so i976) (x.1.2 i976) (sc i976))), (fun i977 => (Cb (x.1.4 i977)))]), (Hr false A 0 1 x.2 0 [(fun i978 => (Ci (x.3 i978)))]), (Hr false H 0 1 x.4 0 [(fun i979 => (Ci (x.5 i979)))]), (Ho false (symRows false 0 x.1 so (fun x980 => 0))), (Hc b0 33 [(Cs 0 O x.1.1 C), (Cs 1 A x.2 D), (Cs 2 H x.4 E)]), (Hc b1 33 [Cz, Cz, Cz]), (Hc b814 33 [Cz, (Cs 9 ao955 x.2 cap956), (Cs 10 ao958 x.4 cap959)]), Hd, Hd, (Hr true ao955 3 1 x.2 cap956 [(fun i981 => (Ci (x.3 i981)))]), (Hr true ao958 3 1 x.4 cap959 [(fun i982 => (Ci (x.5 i982)))])] [0, 1, 2, 3, 4, 5, 6, 1000000, 9, 10, 1000003] [(Hr false O961 0 2 x960.1.1 0 [(fun i983 => (Cs 3 (so967 i983) (x960.1.2 i983) (sc968 i983))), (fun i984 => (Cb (x960.1.4 i984)))]), (Hr false A962 0 1 x960.2 0 [(fun i985 => (Ci (x960.3 i985)))]), (Hr false H963 0 1 x960.4 0 [(fun i986 => (Ci (x960.5 i986)))]), (Ho false (symRows false 0 x960.1 so967 (fun x987 => 0))), (Hc bp969 33 [(Cs 0 O961 x960.1.1 C964), (Cs 1 A962 x960.2 D965), (Cs 2 H963 x960.4 E966)]), (Hc br970 33 [Cz, Cz, Cz]), (Hc bo971 33 [(Cs 7 (none : Option (Addr)) 0 0), (Cs 8 Aq972 x960.2 Dq974), (Cs 9 Hq973 x960.4 Ee975)]), (Hr true (none : Option (Addr)) 52 2 0 0 [(fun i988 => (Cs 10 (none : Option (Addr)) (x960.1.2 i988) 0)), (fun i989 => (Cb (x960.1.4 i989)))]), (Hr true Aq972 3 1 x960.2 Dq974 [(fun i990 => (Ci (x960.3 i990)))]), (Hr true Hq973 3 1 x960.4 Ee975 [(fun i991 => (Ci (x960.5 i991)))]), (Ho true (symRows true 3 (CD.mk 0 x960.1.2 x960.1.3 x960.1.4) (fun x992 => (none : Option (Addr))) (fun x993 => 0)))]) ∧
 (capA x960))) ∧
 (∀ g994 : (Nat →
 Value),
 (∀ kx995 : Int,
 (∀ Oq996 : (Option Addr),
 (∀ Cq997 : Nat,
 (∀ soq998 : (Nat →
 (Option Addr)),
 (∀ scq999 : (Nat →
 Nat),
 (bo971 = bo971 ∧
 (br970 = br970 ∧
 (br970 = br970 ∧
 (∃ Oq1000 : (Option Addr), (∃ Aq1001 : (Option Addr), (∃ Hq1002 : (Option Addr), (∃ Cq1003 : Nat, (∃ Dq1004 : Nat, (∃ Ee1005 : Nat, (∃ soq1006 : (Nat →
 (Option Addr)), (∃ scq1007 : (Nat →
 Nat), ((Wa [(Ws Oq996 x960.1.1 Cq997), (Ws Aq972 x960.2 Dq974), (Ws Hq973 x960.4 Ee975)]) = (Wa [(Ws Oq1000 x.1.1 Cq1003), (Ws Aq1001 x.2 Dq1004), (Ws Hq1002 x.4 Ee1005)]) ∧
 (SelS [(Hr false O961 0 2 x960.1.1 0 [(fun i1008 => (Cs 3 (so967 i1008) (x960.1.2 i1008) (sc968 i1008))), (fun i1009 => (Cb (x960.1.4 i1009)))]), (Hr false A962 0 1 x960.2 0 [(fun i1010 => (Ci (x960.3 i1010)))]), (Hr false H963 0 1 x960.4 0 [(fun i1011 => (Ci (x960.5 i1011)))]), (Ho false (symRows false 0 x960.1 so967 (fun x1012 => 0))), (Hc bp969 33 [(Cs 0 O961 x960.1.1 C964), (Cs 1 A962 x960.2 D965), (Cs 2 H963 x960.4 E966)]), (Hc br970 33 [(Cs 7 Oq996 x960.1.1 Cq997), (Cs 8 Aq972 x960.2 Dq974), (Cs 9 Hq973 x960.4 Ee975)]), (Hc bo971 33 [(Cs 7 Oq996 x960.1.1 Cq997), (Cs 8 Aq972 x960.2 Dq974), (Cs 9 Hq973 x960.4 Ee975)]), (Hr true Oq996 52 2 x960.1.1 Cq997 [(fun i1013 => (Cs 10 (soq998 i1013) (x960.1.2 i1013) (scq999 i1013))), (fun i1014 => (Cb (x960.1.4 i1014)))]), (Hr true Aq972 3 1 x960.2 Dq974 [(fun i1015 => (Ci (x960.3 i1015)))]), (Hr true Hq973 3 1 x960.4 Ee975 [(fun i1016 => (Ci (x960.5 i1016)))]), (Ho true (symRows true 3 (CD.mk x960.1.1 x960.1.2 x960.1.3 x960.1.4) soq998 scq999))] [7, 8, 9, 10] [(Hr true Oq1000 52 2 x.1.1 Cq1003 [(fun i1017 => (Cs 3 (soq1006 i1017) (x.1.2 i1017) (scq1007 i1017))), (fun i1018 => (Cb (x.1.4 i1018)))]), (Hr true Aq1001 3 1 x.2 Dq1004 [(fun i1019 => (Ci (x.3 i1019)))]), (Hr true Hq1002 3 1 x.4 Ee1005 [(fun i1020 => (Ci (x.5 i1020)))]), (Ho true (symRows true 3 x.1 soq1006 scq1007))])))))))))))))))))))))))))))))))))))))))))))))))))))))))))))) := by kernel_rfl
theorem cpaS_any (x : AD) (O A H : Option Addr) (C D E : Nat) (so : Nat → Option Addr) (sc : Nat → Nat) (w : World) (hA : SeenA w x O A H so sc) (hcap : capA x) : Calls Try.prog 45 #[arrV x O A H C D E] w fun e w' => ∃ (Oq Aq Hq : Option Addr) (Cq Dq Ee : Nat) (soq : Nat → Option Addr) (scq : Nat → Nat), e = .returned (arrV x Oq Aq Hq Cq Dq Ee) ∧ HS ⟨w, fun _ => False⟩ (arrO 0 x Oq Aq Hq Cq Dq Ee soq scq) w' := by
  refine fn_ok mixed (E := { L := [(3, scpS)] }) trivial Try.func45 (one_loop (by kernel_rfl) (by kernel_rfl) (cpS_ok _)) (@Eq.mpr _ _ (cpaS_T x O A H C D E so sc) ?_) (HS.seenAll (fun _ => False) _ (hA.all 0 seenC_nil)) (fun v ch' w' ⟨Oq, Aq, Hq, Cq, Dq, Ee, soq, scq, hv, hc⟩ hs => ⟨Oq, Aq, Hq, Cq, Dq, Ee, soq, scq, by rw [hv], hc.hs hs⟩)
  clear hA
  have hcap2 := hcap
  obtain ⟨c1, c2, c3, c4⟩ := hcap2
  repeat' (first
    | with_reducible exact rfl
    | exact True.intro
    | with_reducible assumption
    | (refine ⟨x, O, A, H, C, D, E, so, sc, _, _, _, _, _, _, _, ⟨rfl, ?_, hcap⟩, ?_⟩)
    | exact (by refine ⟨?_, rfl⟩; repeat' (first | exact True.intro | exact symRows_push | exact rfl | refine And.intro ?_ ?_ | (intro i hi; show _ = _; with_reducible rfl) | (intro i hi; show _ = _; rfl) | exact symRows_nil | (intro i hi; show _ = _; simp only [SC.den]; split <;> rfl)))
    | refine And.intro ?_ ?_
    | apply Exists.intro
    | (intro h; replace h := of_decide_eq_true h; first | (exfalso; omega) | skip)
    | (intro h; replace h := of_decide_eq_false h; first | (exfalso; omega) | skip)
    | (intro i hi; with_reducible exact rfl)
    | intro _
    | omega
    | exact rfl)
def sCpA : Sm := fun args ch kk =>
  match args with
  | [.a c] => rdA ch c fun x => capA x ∧ ∀ (Oq Aq Hq : Option Addr) (Cq Dq Ee : Nat) (soq : Nat → Option Addr) (scq : Nat → Nat), kk (.a (arrS ch.length x Oq Aq Hq Cq Dq Ee)) (ch ++ arrO ch.length x Oq Aq Hq Cq Dq Ee soq scq) []
  | _ => False
theorem arrO_at {b : Nat} {x : AD} {O A H : Option Addr} {C D E : Nat} {so : Nat → Option Addr} {sc : Nat → Nat} {X : Cx} {w : World} (h : HS X (arrO 0 x O A H C D E so sc) w) : HS X (arrO b x O A H C D E so sc) w :=
  h.reS ⟨⟨rfl, rfl, rfl, rfl, rfl, rfl, fun i hi => rfl, fun i hi => rfl, trivial⟩, ⟨rfl, rfl, rfl, rfl, rfl, rfl, fun i hi => rfl, trivial⟩, ⟨rfl, rfl, rfl, rfl, rfl, rfl, fun i hi => rfl, trivial⟩, ⟨rfl, rfl⟩, trivial⟩
theorem sCpA_I : SmOK Try.prog 53 sCpA := by
  refine smN Try.call53 fun args ch kk w X h0 hs => ?_
  unfold sCpA at h0
  split at h0
  · obtain ⟨x, O, A, H, C, D, E, so, sc, e, hA, hc, h0⟩ := rdA_ok h0 hs
    refine Calls.mono (?_ : Calls Try.prog 53 _ w (fun e w' => ∃ (Oq Aq Hq : Option Addr) (Cq Dq Ee : Nat) (soq : Nat → Option Addr) (scq : Nat → Nat), e = .returned (arrV x Oq Aq Hq Cq Dq Ee) ∧ HS ⟨w, fun _ => False⟩ (arrO 0 x Oq Aq Hq Cq Dq Ee soq scq) w')) (fun e w' ⟨Oq, Aq, Hq, Cq, Dq, Ee, soq, scq, he, hs'⟩ => ⟨_, _, ?_, arrO_at hs', rfl, h0 Oq Aq Hq Cq Dq Ee soq scq⟩)
    · simp only [List.map_cons, List.map_nil, den_a, e]
      exact cpaI_any x O A H C D E so sc w hA hc
    · rw [he]
      rfl
  · exact h0.elim
theorem sCpA_S : SmOK Try.prog 45 sCpA := by
  refine smN Try.call45 fun args ch kk w X h0 hs => ?_
  unfold sCpA at h0
  split at h0
  · obtain ⟨x, O, A, H, C, D, E, so, sc, e, hA, hc, h0⟩ := rdA_ok h0 hs
    refine Calls.mono (?_ : Calls Try.prog 45 _ w (fun e w' => ∃ (Oq Aq Hq : Option Addr) (Cq Dq Ee : Nat) (soq : Nat → Option Addr) (scq : Nat → Nat), e = .returned (arrV x Oq Aq Hq Cq Dq Ee) ∧ HS ⟨w, fun _ => False⟩ (arrO 0 x Oq Aq Hq Cq Dq Ee soq scq) w')) (fun e w' ⟨Oq, Aq, Hq, Cq, Dq, Ee, soq, scq, he, hs'⟩ => ⟨_, _, ?_, arrO_at hs', rfl, h0 Oq Aq Hq Cq Dq Ee soq scq⟩)
    · simp only [List.map_cons, List.map_nil, den_a, e]
      exact cpaS_any x O A H C D E so sc w hA hc
    · rw [he]
      rfl
  · exact h0.elim
end Go.Proofs.Ytddeinpnadfgmaa

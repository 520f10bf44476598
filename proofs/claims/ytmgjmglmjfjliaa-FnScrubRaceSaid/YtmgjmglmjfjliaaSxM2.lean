/-
  Cells stored.
-/
import Derived.Test.YtmgjmglmjfjliaaSxM1
namespace Go.Proofs.Ytmgjmglmjfjliaa
set_option linter.unusedVariables false
set_option linter.unusedSimpArgs false
open Go.RowKit
set_option maxRecDepth 100000
set_option maxHeartbeats 1000000

def stOk (gG gB gR gC : Int) (dB dR dC : Int) (x : AD) (kn : Nat) (kf : Nat → Int) : Bool := arrOk gG gB gR gC x && adOk gG gB gR gC dB dR dC && symB kn kf 11
def stA (gG gB gR gC : Int) (dB dR dC : Int) (x : AD) (kn : Nat) (kf : Nat → Int) (kb : Bool) : AD := if stOk gG gB gR gC dB dR dC x kn kf = true then setA x (ixN gG gB gR gC dB dR dC) kn kf kb else x
def sSt : Sm := fun args ch kk =>
  match args with
  | [.a (.agg [c0, c1, c2, c3]), .a c, .a (.agg [e0, e1, e2]), .a d] =>
    match ints [c0, c1, c2, c3, e0, e1, e2] with
    | some [gG, gB, gR, gC, dB, dR, dC] => rdA ch c fun x => rdC ch d fun kn kf kb => (capA x ∧ capC kn) ∧ ∀ (Oq Aq Hq : Option Addr) (Cq Dq Ee : Nat) (soq : Nat → Option Addr) (scq : Nat → Nat), kk (.a (arrS ch.length (stA gG gB gR gC dB dR dC x kn kf kb) Oq Aq Hq Cq Dq Ee)) (ch ++ arrO ch.length (stA gG gB gR gC dB dR dC x kn kf kb) Oq Aq Hq Cq Dq Ee soq scq) []
    | _ => False
  | _ => False
end Go.Proofs.Ytmgjmglmjfjliaa

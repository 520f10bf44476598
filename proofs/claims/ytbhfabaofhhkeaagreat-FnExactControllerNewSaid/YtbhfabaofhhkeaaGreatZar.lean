/-
  FnExactControllerNew: a part of the walk (merged and squeezed by program: SxTim).
-/
import Derived.Test.YtbhfabaofhhkeaaGreatZac
namespace Go.Proofs.YtbhfabaofhhkeaaGreat
set_option linter.unusedVariables false
set_option linter.unusedSimpArgs false
open Go.RowKit
set_option maxRecDepth 100000
theorem toTiming_T (tRCD tRP tRAS tRRDS tRRDL tFAW tCCDS tCCDL tRTP tWR tWTRS tWTRL tRTW tRFC tCKE tXP tXS:Int):(exFn Tryz.prog {tb:=[]} 400 Tryz.f27 ([.a (.agg [.int tRCD,.int tRP,.int tRAS,.int tRRDS,.int tRRDL,.int tFAW,.int tCCDS,.int tCCDL,.int tRTP,.int tWR,.int tWTRS,.int tWTRL,.int tRTW,.int tRFC,.int tCKE,.int tXP,.int tXS])]) ([]) (fun v _=>v.den=.agg #[.int .i64 (tRCD),.int .i64 (tRP),.int .i64 (tRAS),.int .i64 (tRRDS),.int .i64 (tRRDL),.int .i64 (tFAW),.int .i64 (tCCDS),.int .i64 (tCCDL),.int .i64 (tRTP),.int .i64 (tWR),.int .i64 (tWTRS),.int .i64 (tWTRL),.int .i64 (tRTW),.int .i64 (tRFC),.int .i64 (tCKE),.int .i64 (tXP),.int .i64 (tXS)]))=(
 ∀ b c d:Nat,b=b∧d=d∧b=b∧d=d∧b=b∧d=d∧b=b∧d=d∧b=b∧d=d∧b=b∧d=d∧b=b∧d=d∧b=b∧d=d∧b=b∧d=d∧b=b∧d=d∧b=b∧d=d∧b=b∧d=d∧b=b∧d=d∧b=b∧d=d∧b=b∧d=d∧b=b∧d=d∧b=b∧d=d∧d=d∧c=c∧c=c∧(Wa [Wi tRCD,Wi tRP,Wi tRAS,Wi tRRDS,Wi tRRDL,Wi tFAW,Wi tCCDS,Wi tCCDL,Wi tRTP,Wi tWR,Wi tWTRS,Wi tWTRL,Wi tRTW,Wi tRFC,Wi tCKE,Wi tXP,Wi tXS])=(Wa [Wi tRCD,Wi tRP,Wi tRAS,Wi tRRDS,Wi tRRDL,Wi tFAW,Wi tCCDS,Wi tCCDL,Wi tRTP,Wi tWR,Wi tWTRS,Wi tWTRL,Wi tRTW,Wi tRFC,Wi tCKE,Wi tXP,Wi tXS])):=by kernel_rfl
theorem toTiming_any (tRCD tRP tRAS tRRDS tRRDL tFAW tCCDS tCCDL tRTP tWR tWTRS tWTRL tRTW tRFC tCKE tXP tXS:Int)(w:World):Calls Tryz.prog 27 #[.agg #[.int .i64 tRCD,.int .i64 tRP,.int .i64 tRAS,.int .i64 tRRDS,.int .i64 tRRDL,.int .i64 tFAW,.int .i64 tCCDS,.int .i64 tCCDL,.int .i64 tRTP,.int .i64 tWR,.int .i64 tWTRS,.int .i64 tWTRL,.int .i64 tRTW,.int .i64 tRFC,.int .i64 tCKE,.int .i64 tXP,.int .i64 tXS]] w fun e w'=>e=.returned (.agg #[.int .i64 (tRCD),.int .i64 (tRP),.int .i64 (tRAS),.int .i64 (tRRDS),.int .i64 (tRRDL),.int .i64 (tFAW),.int .i64 (tCCDS),.int .i64 (tCCDL),.int .i64 (tRTP),.int .i64 (tWR),.int .i64 (tWTRS),.int .i64 (tWTRL),.int .i64 (tRTW),.int .i64 (tRFC),.int .i64 (tCKE),.int .i64 (tXP),.int .i64 (tXS)])∧Below w.heap.size w w':=by
 refine fnB (tb:=[]) trivial Tryz.func27 (@Eq.mpr _ _ (toTiming_T tRCD tRP tRAS tRRDS tRRDL tFAW tCCDS tCCDL tRTP tWR tWTRS tWTRL tRTW tRFC tCKE tXP tXS) ?_) (HS.start w (fun _=>False)) (fun v ch' w' hk hs=>⟨by rw [hk],hs.below⟩)
 intros
 simp
def sToTiming:Sm:=fun args ch k =>
 match args with
 | [.a (.agg [c0,c1,c2,c3,c4,c5,c6,c7,c8,c9,c10,c11,c12,c13,c14,c15,c16])] =>
  match ints [c0,c1,c2,c3,c4,c5,c6,c7,c8,c9,c10,c11,c12,c13,c14,c15,c16],bools [] with
  | some [tRCD,tRP,tRAS,tRRDS,tRRDL,tFAW,tCCDS,tCCDL,tRTP,tWR,tWTRS,tWTRL,tRTW,tRFC,tCKE,tXP,tXS],some []=>k (.a (.agg [.int (tRCD),.int (tRP),.int (tRAS),.int (tRRDS),.int (tRRDL),.int (tFAW),.int (tCCDS),.int (tCCDL),.int (tRTP),.int (tWR),.int (tWTRS),.int (tWTRL),.int (tRTW),.int (tRFC),.int (tCKE),.int (tXP),.int (tXS)])) ch []
  | _,_=>False
 | _=>False
theorem sToTiming_ok {f:FuncId}(hc:∀ args w,(callFunc f args).run Tryz.prog w=.ok (.enter f args) w)(h:∀ (tRCD tRP tRAS tRRDS tRRDL tFAW tCCDS tCCDL tRTP tWR tWTRS tWTRL tRTW tRFC tCKE tXP tXS:Int) (w:World),Calls Tryz.prog f #[.agg #[.int .i64 tRCD,.int .i64 tRP,.int .i64 tRAS,.int .i64 tRRDS,.int .i64 tRRDL,.int .i64 tFAW,.int .i64 tCCDS,.int .i64 tCCDL,.int .i64 tRTP,.int .i64 tWR,.int .i64 tWTRS,.int .i64 tWTRL,.int .i64 tRTW,.int .i64 tRFC,.int .i64 tCKE,.int .i64 tXP,.int .i64 tXS]] w fun e w'=>e=.returned (.agg #[.int .i64 (tRCD),.int .i64 (tRP),.int .i64 (tRAS),.int .i64 (tRRDS),.int .i64 (tRRDL),.int .i64 (tFAW),.int .i64 (tCCDS),.int .i64 (tCCDL),.int .i64 (tRTP),.int .i64 (tWR),.int .i64 (tWTRS),.int .i64 (tWTRL),.int .i64 (tRTW),.int .i64 (tRFC),.int .i64 (tCKE),.int .i64 (tXP),.int .i64 (tXS)])∧Below w.heap.size w w'):SmOK Tryz.prog f sToTiming:=by
 refine smB hc fun args ch k w X h0 hs=>?_
 unfold sToTiming at h0
 split at h0
 ·split at h0
  ·rename_i tRCD tRP tRAS tRRDS tRRDL tFAW tCCDS tCCDL tRTP tWR tWTRS tWTRL tRTW tRFC tCKE tXP tXS hi hb
   obtain ⟨e0,hi1⟩:=ints_cons hi
   obtain ⟨e1,hi2⟩:=ints_cons hi1
   obtain ⟨e2,hi3⟩:=ints_cons hi2
   obtain ⟨e3,hi4⟩:=ints_cons hi3
   obtain ⟨e4,hi5⟩:=ints_cons hi4
   obtain ⟨e5,hi6⟩:=ints_cons hi5
   obtain ⟨e6,hi7⟩:=ints_cons hi6
   obtain ⟨e7,hi8⟩:=ints_cons hi7
   obtain ⟨e8,hi9⟩:=ints_cons hi8
   obtain ⟨e9,hi10⟩:=ints_cons hi9
   obtain ⟨e10,hi11⟩:=ints_cons hi10
   obtain ⟨e11,hi12⟩:=ints_cons hi11
   obtain ⟨e12,hi13⟩:=ints_cons hi12
   obtain ⟨e13,hi14⟩:=ints_cons hi13
   obtain ⟨e14,hi15⟩:=ints_cons hi14
   obtain ⟨e15,hi16⟩:=ints_cons hi15
   obtain ⟨e16,hi17⟩:=ints_cons hi16
   refine ⟨_,h0,?_⟩
   simp only [List.map_cons,List.map_nil,den_a,den_c,SA.den,e0,e1,e2,e3,e4,e5,e6,e7,e8,e9,e10,e11,e12,e13,e14,e15,e16]
   exact h tRCD tRP tRAS tRRDS tRRDL tFAW tCCDS tCCDL tRTP tWR tWTRS tWTRL tRTW tRFC tCKE tXP tXS w
  ·exact h0.elim
 ·exact h0.elim
def timB (tRCD tRP tRAS tRRDS tRRDL tFAW tCCDS tCCDL tRTP tWR tWTRS tWTRL tRTW tRFC tCKE tXP tXS:Int):Bool:=[tRCD,tRP,tRAS,tRRDS,tRRDL,tFAW,tCCDS,tCCDL,tRTP,tWR,tWTRS,tWTRL,tRTW,tRFC,tCKE,tXP,tXS].all (fun x=>btw x 1 64)&&decide (tRCD≤tRAS)&&decide (tRRDS≤tRRDL)&&decide (tCCDS≤tCCDL)&&decide (tWTRS≤tWTRL)
theorem timingI_T (tRCD tRP tRAS tRRDS tRRDL tFAW tCCDS tCCDL tRTP tWR tWTRS tWTRL tRTW tRFC tCKE tXP tXS:Int):(exFn Tryz.prog {tb:=[(106,sBtw)]} 400 Tryz.f132 ([.a (.agg [.int tRCD,.int tRP,.int tRAS,.int tRRDS,.int tRRDL,.int tFAW,.int tCCDS,.int tCCDL,.int tRTP,.int tWR,.int tWTRS,.int tWTRL,.int tRTW,.int tRFC,.int tCKE,.int tXP,.int tXS])]) ([]) (fun v _=>v.den=.bool (timB tRCD tRP tRAS tRRDS tRRDL tFAW tCCDS tCCDL tRTP tWR tWTRS tWTRL tRTW tRFC tCKE tXP tXS)))=(
 (fun b:Value=>(fun c:Bool=>(fun d:Bool=>(fun g:Bool=>(fun h:Bool=>(fun j:Bool=>(fun k:Bool=>(fun l:Bool=>(fun m:Bool=>(fun n:Bool=>(fun o:Bool=>(fun p:Bool=>(fun q:Bool=>(fun r:Bool=>(fun s:Bool=>(fun t:Bool=>(fun u:Bool=>(fun w:Bool=>(fun x:Value=>∀ y:Nat,y=y∧y=y∧y=y∧y=y∧y=y∧y=y∧y=y∧y=y∧y=y∧y=y∧y=y∧y=y∧y=y∧y=y∧y=y∧y=y∧y=y∧∀ z:Nat,z=z∧(p=true→b=x)∧(p=false→z=z∧(h=true→b=x)∧(h=false→z=z∧(o=true→b=x)∧(o=false→z=z∧(w=true→b=x)∧(w=false→z=z∧(u=true→b=x)∧(u=false→z=z∧(n=true→b=x)∧(n=false→z=z∧(t=true→b=x)∧(t=false→z=z∧(s=true→b=x)∧(s=false→z=z∧(m=true→b=x)∧(m=false→z=z∧(g=true→b=x)∧(g=false→z=z∧(r=true→b=x)∧(r=false→z=z∧(q=true→b=x)∧(q=false→z=z∧(l=true→b=x)∧(l=false→z=z∧(k=true→b=x)∧(k=false→z=z∧(j=true→b=x)∧(j=false→z=z∧(d=true→b=x)∧(d=false→z=z∧(c=true→b=x)∧(c=false→y=y∧y=y∧((decide (tRCD≤tRAS))=true→y=y∧y=y∧((decide (tRRDS≤tRRDL))=true→y=y∧y=y∧((decide (tCCDS≤tCCDL))=true→y=y∧y=y∧(Wb (decide (tWTRS≤tWTRL)))=x)∧((decide (tCCDS≤tCCDL))=false→b=x))∧((decide (tRRDS≤tRRDL))=false→b=x))∧((decide (tRCD≤tRAS))=false→b=x))))))))))))))))))) (Wb (timB tRCD tRP tRAS tRRDS tRRDL tFAW tCCDS tCCDL tRTP tWR tWTRS tWTRL tRTW tRFC tCKE tXP tXS))) (! (btw tRRDS (1:Int) (64:Int)))) (! (btw tRRDL (1:Int) (64:Int)))) (! (btw tCCDS (1:Int) (64:Int)))) (! (btw tCCDL (1:Int) (64:Int)))) (! (btw tWTRS (1:Int) (64:Int)))) (! (btw tWTRL (1:Int) (64:Int)))) (! (btw tRCD (1:Int) (64:Int)))) (! (btw tRAS (1:Int) (64:Int)))) (! (btw tFAW (1:Int) (64:Int)))) (! (btw tRTP (1:Int) (64:Int)))) (! (btw tRTW (1:Int) (64:Int)))) (! (btw tRFC (1:Int) (64:Int)))) (! (btw tCKE (1:Int) (64:Int)))) (! (btw tRP (1:Int) (64:Int)))) (! (btw tWR (1:Int) (64:Int)))) (! (btw tXP (1:Int) (64:Int)))) (! (btw tXS (1:Int) (64:Int)))) (Wb false)):=by kernel_rfl
theorem timingI_any (tRCD tRP tRAS tRRDS tRRDL tFAW tCCDS tCCDL tRTP tWR tWTRS tWTRL tRTW tRFC tCKE tXP tXS:Int)(w:World):Calls Tryz.prog 132 #[.agg #[.int .i64 tRCD,.int .i64 tRP,.int .i64 tRAS,.int .i64 tRRDS,.int .i64 tRRDL,.int .i64 tFAW,.int .i64 tCCDS,.int .i64 tCCDL,.int .i64 tRTP,.int .i64 tWR,.int .i64 tWTRS,.int .i64 tWTRL,.int .i64 tRTW,.int .i64 tRFC,.int .i64 tCKE,.int .i64 tXP,.int .i64 tXS]] w fun e w'=>e=.returned (.bool (timB tRCD tRP tRAS tRRDS tRRDL tFAW tCCDS tCCDL tRTP tWR tWTRS tWTRL tRTW tRFC tCKE tXP tXS))∧Below w.heap.size w w':=by
 refine fnB (tb:=[(106,sBtw)]) ⟨sBtwI_ok,trivial⟩ Tryz.func132 (@Eq.mpr _ _ (timingI_T tRCD tRP tRAS tRRDS tRRDL tFAW tCCDS tCCDL tRTP tWR tWTRS tWTRL tRTW tRFC tCKE tXP tXS) ?_) (HS.start w (fun _=>False)) (fun v ch' w' hk hs=>⟨by rw [hk],hs.below⟩)
 dsimp -zeta -proj -iota -eta -failIfUnchanged (etaStruct:=.none) only
 simp only [timB]
 repeat' (first | exact rfl | exact True.intro | refine And.intro ?_ ?_ | intro _)
 all_goals (try (simp_all;done))
 all_goals (try (simp_all;omega))
def sTimingOk:Sm:=fun args ch k =>
 match args with
 | [.a (.agg [c0,c1,c2,c3,c4,c5,c6,c7,c8,c9,c10,c11,c12,c13,c14,c15,c16])] =>
  match ints [c0,c1,c2,c3,c4,c5,c6,c7,c8,c9,c10,c11,c12,c13,c14,c15,c16],bools [] with
  | some [tRCD,tRP,tRAS,tRRDS,tRRDL,tFAW,tCCDS,tCCDL,tRTP,tWR,tWTRS,tWTRL,tRTW,tRFC,tCKE,tXP,tXS],some []=>k (.a (.c (.bool (timB tRCD tRP tRAS tRRDS tRRDL tFAW tCCDS tCCDL tRTP tWR tWTRS tWTRL tRTW tRFC tCKE tXP tXS)))) ch []
  | _,_=>False
 | _=>False
theorem sTimingOk_ok {f:FuncId}(hc:∀ args w,(callFunc f args).run Tryz.prog w=.ok (.enter f args) w)(h:∀ (tRCD tRP tRAS tRRDS tRRDL tFAW tCCDS tCCDL tRTP tWR tWTRS tWTRL tRTW tRFC tCKE tXP tXS:Int) (w:World),Calls Tryz.prog f #[.agg #[.int .i64 tRCD,.int .i64 tRP,.int .i64 tRAS,.int .i64 tRRDS,.int .i64 tRRDL,.int .i64 tFAW,.int .i64 tCCDS,.int .i64 tCCDL,.int .i64 tRTP,.int .i64 tWR,.int .i64 tWTRS,.int .i64 tWTRL,.int .i64 tRTW,.int .i64 tRFC,.int .i64 tCKE,.int .i64 tXP,.int .i64 tXS]] w fun e w'=>e=.returned (.bool (timB tRCD tRP tRAS tRRDS tRRDL tFAW tCCDS tCCDL tRTP tWR tWTRS tWTRL tRTW tRFC tCKE tXP tXS))∧Below w.heap.size w w'):SmOK Tryz.prog f sTimingOk:=by
 refine smB hc fun args ch k w X h0 hs=>?_
 unfold sTimingOk at h0
 split at h0
 ·split at h0
  ·rename_i tRCD tRP tRAS tRRDS tRRDL tFAW tCCDS tCCDL tRTP tWR tWTRS tWTRL tRTW tRFC tCKE tXP tXS hi hb
   obtain ⟨e0,hi1⟩:=ints_cons hi
   obtain ⟨e1,hi2⟩:=ints_cons hi1
   obtain ⟨e2,hi3⟩:=ints_cons hi2
   obtain ⟨e3,hi4⟩:=ints_cons hi3
   obtain ⟨e4,hi5⟩:=ints_cons hi4
   obtain ⟨e5,hi6⟩:=ints_cons hi5
   obtain ⟨e6,hi7⟩:=ints_cons hi6
   obtain ⟨e7,hi8⟩:=ints_cons hi7
   obtain ⟨e8,hi9⟩:=ints_cons hi8
   obtain ⟨e9,hi10⟩:=ints_cons hi9
   obtain ⟨e10,hi11⟩:=ints_cons hi10
   obtain ⟨e11,hi12⟩:=ints_cons hi11
   obtain ⟨e12,hi13⟩:=ints_cons hi12
   obtain ⟨e13,hi14⟩:=ints_cons hi13
   obtain ⟨e14,hi15⟩:=ints_cons hi14
   obtain ⟨e15,hi16⟩:=ints_cons hi15
   obtain ⟨e16,hi17⟩:=ints_cons hi16
   refine ⟨_,h0,?_⟩
   simp only [List.map_cons,List.map_nil,den_a,den_c,SA.den,e0,e1,e2,e3,e4,e5,e6,e7,e8,e9,e10,e11,e12,e13,e14,e15,e16]
   exact h tRCD tRP tRAS tRRDS tRRDL tFAW tCCDS tCCDL tRTP tWR tWTRS tWTRL tRTW tRFC tCKE tXP tXS w
  ·exact h0.elim
 ·exact h0.elim
theorem l07_T (tRCD tRP tRAS tRRDS tRRDL tFAW tCCDS tCCDL tRTP tWR tWTRS tWTRL tRTW tRFC tCKE tXP tXS:Int):(exFn Tryz.prog {} 400 Tryz.f144 ([.a (.agg [.int tRCD,.int tRP,.int tRAS,.int tRRDS,.int tRRDL,.int tFAW,.int tCCDS,.int tCCDL,.int tRTP,.int tWR,.int tWTRS,.int tWTRL,.int tRTW,.int tRFC,.int tCKE,.int tXP,.int tXS])]) ([]) (fun v ch=>∃ b,v.den=.slice (some ⟨b,0,none⟩) 17 17∧ch[1]?=some (.cells b 3 [.int tRCD,.int tRP,.int tRAS,.int tRRDS,.int tRRDL,.int tFAW,.int tCCDS,.int tCCDL,.int tRTP,.int tWR,.int tWTRS,.int tWTRL,.int tRTW,.int tRFC,.int tCKE,.int tXP,.int tXS])))=(
 ∀ c:Nat,c=c∧c=c∧c=c∧c=c∧c=c∧c=c∧c=c∧c=c∧c=c∧c=c∧c=c∧c=c∧c=c∧c=c∧c=c∧c=c∧c=c∧∀ d:Nat,∃ g:Nat,(Ws (Ad d 0) 17 17)=(Ws (Ad g 0) 17 17)∧(Option.some (Hc d 3 [Ci tRCD,Ci tRP,Ci tRAS,Ci tRRDS,Ci tRRDL,Ci tFAW,Ci tCCDS,Ci tCCDL,Ci tRTP,Ci tWR,Ci tWTRS,Ci tWTRL,Ci tRTW,Ci tRFC,Ci tCKE,Ci tXP,Ci tXS]))=(Option.some (Hc g 3 [Ci tRCD,Ci tRP,Ci tRAS,Ci tRRDS,Ci tRRDL,Ci tFAW,Ci tCCDS,Ci tCCDL,Ci tRTP,Ci tWR,Ci tWTRS,Ci tWTRL,Ci tRTW,Ci tRFC,Ci tCKE,Ci tXP,Ci tXS]))):=by kernel_rfl
theorem l07_any (tRCD tRP tRAS tRRDS tRRDL tFAW tCCDS tCCDL tRTP tWR tWTRS tWTRL tRTW tRFC tCKE tXP tXS:Int)(w:World):Calls Tryz.prog 144 #[.agg #[.int .i64 tRCD,.int .i64 tRP,.int .i64 tRAS,.int .i64 tRRDS,.int .i64 tRRDL,.int .i64 tFAW,.int .i64 tCCDS,.int .i64 tCCDL,.int .i64 tRTP,.int .i64 tWR,.int .i64 tWTRS,.int .i64 tWTRL,.int .i64 tRTW,.int .i64 tRFC,.int .i64 tCKE,.int .i64 tXP,.int .i64 tXS]] w fun e w'=>∃ b,e=.returned (.slice (some ⟨b,0,none⟩) 17 17)∧HS ⟨w,fun _=>False⟩ [.cells b 3 [.int tRCD,.int tRP,.int tRAS,.int tRRDS,.int tRRDL,.int tFAW,.int tCCDS,.int tCCDL,.int tRTP,.int tWR,.int tWTRS,.int tWTRL,.int tRTW,.int tRFC,.int tCKE,.int tXP,.int tXS]] w':=by
 refine fnB (tb:=[]) trivial Tryz.func144 (@Eq.mpr _ _ (l07_T tRCD tRP tRAS tRRDS tRRDL tFAW tCCDS tCCDL tRTP tWR tWTRS tWTRL tRTW tRFC tCKE tXP tXS) ?_) (HS.start w (fun _=>False)) (fun v ch' w' ⟨b,hv,hc⟩ hs=>⟨b,by rw [hv],?_⟩)
 ·intros
  simp
 ·have:=hs.sel [1] (by simp)
  simpa [selC,hc] using this
def sL07:Sm:=fun args ch k =>
 match args with
 | [.a (.agg xs)] =>
  match ints xs with
  | some [tRCD,tRP,tRAS,tRRDS,tRRDL,tFAW,tCCDS,tCCDL,tRTP,tWR,tWTRS,tWTRL,tRTW,tRFC,tCKE,tXP,tXS]=>∀ b,k (.a (.c (.slc ch.length b 17 17))) (ch ++ [.cells b 3 [.int tRCD,.int tRP,.int tRAS,.int tRRDS,.int tRRDL,.int tFAW,.int tCCDS,.int tCCDL,.int tRTP,.int tWR,.int tWTRS,.int tWTRL,.int tRTW,.int tRFC,.int tCKE,.int tXP,.int tXS]]) []
  | _=>False
 | _=>False
theorem sL07_ok:SmOK Tryz.prog 144 sL07:=by
 refine smN Tryz.call144 fun args ch k w X h0 hs=>?_
 unfold sL07 at h0
 split at h0
 ·rename_i xs
  split at h0
  ·rename_i tRCD tRP tRAS tRRDS tRRDL tFAW tCCDS tCCDL tRTP tWR tWTRS tWTRL tRTW tRFC tCKE tXP tXS hi
   have he:xs.map SC.den=[.int .i64 tRCD,.int .i64 tRP,.int .i64 tRAS,.int .i64 tRRDS,.int .i64 tRRDL,.int .i64 tFAW,.int .i64 tCCDS,.int .i64 tCCDL,.int .i64 tRTP,.int .i64 tWR,.int .i64 tWTRS,.int .i64 tWTRL,.int .i64 tRTW,.int .i64 tRFC,.int .i64 tCKE,.int .i64 tXP,.int .i64 tXS]:=by
    rw [ints_den hi]
    rfl
   simp only [List.map_cons,List.map_nil,den_a,SA.den,he]
   exact Calls.mono (l07_any tRCD tRP tRAS tRRDS tRRDL tFAW tCCDS tCCDL tRTP tWR tWTRS tWTRL tRTW tRFC tCKE tXP tXS w) fun e w' ⟨b,he,hs'⟩=>⟨.a (.c (.slc ch.length b 17 17)),_,he,hs',rfl,h0 b⟩
  ·exact h0.elim
 ·exact h0.elim
theorem timingS_T (tRCD tRP tRAS tRRDS tRRDL tFAW tCCDS tCCDL tRTP tWR tWTRS tWTRL tRTW tRFC tCKE tXP tXS:Int):(exFn Tryz.prog {tb:=[(97,sBtw),(144,sL07)]} 400 Tryz.f127 ([.a (.agg [.int tRCD,.int tRP,.int tRAS,.int tRRDS,.int tRRDL,.int tFAW,.int tCCDS,.int tCCDL,.int tRTP,.int tWR,.int tWTRS,.int tWTRL,.int tRTW,.int tRFC,.int tCKE,.int tXP,.int tXS])]) ([]) (fun v _=>v.den=.bool (timB tRCD tRP tRAS tRRDS tRRDL tFAW tCCDS tCCDL tRTP tWR tWTRS tWTRL tRTW tRFC tCKE tXP tXS)))=(
 (fun b:Value=>(fun c:Bool=>(fun d:Bool=>(fun g:Bool=>(fun h:Bool=>(fun j:Bool=>(fun k:Bool=>(fun l:Bool=>(fun m:Bool=>(fun n:Bool=>(fun o:Bool=>(fun p:Bool=>(fun q:Bool=>(fun r:Bool=>(fun s:Bool=>(fun t:Bool=>(fun u:Bool=>(fun w:Bool=>(fun x:Value=>∀ y:Nat,y=y∧∀ z:Nat,z=z∧(p=true→b=x)∧(p=false→z=z∧(h=true→b=x)∧(h=false→z=z∧(o=true→b=x)∧(o=false→z=z∧(w=true→b=x)∧(w=false→z=z∧(u=true→b=x)∧(u=false→z=z∧(n=true→b=x)∧(n=false→z=z∧(t=true→b=x)∧(t=false→z=z∧(s=true→b=x)∧(s=false→z=z∧(m=true→b=x)∧(m=false→z=z∧(g=true→b=x)∧(g=false→z=z∧(r=true→b=x)∧(r=false→z=z∧(q=true→b=x)∧(q=false→z=z∧(l=true→b=x)∧(l=false→z=z∧(k=true→b=x)∧(k=false→z=z∧(j=true→b=x)∧(j=false→z=z∧(d=true→b=x)∧(d=false→z=z∧(c=true→b=x)∧(c=false→y=y∧y=y∧((decide (tRCD≤tRAS))=true→y=y∧y=y∧((decide (tRRDS≤tRRDL))=true→y=y∧y=y∧((decide (tCCDS≤tCCDL))=true→y=y∧y=y∧(Wb (decide (tWTRS≤tWTRL)))=x)∧((decide (tCCDS≤tCCDL))=false→b=x))∧((decide (tRRDS≤tRRDL))=false→b=x))∧((decide (tRCD≤tRAS))=false→b=x))))))))))))))))))) (Wb (timB tRCD tRP tRAS tRRDS tRRDL tFAW tCCDS tCCDL tRTP tWR tWTRS tWTRL tRTW tRFC tCKE tXP tXS))) (! (btw tRRDS (1:Int) (64:Int)))) (! (btw tRRDL (1:Int) (64:Int)))) (! (btw tCCDS (1:Int) (64:Int)))) (! (btw tCCDL (1:Int) (64:Int)))) (! (btw tWTRS (1:Int) (64:Int)))) (! (btw tWTRL (1:Int) (64:Int)))) (! (btw tRCD (1:Int) (64:Int)))) (! (btw tRAS (1:Int) (64:Int)))) (! (btw tFAW (1:Int) (64:Int)))) (! (btw tRTP (1:Int) (64:Int)))) (! (btw tRTW (1:Int) (64:Int)))) (! (btw tRFC (1:Int) (64:Int)))) (! (btw tCKE (1:Int) (64:Int)))) (! (btw tRP (1:Int) (64:Int)))) (! (btw tWR (1:Int) (64:Int)))) (! (btw tXP (1:Int) (64:Int)))) (! (btw tXS (1:Int) (64:Int)))) (Wb false)):=by kernel_rfl
theorem timingS_any (tRCD tRP tRAS tRRDS tRRDL tFAW tCCDS tCCDL tRTP tWR tWTRS tWTRL tRTW tRFC tCKE tXP tXS:Int)(w:World):Calls Tryz.prog 127 #[.agg #[.int .i64 tRCD,.int .i64 tRP,.int .i64 tRAS,.int .i64 tRRDS,.int .i64 tRRDL,.int .i64 tFAW,.int .i64 tCCDS,.int .i64 tCCDL,.int .i64 tRTP,.int .i64 tWR,.int .i64 tWTRS,.int .i64 tWTRL,.int .i64 tRTW,.int .i64 tRFC,.int .i64 tCKE,.int .i64 tXP,.int .i64 tXS]] w fun e w'=>e=.returned (.bool (timB tRCD tRP tRAS tRRDS tRRDL tFAW tCCDS tCCDL tRTP tWR tWTRS tWTRL tRTW tRFC tCKE tXP tXS))∧Below w.heap.size w w':=by
 refine fnB (tb:=[(97,sBtw),(144,sL07)]) ⟨sBtwS_ok,sL07_ok,trivial⟩ Tryz.func127 (@Eq.mpr _ _ (timingS_T tRCD tRP tRAS tRRDS tRRDL tFAW tCCDS tCCDL tRTP tWR tWTRS tWTRL tRTW tRFC tCKE tXP tXS) ?_) (HS.start w (fun _=>False)) (fun v ch' w' hk hs=>⟨by rw [hk],hs.below⟩)
 dsimp -zeta -proj -iota -eta -failIfUnchanged (etaStruct:=.none) only
 simp only [timB]
 repeat' (first | exact rfl | exact True.intro | refine And.intro ?_ ?_ | intro _)
 all_goals (try (simp_all;done))
 all_goals (try (simp_all;omega))
def needI (tRCD tRP tRAS tRRDS tRRDL tFAW tCCDS tCCDL tRTP tWR tWTRS tWTRL tRTW tRFC tCKE tXP tXS:Int):Int:=if timB tRCD tRP tRAS tRRDS tRRDL tFAW tCCDS tCCDL tRTP tWR tWTRS tWTRL tRTW tRFC tCKE tXP tXS=true then 2*(tCKE+tXP+tRAS+tWR+tRTP+tRP+tRFC+tRCD+8*tRRDL+16) else 0
theorem tim_bounds (tRCD tRP tRAS tRRDS tRRDL tFAW tCCDS tCCDL tRTP tWR tWTRS tWTRL tRTW tRFC tCKE tXP tXS:Int)(h:timB tRCD tRP tRAS tRRDS tRRDL tFAW tCCDS tCCDL tRTP tWR tWTRS tWTRL tRTW tRFC tCKE tXP tXS=true):(1≤tRCD∧tRCD≤64)∧(1≤tRP∧tRP≤64)∧(1≤tRAS∧tRAS≤64)∧(1≤tRRDS∧tRRDS≤64)∧(1≤tRRDL∧tRRDL≤64)∧(1≤tFAW∧tFAW≤64)∧(1≤tCCDS∧tCCDS≤64)∧(1≤tCCDL∧tCCDL≤64)∧(1≤tRTP∧tRTP≤64)∧(1≤tWR∧tWR≤64)∧(1≤tWTRS∧tWTRS≤64)∧(1≤tWTRL∧tWTRL≤64)∧(1≤tRTW∧tRTW≤64)∧(1≤tRFC∧tRFC≤64)∧(1≤tCKE∧tCKE≤64)∧(1≤tXP∧tXP≤64)∧(1≤tXS∧tXS≤64):=by
 simp only [timB,List.all_cons,List.all_nil,Bool.and_eq_true,btw,decide_eq_true_eq] at h
 omega
theorem needI_T (tRCD tRP tRAS tRRDS tRRDL tFAW tCCDS tCCDL tRTP tWR tWTRS tWTRL tRTW tRFC tCKE tXP tXS:Int):(exFn Tryz.prog {tb:=[(132,sTimingOk)]} 400 Tryz.f134 ([.a (.agg [.int tRCD,.int tRP,.int tRAS,.int tRRDS,.int tRRDL,.int tFAW,.int tCCDS,.int tCCDL,.int tRTP,.int tWR,.int tWTRS,.int tWTRL,.int tRTW,.int tRFC,.int tCKE,.int tXP,.int tXS])]) ([]) (fun v _=>v.den=.int .i64 (needI tRCD tRP tRAS tRRDS tRRDL tFAW tCCDS tCCDL tRTP tWR tWTRS tWTRL tRTW tRFC tCKE tXP tXS)))=(
 ∀ b:Nat,b=b∧((! (timB tRCD tRP tRAS tRRDS tRRDL tFAW tCCDS tCCDL tRTP tWR tWTRS tWTRL tRTW tRFC tCKE tXP tXS))=true→(Wi 0)=(Wi (needI tRCD tRP tRAS tRRDS tRRDL tFAW tCCDS tCCDL tRTP tWR tWTRS tWTRL tRTW tRFC tCKE tXP tXS)))∧((! (timB tRCD tRP tRAS tRRDS tRRDL tFAW tCCDS tCCDL tRTP tWR tWTRS tWTRL tRTW tRFC tCKE tXP tXS))=false→b=b∧b=b∧rng (tCKE+tXP)∧b=b∧rng ((tCKE+tXP)+tRAS)∧b=b∧rng (((tCKE+tXP)+tRAS)+tWR)∧b=b∧rng ((((tCKE+tXP)+tRAS)+tWR)+tRTP)∧b=b∧rng (((((tCKE+tXP)+tRAS)+tWR)+tRTP)+tRP)∧b=b∧rng ((((((tCKE+tXP)+tRAS)+tWR)+tRTP)+tRP)+tRFC)∧b=b∧rng (((((((tCKE+tXP)+tRAS)+tWR)+tRTP)+tRP)+tRFC)+tRCD)∧b=b∧rng ((8:Int)*tRRDL)∧rng ((((((((tCKE+tXP)+tRAS)+tWR)+tRTP)+tRP)+tRFC)+tRCD)+((8:Int)*tRRDL))∧rng (((((((((tCKE+tXP)+tRAS)+tWR)+tRTP)+tRP)+tRFC)+tRCD)+((8:Int)*tRRDL))+(16:Int))∧rng ((2:Int)*(((((((((tCKE+tXP)+tRAS)+tWR)+tRTP)+tRP)+tRFC)+tRCD)+((8:Int)*tRRDL))+(16:Int)))∧(Wi ((2:Int)*(((((((((tCKE+tXP)+tRAS)+tWR)+tRTP)+tRP)+tRFC)+tRCD)+((8:Int)*tRRDL))+(16:Int))))=(Wi (needI tRCD tRP tRAS tRRDS tRRDL tFAW tCCDS tCCDL tRTP tWR tWTRS tWTRL tRTW tRFC tCKE tXP tXS)))):=by kernel_rfl
theorem needI_any (tRCD tRP tRAS tRRDS tRRDL tFAW tCCDS tCCDL tRTP tWR tWTRS tWTRL tRTW tRFC tCKE tXP tXS:Int)(w:World):Calls Tryz.prog 134 #[.agg #[.int .i64 tRCD,.int .i64 tRP,.int .i64 tRAS,.int .i64 tRRDS,.int .i64 tRRDL,.int .i64 tFAW,.int .i64 tCCDS,.int .i64 tCCDL,.int .i64 tRTP,.int .i64 tWR,.int .i64 tWTRS,.int .i64 tWTRL,.int .i64 tRTW,.int .i64 tRFC,.int .i64 tCKE,.int .i64 tXP,.int .i64 tXS]] w fun e w'=>e=.returned (.int .i64 (needI tRCD tRP tRAS tRRDS tRRDL tFAW tCCDS tCCDL tRTP tWR tWTRS tWTRL tRTW tRFC tCKE tXP tXS))∧Below w.heap.size w w':=by
 refine fnB (tb:=[(132,sTimingOk)]) ⟨(sTimingOk_ok Tryz.call132 timingI_any),trivial⟩ Tryz.func134 (@Eq.mpr _ _ (needI_T tRCD tRP tRAS tRRDS tRRDL tFAW tCCDS tCCDL tRTP tWR tWTRS tWTRL tRTW tRFC tCKE tXP tXS) ?_) (HS.start w (fun _=>False)) (fun v ch' w' hk hs=>⟨by rw [hk],hs.below⟩)
 intro b0
 refine ⟨rfl,fun ht=>?_,fun ht=>?_⟩
 ·simp_all [needI]
 ·have ht':timB tRCD tRP tRAS tRRDS tRRDL tFAW tCCDS tCCDL tRTP tWR tWTRS tWTRL tRTW tRFC tCKE tXP tXS=true:=by simpa using ht
  have hb:=tim_bounds tRCD tRP tRAS tRRDS tRRDL tFAW tCCDS tCCDL tRTP tWR tWTRS tWTRL tRTW tRFC tCKE tXP tXS ht'
  have hn:needI tRCD tRP tRAS tRRDS tRRDL tFAW tCCDS tCCDL tRTP tWR tWTRS tWTRL tRTW tRFC tCKE tXP tXS=2*(tCKE+tXP+tRAS+tWR+tRTP+tRP+tRFC+tRCD+8*tRRDL+16):=by simp [needI,ht']
  rw [hn]
  simp only [rng]
  repeat' apply And.intro
  all_goals first | trivial | rfl | omega
theorem needS_T (tRCD tRP tRAS tRRDS tRRDL tFAW tCCDS tCCDL tRTP tWR tWTRS tWTRL tRTW tRFC tCKE tXP tXS:Int):(exFn Tryz.prog {tb:=[(127,sTimingOk)]} 400 Tryz.f129 ([.a (.agg [.int tRCD,.int tRP,.int tRAS,.int tRRDS,.int tRRDL,.int tFAW,.int tCCDS,.int tCCDL,.int tRTP,.int tWR,.int tWTRS,.int tWTRL,.int tRTW,.int tRFC,.int tCKE,.int tXP,.int tXS])]) ([]) (fun v _=>v.den=.int .i64 (needI tRCD tRP tRAS tRRDS tRRDL tFAW tCCDS tCCDL tRTP tWR tWTRS tWTRL tRTW tRFC tCKE tXP tXS)))=(
 ∀ b:Nat,b=b∧((! (timB tRCD tRP tRAS tRRDS tRRDL tFAW tCCDS tCCDL tRTP tWR tWTRS tWTRL tRTW tRFC tCKE tXP tXS))=true→(Wi 0)=(Wi (needI tRCD tRP tRAS tRRDS tRRDL tFAW tCCDS tCCDL tRTP tWR tWTRS tWTRL tRTW tRFC tCKE tXP tXS)))∧((! (timB tRCD tRP tRAS tRRDS tRRDL tFAW tCCDS tCCDL tRTP tWR tWTRS tWTRL tRTW tRFC tCKE tXP tXS))=false→b=b∧b=b∧rng (tCKE+tXP)∧b=b∧rng ((tCKE+tXP)+tRAS)∧b=b∧rng (((tCKE+tXP)+tRAS)+tWR)∧b=b∧rng ((((tCKE+tXP)+tRAS)+tWR)+tRTP)∧b=b∧rng (((((tCKE+tXP)+tRAS)+tWR)+tRTP)+tRP)∧b=b∧rng ((((((tCKE+tXP)+tRAS)+tWR)+tRTP)+tRP)+tRFC)∧b=b∧rng (((((((tCKE+tXP)+tRAS)+tWR)+tRTP)+tRP)+tRFC)+tRCD)∧b=b∧rng ((8:Int)*tRRDL)∧rng ((((((((tCKE+tXP)+tRAS)+tWR)+tRTP)+tRP)+tRFC)+tRCD)+((8:Int)*tRRDL))∧rng (((((((((tCKE+tXP)+tRAS)+tWR)+tRTP)+tRP)+tRFC)+tRCD)+((8:Int)*tRRDL))+(16:Int))∧rng ((2:Int)*(((((((((tCKE+tXP)+tRAS)+tWR)+tRTP)+tRP)+tRFC)+tRCD)+((8:Int)*tRRDL))+(16:Int)))∧(Wi ((2:Int)*(((((((((tCKE+tXP)+tRAS)+tWR)+tRTP)+tRP)+tRFC)+tRCD)+((8:Int)*tRRDL))+(16:Int))))=(Wi (needI tRCD tRP tRAS tRRDS tRRDL tFAW tCCDS tCCDL tRTP tWR tWTRS tWTRL tRTW tRFC tCKE tXP tXS)))):=by kernel_rfl
theorem needS_any (tRCD tRP tRAS tRRDS tRRDL tFAW tCCDS tCCDL tRTP tWR tWTRS tWTRL tRTW tRFC tCKE tXP tXS:Int)(w:World):Calls Tryz.prog 129 #[.agg #[.int .i64 tRCD,.int .i64 tRP,.int .i64 tRAS,.int .i64 tRRDS,.int .i64 tRRDL,.int .i64 tFAW,.int .i64 tCCDS,.int .i64 tCCDL,.int .i64 tRTP,.int .i64 tWR,.int .i64 tWTRS,.int .i64 tWTRL,.int .i64 tRTW,.int .i64 tRFC,.int .i64 tCKE,.int .i64 tXP,.int .i64 tXS]] w fun e w'=>e=.returned (.int .i64 (needI tRCD tRP tRAS tRRDS tRRDL tFAW tCCDS tCCDL tRTP tWR tWTRS tWTRL tRTW tRFC tCKE tXP tXS))∧Below w.heap.size w w':=by
 refine fnB (tb:=[(127,sTimingOk)]) ⟨(sTimingOk_ok Tryz.call127 timingS_any),trivial⟩ Tryz.func129 (@Eq.mpr _ _ (needS_T tRCD tRP tRAS tRRDS tRRDL tFAW tCCDS tCCDL tRTP tWR tWTRS tWTRL tRTW tRFC tCKE tXP tXS) ?_) (HS.start w (fun _=>False)) (fun v ch' w' hk hs=>⟨by rw [hk],hs.below⟩)
 intro b0
 refine ⟨rfl,fun ht=>?_,fun ht=>?_⟩
 ·simp_all [needI]
 ·have ht':timB tRCD tRP tRAS tRRDS tRRDL tFAW tCCDS tCCDL tRTP tWR tWTRS tWTRL tRTW tRFC tCKE tXP tXS=true:=by simpa using ht
  have hb:=tim_bounds tRCD tRP tRAS tRRDS tRRDL tFAW tCCDS tCCDL tRTP tWR tWTRS tWTRL tRTW tRFC tCKE tXP tXS ht'
  have hn:needI tRCD tRP tRAS tRRDS tRRDL tFAW tCCDS tCCDL tRTP tWR tWTRS tWTRL tRTW tRFC tCKE tXP tXS=2*(tCKE+tXP+tRAS+tWR+tRTP+tRP+tRFC+tRCD+8*tRRDL+16):=by simp [needI,ht']
  rw [hn]
  simp only [rng]
  repeat' apply And.intro
  all_goals first | trivial | rfl | omega
def sNeed:Sm:=fun args ch k =>
 match args with
 | [.a (.agg [c0,c1,c2,c3,c4,c5,c6,c7,c8,c9,c10,c11,c12,c13,c14,c15,c16])] =>
  match ints [c0,c1,c2,c3,c4,c5,c6,c7,c8,c9,c10,c11,c12,c13,c14,c15,c16],bools [] with
  | some [tRCD,tRP,tRAS,tRRDS,tRRDL,tFAW,tCCDS,tCCDL,tRTP,tWR,tWTRS,tWTRL,tRTW,tRFC,tCKE,tXP,tXS],some []=>k (.a (.c (.int (needI tRCD tRP tRAS tRRDS tRRDL tFAW tCCDS tCCDL tRTP tWR tWTRS tWTRL tRTW tRFC tCKE tXP tXS)))) ch []
  | _,_=>False
 | _=>False
theorem sNeed_ok {f:FuncId}(hc:∀ args w,(callFunc f args).run Tryz.prog w=.ok (.enter f args) w)(h:∀ (tRCD tRP tRAS tRRDS tRRDL tFAW tCCDS tCCDL tRTP tWR tWTRS tWTRL tRTW tRFC tCKE tXP tXS:Int) (w:World),Calls Tryz.prog f #[.agg #[.int .i64 tRCD,.int .i64 tRP,.int .i64 tRAS,.int .i64 tRRDS,.int .i64 tRRDL,.int .i64 tFAW,.int .i64 tCCDS,.int .i64 tCCDL,.int .i64 tRTP,.int .i64 tWR,.int .i64 tWTRS,.int .i64 tWTRL,.int .i64 tRTW,.int .i64 tRFC,.int .i64 tCKE,.int .i64 tXP,.int .i64 tXS]] w fun e w'=>e=.returned (.int .i64 (needI tRCD tRP tRAS tRRDS tRRDL tFAW tCCDS tCCDL tRTP tWR tWTRS tWTRL tRTW tRFC tCKE tXP tXS))∧Below w.heap.size w w'):SmOK Tryz.prog f sNeed:=by
 refine smB hc fun args ch k w X h0 hs=>?_
 unfold sNeed at h0
 split at h0
 ·split at h0
  ·rename_i tRCD tRP tRAS tRRDS tRRDL tFAW tCCDS tCCDL tRTP tWR tWTRS tWTRL tRTW tRFC tCKE tXP tXS hi hb
   obtain ⟨e0,hi1⟩:=ints_cons hi
   obtain ⟨e1,hi2⟩:=ints_cons hi1
   obtain ⟨e2,hi3⟩:=ints_cons hi2
   obtain ⟨e3,hi4⟩:=ints_cons hi3
   obtain ⟨e4,hi5⟩:=ints_cons hi4
   obtain ⟨e5,hi6⟩:=ints_cons hi5
   obtain ⟨e6,hi7⟩:=ints_cons hi6
   obtain ⟨e7,hi8⟩:=ints_cons hi7
   obtain ⟨e8,hi9⟩:=ints_cons hi8
   obtain ⟨e9,hi10⟩:=ints_cons hi9
   obtain ⟨e10,hi11⟩:=ints_cons hi10
   obtain ⟨e11,hi12⟩:=ints_cons hi11
   obtain ⟨e12,hi13⟩:=ints_cons hi12
   obtain ⟨e13,hi14⟩:=ints_cons hi13
   obtain ⟨e14,hi15⟩:=ints_cons hi14
   obtain ⟨e15,hi16⟩:=ints_cons hi15
   obtain ⟨e16,hi17⟩:=ints_cons hi16
   refine ⟨_,h0,?_⟩
   simp only [List.map_cons,List.map_nil,den_a,den_c,SA.den,e0,e1,e2,e3,e4,e5,e6,e7,e8,e9,e10,e11,e12,e13,e14,e15,e16]
   exact h tRCD tRP tRAS tRRDS tRRDL tFAW tCCDS tCCDL tRTP tWR tWTRS tWTRL tRTW tRFC tCKE tXP tXS w
  ·exact h0.elim
 ·exact h0.elim
end Go.Proofs.YtbhfabaofhhkeaaGreat

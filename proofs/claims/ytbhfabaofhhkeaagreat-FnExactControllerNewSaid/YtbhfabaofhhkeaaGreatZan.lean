/-
  FnExactControllerNew: a part of the walk (merged and squeezed by program: SxN3 SxNb SxN4 SxN6 SxN7 SxN5).
-/
import Derived.Test.YtbhfabaofhhkeaaGreatZam
namespace Go.Proofs.YtbhfabaofhhkeaaGreat
set_option linter.unusedVariables false
set_option linter.unusedSimpArgs false
open Go.RowKit
set_option maxRecDepth 100000
set_option maxHeartbeats 8000000
abbrev eqL (L N:Nat):Prop:=L=9*(N+1)
abbrev nwC (G B R K:Int)(N:Nat):Prop:=geoB G B R K=true∧bankN G B R K=(N:Int)∧(1≤N∧N≤8)
abbrev isN (z:Int)(n m:Nat):Prop:=z=(n:Int)∧n≤m
abbrev iv10 (z:Int):Prop:=2≤z∧z≤10000
abbrev is8 (n:Nat):Prop:=1≤n∧n≤8
def sRankNew (N:Nat):Sm:=fun args ch kk =>
 match args with
 | [.a (.agg [c0,c1,c2,c3])] =>
  match ints [c0,c1,c2,c3] with
  | some [G,B,R,K]=>(nwC G B R K N)∧∀ (b:Nat),kk (.a (.agg [.sl (ch.length) (some ⟨b,0,none⟩) N N,.il 0])) (ch ++ [.row ⟨true,some ⟨b,0,none⟩,194,2,N,N,[fun i=>.lit false,fun i=>.il 0]⟩]) []
  | _=>False
 | _=>False
theorem sRankNew_I (N:Nat):SmOK Tryz.prog 33 (sRankNew N):=by
 refine smN Tryz.call33 fun args ch kk w X h0 hs=>?_
 unfold sRankNew at h0
 split at h0
 ·split at h0
  ·rename_i G B R K hi
   obtain ⟨qG,hi⟩:=ints_cons hi
   obtain ⟨qB,hi⟩:=ints_cons hi
   obtain ⟨qR,hi⟩:=ints_cons hi
   obtain ⟨qK,hi⟩:=ints_cons hi
   obtain ⟨⟨h1,h2,h3⟩,h7⟩:=h0
   simp only [List.map_cons,List.map_nil,den_a,den_c,SA.den,qG,qB,qR,qK]
   exact Calls.mono (rankI_any G B R K N w h1 h2 h3) fun e w' ⟨b,he,hs'⟩=>⟨.a (.agg [.sl (ch.length) (some ⟨b,0,none⟩) N N,.il 0]),_,he,hs',rfl,h7 b⟩
  ·exact h0.elim
 ·exact h0.elim
theorem sRankNew_S (N:Nat):SmOK Tryz.prog 16 (sRankNew N):=by
 refine smN Tryz.call16 fun args ch kk w X h0 hs=>?_
 unfold sRankNew at h0
 split at h0
 ·split at h0
  ·rename_i G B R K hi
   obtain ⟨qG,hi⟩:=ints_cons hi
   obtain ⟨qB,hi⟩:=ints_cons hi
   obtain ⟨qR,hi⟩:=ints_cons hi
   obtain ⟨qK,hi⟩:=ints_cons hi
   obtain ⟨⟨h1,h2,h3⟩,h7⟩:=h0
   simp only [List.map_cons,List.map_nil,den_a,den_c,SA.den,qG,qB,qR,qK]
   exact Calls.mono (rankS_any G B R K N w h1 h2 h3) fun e w' ⟨b,he,hs'⟩=>⟨.a (.agg [.sl (ch.length) (some ⟨b,0,none⟩) N N,.il 0]),_,he,hs',rfl,h7 b⟩
  ·exact h0.elim
 ·exact h0.elim
def sFill :Sm:=fun args ch kk =>
 match args with
 | [.a (.c c)] =>
  match ints [c] with
  | some [z]=>∃ (n:Nat),(isN z n 1000)∧∀ (b:Nat),kk (.a (.c (.sl (ch.length) (some ⟨b,0,none⟩) n n))) (ch ++ [.row ⟨true,some ⟨b,0,none⟩,3,1,n,n,[fun i=>.int (-1)]⟩]) []
  | _=>False
 | _=>False
theorem sFill_S :SmOK Tryz.prog 94 sFill:=by
 refine smN Tryz.call94 fun args ch kk w X h0 hs=>?_
 unfold sFill at h0
 split at h0
 ·split at h0
  ·rename_i z hi
   obtain ⟨qz,hi⟩:=ints_cons hi
   obtain ⟨n,⟨h1,h2⟩,h7⟩:=h0
   subst h1
   simp only [List.map_cons,List.map_nil,den_a,den_c,SA.den,qz]
   exact Calls.mono (fill_any n w h2) fun e w' ⟨b,he,hs'⟩=>⟨.a (.c (.sl (ch.length) (some ⟨b,0,none⟩) n n)),_,he,hs',rfl,h7 b⟩
  ·exact h0.elim
 ·exact h0.elim
def rdH (L pa b pb:Nat)(i:SC)(g:Nat→Value):List SV:=hdN [(2,.a (.c (.ptr 0 pa 0))),(3,.a (.c (.ptr 2 pb 0))),(16,.a (.c (.sl 1 (some ⟨b,0,none⟩) L L))),(17,.a (.c (.int (L:Int)))),(18,.a (.c i))] g 0 27
theorem rdB (L pa b pb:Nat)(j:Nat)(g:Nat→Value)(NX:List SV→List Ch→Prop)(kx:Exit→List SV→List Ch→Prop):(exCode Tryz.prog {} 400 (theLoop Tryz.f34 0) (rdH L pa b pb (.int (j:Int)) g) ([.cells pa 53 [.nil,.nil],.row ⟨true,some ⟨b,0,none⟩,3,1,L,L,[fun i=>.int (lowI i j (-1) 0)]⟩,.cells pb 53 [.sl 1 (some ⟨b,0,none⟩) L L,.nil]]) (loopK NX kx))=(
 (fun a:Option Addr=>(fun c:SV=>(fun d:SV=>(fun h:Ch=>(fun k:SV=>(fun l:Bool=>(l=true→pb=pb∧a=a∧L=L∧(0≤((j:Nat):Int)∧((j:Nat):Int)<((L:Nat):Int))∧a=a∧j<L∧rng (((j:Nat):Int)+(1:Int))∧NX [vV (g 0),vV (g 1),pV 0 pa 0,pV 2 pb 0,d,vV (g 5),vV (g 6),vV (g 7),vV (g 8),vV (g 9),vV (g 10),vV (g 11),vV (g 12),vV (g 13),vV (g 14),vV (g 15),c,iV ((L:Nat):Int),k,tV,d,pV 2 pb 0,c,d,rV 1 a 1 j 0,k,vV (g 26)] [Hc pa 53 [Cz,Cz],Hr true a 3 1 L L [fun m=>Ci (if m=j then ((-1):Int) else (if m<j then ((-1):Int) else (0:Int)))],h])∧(l=false→kx (Exit.exit 0) [vV (g 0),vV (g 1),pV 0 pa 0,pV 2 pb 0,vV (g 4),vV (g 5),vV (g 6),vV (g 7),vV (g 8),vV (g 9),vV (g 10),vV (g 11),vV (g 12),vV (g 13),vV (g 14),vV (g 15),c,iV ((L:Nat):Int),d,fV,vV (g 20),vV (g 21),vV (g 22),vV (g 23),vV (g 24),vV (g 25),vV (g 26)] [Hc pa 53 [Cz,Cz],Hr true a 3 1 L L [fun m=>Ci (if m<j then ((-1):Int) else (0:Int))],h])) (decide (((j:Nat):Int)<((L:Nat):Int)))) (iV (((j:Nat):Int)+(1:Int)))) (Hc pb 53 [Cs 1 a L L,Cz])) (iV ((j:Nat):Int))) (sV 1 a L L)) (Ad b 0)):=by kernel_rfl
def srd (L pa b pb:Nat)(sl:List Nat):LSm:=fun ts ch kk=>(ts.map SV.den=(rdH L pa b pb (.il 0) (fun d=>(ts.getD d .undef).den)).map SV.den∧SelS ch sl [.cells pa 53 [.nil,.nil],.row ⟨true,some ⟨b,0,none⟩,3,1,L,L,[fun i=>.il 0]⟩,.cells pb 53 [.sl 1 (some ⟨b,0,none⟩) L L,.nil]])∧∀ g,kk (.exit 0) (rdH L pa b pb (.int (L:Int)) g) [.cells pa 53 [.nil,.nil],.row ⟨true,some ⟨b,0,none⟩,3,1,L,L,[fun i=>.int (-1)]⟩,.cells pb 53 [.sl 1 (some ⟨b,0,none⟩) L L,.nil]]
theorem rd_ok (L pa b pb:Nat)(sl:List Nat)(hn:L≤1000)(X:Cx):LoopOK Tryz.prog X (theLoop Tryz.f34 0) (srd L pa b pb sl):=by
 intro ts ch kk a w hS hT hd hs
 obtain ⟨⟨h1,hch⟩,hkk⟩:=hS
 refine loop_ok mixed (E:={}) trivial (loopsOK_nil _ _ _) 400 L (fun j ts ch=>∃ g,ts=rdH L pa b pb (.int (j:Int)) g∧ch=[.cells pa 53 [.nil,.nil],.row ⟨true,some ⟨b,0,none⟩,3,1,L,L,[fun i=>.int (lowI i j (-1) 0)]⟩,.cells pb 53 [.sl 1 (some ⟨b,0,none⟩) L L,.nil]]) ?_ ?_ hT hd hs
 ·rintro j _ _ ⟨g,rfl,rfl⟩ hj
  refine @Eq.mpr _ _ (rdB L pa b pb j g _ _) ?_
  dsimp -zeta -proj -iota -eta -failIfUnchanged (etaStruct:=.none) only
  clear h1
  by_cases hlt:j<L
  ·have hjn:(0:Int)≤(j:Int)∧(j:Int)<(L:Int):=⟨by omega,by omega⟩
   repeat' (first
    | with_reducible exact rfl
    | exact True.intro
    | with_reducible assumption
    | (refine ⟨hlt,?_⟩;show Next _ _ _ _;refine Next.mk (fun g=>rdH L pa b pb (.int ((j+1:Nat):Int)) g) [.cells pa 53 [.nil,.nil],.row ⟨true,some ⟨b,0,none⟩,3,1,L,L,[fun i=>.int (lowI i (j+1) (-1) 0)]⟩,.cells pb 53 [.sl 1 (some ⟨b,0,none⟩) L L,.nil]] ⟨_,rfl,rfl⟩ rfl (fun w hw=>hw.re 1 _ rfl [fun i=>.int (lowI i (j+1) (-1) 0)] ⟨fun i hi=>?_,trivial⟩))
    | (show rng _;exact ⟨by omega,by omega⟩)
    | refine And.intro ?_ ?_
    | (refine fun (h:@Eq Bool _ _)=>?_;exfalso;first | (simp at h;done) | (simp at h;omega))
    | intro _
    | omega)
   all_goals exact congrArg (Value.int .i64) (sel_low (fun _=>-1) i j)
  ·have hjk:L=j:=by omega
   subst hjk
   repeat' (first
    | with_reducible exact rfl
    | exact True.intro
    | (refine Next.mk (fun g=>rdH L pa b pb (.int (L:Int)) g) _ (hkk _) rfl (fun w hw=>hw.re 1 _ rfl [fun i=>.int (-1)] ⟨fun i hi=>?_,trivial⟩))
    | refine And.intro ?_ ?_
    | (refine fun (h:@Eq Bool _ _)=>?_;exfalso;first | (simp at h;done) | (simp at h;omega))
    | intro _)
   all_goals
    have hi':i<L:=hi
    simp [SC.den,lowI,hi']
 ·refine Next.mk (fun g=>rdH L pa b pb (.int ((0:Nat):Int)) g) _ ⟨_,rfl,rfl⟩ h1 fun w hw=>(hch.hs hw).re 1 _ rfl [fun i=>.int (lowI i 0 (-1) 0)] ⟨fun i hi=>?_,trivial⟩
  simp [SC.den,lowI]
def srdw (L:Nat):LSm:=fun ts ch kk=>∃ pa b pb,srd L pa b pb [1,2,3] ts ch kk
theorem rdw_ok (L:Nat)(hn:L≤1000)(X:Cx):LoopOK Tryz.prog X (theLoop Tryz.f34 0) (srdw L):=by
 rintro ts ch kk a w ⟨pa,b,pb,h⟩ hT hd hs
 exact rd_ok L pa b pb [1,2,3] hn X ts ch kk a w h hT hd hs
theorem readyI_T (G B R K:Int)(N L:Nat):(exFn Tryz.prog {tb:=[(102,sGeo),(39,sBank)],L:=[(5,srdw L)]} 400 Tryz.f34 ([.a (.agg [.int G,.int B,.int R,.int K])]) ([]) (fun v_ ch=>∃ (b:Nat),v_.den=.agg #[.slice (some ⟨b,0,none⟩) L L,.slice none 0 0]∧SelS ch [1] [.row ⟨true,some ⟨b,0,none⟩,3,1,L,L,[fun i=>.int (-1)]⟩]))=(
 (fun c:Value=>(fun d:Bool=>(fun g:Int=>(fun h:Value=>(fun j:Value=>(fun k:Value=>(fun l:Nat=>∀ m n:Nat,(fun o:Ch=>m=m∧((! d)=true→n=n∧n=n∧∃ p:Nat,(Wa [Wn,Wn])=(Wa [Ws (Ad p 0) L L,Wn])∧SelS [o,Hc n 53 [Cz,Cz]] [1] [Hr true (Ad p 0) 3 1 L L [fun q=>Ci (-1)]])∧((! d)=false→m=m∧rng (g+(1:Int))∧rng ((9:Int)*(g+(1:Int)))∧((9:Int)*(g+(1:Int)))=((9:Int)*(g+(1:Int)))∧mkC 8 ((9:Int)*(g+(1:Int)))∧∀ p q:Nat,(fun r:Value=>(fun s:Value=>q=q∧q=q∧∃ t u v:Nat,(fun w:Ch=>([j,Wp m 0,Wp n 0,Wp q 0,c,j,Wb d,Wb false,c,j,Wi g,h,k,r,s,Wp q 0,r,Wi ((l:Nat):Int),Wi 0,c,c,c,c,c,c,c,c]=[j,Wp m 0,Wp t 0,Wp v 0,c,j,Wb d,Wb false,c,j,Wi g,h,k,r,s,Wp q 0,Ws (Ad u 0) L L,Wi ((L:Nat):Int),Wi 0,c,c,c,c,c,c,c,c]∧SelS [o,Hc n 53 [Cz,Cz],Hr true (Ad p 0) 3 1 l l [fun x=>Cl 0],Hc q 53 [Cs 2 (Ad p 0) l l,Cz]] [1,2,3] [Hc t 53 [Cz,Cz],Hr true (Ad u 0) 3 1 L L [fun x=>Cl 0],w])∧∀ x:Nat→Value,v=v∧t=t∧t=t∧∃ y:Nat,(Wa [Ws (Ad u 0) L L,Wn])=(Wa [Ws (Ad y 0) L L,Wn])∧SelS [Hc t 53 [Cs 1 (Ad u 0) L L,Cz],Hr true (Ad u 0) 3 1 L L [fun z=>Ci (-1)],w] [1] [Hr true (Ad y 0) 3 1 L L [fun z=>Ci (-1)]]) (Hc v 53 [Cs 1 (Ad u 0) L L,Cz])) (Wa [r,Wn])) (Ws (Ad p 0) l l))) (Hc m 38 [Ci G,Ci B,Ci R,Ci K])) (Int.toNat ((9:Int)*(g+(1:Int))))) (Wi ((9:Int)*(g+(1:Int))))) (Wa [Wi G,Wi B,Wi R,Wi K])) (Wi (g+(1:Int)))) (bankN G B R K)) (geoB G B R K)) (Wu [])):=by kernel_rfl
theorem readyI_any (G B R K:Int)(N L:Nat)(w:World)(hg:geoB G B R K=true)(hN:bankN G B R K=(N:Int))(h8:1≤N∧N≤8)(hL:L=9*(N+1)):Calls Tryz.prog 34 #[.agg #[.int .i64 G,.int .i64 B,.int .i64 R,.int .i64 K]] w fun e w'=>∃ (b:Nat),e=.returned (.agg #[.slice (some ⟨b,0,none⟩) L L,.slice none 0 0])∧HS ⟨w,fun _=>False⟩ [.row ⟨true,some ⟨b,0,none⟩,3,1,L,L,[fun i=>.int (-1)]⟩] w':=by
 refine fn_ok mixed (E:={tb:=[(102,sGeo),(39,sBank)],L:=[(5,srdw L)]}) ⟨sGeo_I,sBank_I,trivial⟩ Tryz.func34 (one_loop (by kernel_rfl) (by kernel_rfl) (rdw_ok L (by omega) _)) (@Eq.mpr _ _ (readyI_T G B R K N L) ?_) (HS.start w (fun _=>False)) (fun v ch' w' ⟨b,hk⟩ hs=>⟨b,by rw [hk.1],hk.2.hs hs⟩)
 dsimp -zeta -proj -iota -eta -failIfUnchanged (etaStruct:=.none) only
 have eL:(9:Int)*((N:Int)+1)=(L:Int):=by omega
 simp only [hN,eL,Int.toNat_natCast]
 repeat' (first
  | with_reducible exact rfl
  | exact True.intro
  | with_reducible assumption
  | (show mkC _ _;exact ⟨by omega,by omega,by omega⟩)
  | (show rng _;exact ⟨by omega,by omega⟩)
  | (intro i hi;with_reducible exact rfl)
  | (intro i hi;exact rfl)
  | ((with_reducible show SelS _ _ _);exact (by refine ⟨?_,rfl⟩;repeat' (first | exact True.intro | exact rfl | refine And.intro ?_ ?_ | (intro i hi;show _=_;rfl))))
  | refine And.intro ?_ ?_
  | apply Exists.intro
  | (refine fun (h:@Eq Bool _ _)=>?_;exfalso;first | (simp [hg] at h;done) | (simp [hg] at h;omega))
  | intro _
  | omega
  | exact rfl)
theorem readyS_T (G B R K:Int)(N L:Nat):(exFn Tryz.prog {tb:=[(93,sGeo),(19,sBank),(94,sFill)]} 400 Tryz.f17 ([.a (.agg [.int G,.int B,.int R,.int K])]) ([]) (fun v_ ch=>∃ (b:Nat),v_.den=.agg #[.slice (some ⟨b,0,none⟩) L L,.slice none 0 0]∧SelS ch [2] [.row ⟨true,some ⟨b,0,none⟩,3,1,L,L,[fun i=>.int (-1)]⟩]))=(
 ∀ c d:Nat,c=c∧((! (geoB G B R K))=true→d=d∧d=d∧∃ g:Nat,(Wa [Wn,Wn])=(Wa [Ws (Ad g 0) L L,Wn])∧SelS [Hc c 38 [Ci G,Ci B,Ci R,Ci K],Hc d 53 [Cz,Cz]] [2] [Hr true (Ad g 0) 3 1 L L [fun h=>Ci (-1)]])∧((! (geoB G B R K))=false→c=c∧rng ((bankN G B R K)+(1:Int))∧rng ((9:Int)*((bankN G B R K)+(1:Int)))∧∃ g:Nat,isN ((9:Int)*((bankN G B R K)+(1:Int))) g 1000∧∀ h:Nat,d=d∧d=d∧∃ j:Nat,(Wa [Ws (Ad h 0) g g,Wn])=(Wa [Ws (Ad j 0) L L,Wn])∧SelS [Hc c 38 [Ci G,Ci B,Ci R,Ci K],Hc d 53 [Cs 2 (Ad h 0) g g,Cz],Hr true (Ad h 0) 3 1 g g [fun k=>Ci (-1)]] [2] [Hr true (Ad j 0) 3 1 L L [fun k=>Ci (-1)]])):=by kernel_rfl
theorem readyS_any (G B R K:Int)(N L:Nat)(w:World)(hg:geoB G B R K=true)(hN:bankN G B R K=(N:Int))(h8:1≤N∧N≤8)(hL:L=9*(N+1)):Calls Tryz.prog 17 #[.agg #[.int .i64 G,.int .i64 B,.int .i64 R,.int .i64 K]] w fun e w'=>∃ (b:Nat),e=.returned (.agg #[.slice (some ⟨b,0,none⟩) L L,.slice none 0 0])∧HS ⟨w,fun _=>False⟩ [.row ⟨true,some ⟨b,0,none⟩,3,1,L,L,[fun i=>.int (-1)]⟩] w':=by
 refine fn_ok mixed (E:={tb:=[(93,sGeo),(19,sBank),(94,sFill)]}) ⟨sGeo_S,sBank_S,sFill_S,trivial⟩ Tryz.func17 (fun _ _=>loopsOK_nil _ _ _) (@Eq.mpr _ _ (readyS_T G B R K N L) ?_) (HS.start w (fun _=>False)) (fun v ch' w' ⟨b,hk⟩ hs=>⟨b,by rw [hk.1],hk.2.hs hs⟩)
 have eL:(9:Int)*((N:Int)+1)=(L:Int):=by omega
 simp only [hN,eL,Int.toNat_natCast]
 repeat' (first
  | with_reducible exact rfl
  | exact True.intro
  | with_reducible assumption
  | (show mkC _ _;exact ⟨by omega,by omega,by omega⟩)
  | (show rng _;exact ⟨by omega,by omega⟩)
  | (intro i hi;with_reducible exact rfl)
  | (intro i hi;exact rfl)
  | ((with_reducible show SelS _ _ _);exact (by refine ⟨?_,rfl⟩;repeat' (first | exact True.intro | exact rfl | refine And.intro ?_ ?_ | (intro i hi;show _=_;rfl))))
  | refine And.intro ?_ ?_
  | apply Exists.intro
  | (refine fun (h:@Eq Bool _ _)=>?_;exfalso;first | (simp [hg] at h;done) | (simp [hg] at h;omega))
  | intro _
  | omega
  | exact rfl)
def sReadyNew (N L:Nat):Sm:=fun args ch kk =>
 match args with
 | [.a (.agg [c0,c1,c2,c3])] =>
  match ints [c0,c1,c2,c3] with
  | some [G,B,R,K]=>(nwC G B R K N∧eqL L N)∧∀ (b:Nat),kk (.a (.agg [.sl (ch.length) (some ⟨b,0,none⟩) L L,.nil])) (ch ++ [.row ⟨true,some ⟨b,0,none⟩,3,1,L,L,[fun i=>.int (-1)]⟩]) []
  | _=>False
 | _=>False
theorem sReadyNew_I (N L:Nat):SmOK Tryz.prog 34 (sReadyNew N L):=by
 refine smN Tryz.call34 fun args ch kk w X h0 hs=>?_
 unfold sReadyNew at h0
 split at h0
 ·split at h0
  ·rename_i G B R K hi
   obtain ⟨qG,hi⟩:=ints_cons hi
   obtain ⟨qB,hi⟩:=ints_cons hi
   obtain ⟨qR,hi⟩:=ints_cons hi
   obtain ⟨qK,hi⟩:=ints_cons hi
   obtain ⟨⟨⟨h1,h2,h3⟩,h4⟩,h7⟩:=h0
   simp only [List.map_cons,List.map_nil,den_a,den_c,SA.den,qG,qB,qR,qK]
   exact Calls.mono (readyI_any G B R K N L w h1 h2 h3 h4) fun e w' ⟨b,he,hs'⟩=>⟨.a (.agg [.sl (ch.length) (some ⟨b,0,none⟩) L L,.nil]),_,he,hs',rfl,h7 b⟩
  ·exact h0.elim
 ·exact h0.elim
theorem sReadyNew_S (N L:Nat):SmOK Tryz.prog 17 (sReadyNew N L):=by
 refine smN Tryz.call17 fun args ch kk w X h0 hs=>?_
 unfold sReadyNew at h0
 split at h0
 ·split at h0
  ·rename_i G B R K hi
   obtain ⟨qG,hi⟩:=ints_cons hi
   obtain ⟨qB,hi⟩:=ints_cons hi
   obtain ⟨qR,hi⟩:=ints_cons hi
   obtain ⟨qK,hi⟩:=ints_cons hi
   obtain ⟨⟨⟨h1,h2,h3⟩,h4⟩,h7⟩:=h0
   simp only [List.map_cons,List.map_nil,den_a,den_c,SA.den,qG,qB,qR,qK]
   exact Calls.mono (readyS_any G B R K N L w h1 h2 h3 h4) fun e w' ⟨b,he,hs'⟩=>⟨.a (.agg [.sl (ch.length) (some ⟨b,0,none⟩) L L,.nil]),_,he,hs',rfl,h7 b⟩
  ·exact h0.elim
 ·exact h0.elim
theorem refrI_T (N:Nat)(iv:Int):(exFn Tryz.prog {tb:=[(106,sBtw)]} 400 Tryz.f38 ([.a (.c (.int (N:Int))),.a (.c (.int iv))]) ([]) (fun v_ ch=>∃ (b:Nat),OutR v_ ch (.tuple #[.agg #[.slice (some ⟨b,0,none⟩) N N,.int .i64 iv,.bool false],.bool true]) [.row ⟨true,some ⟨b,0,none⟩,3,1,N,N,[fun i=>.il 0]⟩]))=(
 ∀ d:Nat,((! (btw ((N:Nat):Int) (1:Int) (8:Int)))=false→((! (btw iv (2:Int) (10000:Int)))=true→d=d∧d=d∧∃ g:Nat,(Wu [Wa [Wn,Wi 0,Wb false],Wb false])=(Wu [Wa [Ws (Ad g 0) N N,Wi iv,Wb false],Wb true])∧((true=true∧(none:Option Addr)=(Ad g 0)∧0=N∧0=N∧true=true)∧True)∧true=true)∧((! (btw iv (2:Int) (10000:Int)))=false→((N:Nat):Int)=((N:Nat):Int)∧mkC 8 ((N:Nat):Int)∧∀ g:Nat,d=d∧d=d∧∃ h:Nat,(Wu [Wa [Ws (Ad g 0) N N,Wi iv,Wb false],Wb true])=(Wu [Wa [Ws (Ad h 0) N N,Wi iv,Wb false],Wb true])∧((true=true∧(Ad g 0)=(Ad h 0)∧3=3∧1=1∧N=N∧N=N∧(∀ j:Nat,j<N→(Wi 0)=(Wi 0))∧True)∧True)∧true=true))∧((! (btw ((N:Nat):Int) (1:Int) (8:Int)))=true→d=d∧d=d∧∃ g:Nat,(Wu [Wa [Wn,Wi 0,Wb false],Wb false])=(Wu [Wa [Ws (Ad g 0) N N,Wi iv,Wb false],Wb true])∧((true=true∧(none:Option Addr)=(Ad g 0)∧0=N∧0=N∧true=true)∧True)∧true=true)):=by kernel_rfl
theorem refrI_any (N:Nat)(iv:Int)(w:World)(h8:1≤N∧N≤8)(hv:2≤iv∧iv≤10000):Calls Tryz.prog 38 #[.int .i64 N,.int .i64 iv] w fun e w'=>∃ (b:Nat),e=.returned (.tuple #[.agg #[.slice (some ⟨b,0,none⟩) N N,.int .i64 iv,.bool false],.bool true])∧HS ⟨w,fun _=>False⟩ [.row ⟨true,some ⟨b,0,none⟩,3,1,N,N,[fun i=>.il 0]⟩] w':=by
 refine fn_ok mixed (E:={tb:=[(106,sBtw)]}) ⟨sBtwI_ok,trivial⟩ Tryz.func38 (fun _ _=>loopsOK_nil _ _ _) (@Eq.mpr _ _ (refrI_T N iv) ?_) (HS.start w (fun _=>False)) (fun v ch' w' ⟨b,hk⟩ hs=>⟨b,by rw [hk.1],hk.hs hs⟩)
 have b1:btw (N:Int) 1 8=true:=by simp [btw];omega
 have b2:btw iv 2 10000=true:=by simp [btw];omega
 repeat' (first
  | with_reducible exact rfl
  | exact True.intro
  | with_reducible assumption
  | (show mkC _ _;exact ⟨by omega,by omega,by omega⟩)
  | (show rng _;exact ⟨by omega,by omega⟩)
  | (intro i hi;with_reducible exact rfl)
  | (intro i hi;exact rfl)
  | refine And.intro ?_ ?_
  | apply Exists.intro
  | (refine fun (h:@Eq Bool _ _)=>?_;exfalso;first | (simp [b1,b2] at h;done) | (simp [b1,b2] at h;omega))
  | intro _
  | omega
  | exact rfl)
theorem refrS_T (N:Nat)(iv:Int):(exFn Tryz.prog {tb:=[(97,sBtw)]} 400 Tryz.f22 ([.a (.c (.int (N:Int))),.a (.c (.int iv))]) ([]) (fun v_ ch=>∃ (b:Nat),OutR v_ ch (.tuple #[.agg #[.slice (some ⟨b,0,none⟩) N N,.int .i64 iv,.bool false],.bool true]) [.row ⟨true,some ⟨b,0,none⟩,3,1,N,N,[fun i=>.il 0]⟩]))=(
 ∀ d:Nat,((! (btw ((N:Nat):Int) (1:Int) (8:Int)))=false→((! (btw iv (2:Int) (10000:Int)))=true→d=d∧d=d∧∃ g:Nat,(Wu [Wa [Wn,Wi 0,Wb false],Wb false])=(Wu [Wa [Ws (Ad g 0) N N,Wi iv,Wb false],Wb true])∧((true=true∧(none:Option Addr)=(Ad g 0)∧0=N∧0=N∧true=true)∧True)∧true=true)∧((! (btw iv (2:Int) (10000:Int)))=false→((N:Nat):Int)=((N:Nat):Int)∧mkC 8 ((N:Nat):Int)∧∀ g:Nat,d=d∧d=d∧∃ h:Nat,(Wu [Wa [Ws (Ad g 0) N N,Wi iv,Wb false],Wb true])=(Wu [Wa [Ws (Ad h 0) N N,Wi iv,Wb false],Wb true])∧((true=true∧(Ad g 0)=(Ad h 0)∧3=3∧1=1∧N=N∧N=N∧(∀ j:Nat,j<N→(Wi 0)=(Wi 0))∧True)∧True)∧true=true))∧((! (btw ((N:Nat):Int) (1:Int) (8:Int)))=true→d=d∧d=d∧∃ g:Nat,(Wu [Wa [Wn,Wi 0,Wb false],Wb false])=(Wu [Wa [Ws (Ad g 0) N N,Wi iv,Wb false],Wb true])∧((true=true∧(none:Option Addr)=(Ad g 0)∧0=N∧0=N∧true=true)∧True)∧true=true)):=by kernel_rfl
theorem refrS_any (N:Nat)(iv:Int)(w:World)(h8:1≤N∧N≤8)(hv:2≤iv∧iv≤10000):Calls Tryz.prog 22 #[.int .i64 N,.int .i64 iv] w fun e w'=>∃ (b:Nat),e=.returned (.tuple #[.agg #[.slice (some ⟨b,0,none⟩) N N,.int .i64 iv,.bool false],.bool true])∧HS ⟨w,fun _=>False⟩ [.row ⟨true,some ⟨b,0,none⟩,3,1,N,N,[fun i=>.il 0]⟩] w':=by
 refine fn_ok mixed (E:={tb:=[(97,sBtw)]}) ⟨sBtwS_ok,trivial⟩ Tryz.func22 (fun _ _=>loopsOK_nil _ _ _) (@Eq.mpr _ _ (refrS_T N iv) ?_) (HS.start w (fun _=>False)) (fun v ch' w' ⟨b,hk⟩ hs=>⟨b,by rw [hk.1],hk.hs hs⟩)
 have b1:btw (N:Int) 1 8=true:=by simp [btw];omega
 have b2:btw iv 2 10000=true:=by simp [btw];omega
 repeat' (first
  | with_reducible exact rfl
  | exact True.intro
  | with_reducible assumption
  | (show mkC _ _;exact ⟨by omega,by omega,by omega⟩)
  | (show rng _;exact ⟨by omega,by omega⟩)
  | (intro i hi;with_reducible exact rfl)
  | (intro i hi;exact rfl)
  | refine And.intro ?_ ?_
  | apply Exists.intro
  | (refine fun (h:@Eq Bool _ _)=>?_;exfalso;first | (simp [b1,b2] at h;done) | (simp [b1,b2] at h;omega))
  | intro _
  | omega
  | exact rfl)
def sRefrNew (N:Nat):Sm:=fun args ch kk =>
 match args with
 | [.a (.c c0),.a (.c c1)] =>
  match ints [c0,c1] with
  | some [z,iv]=>(isN z N 8∧is8 N∧iv10 iv)∧∀ (b:Nat),kk (.tup [.agg [.sl (ch.length) (some ⟨b,0,none⟩) N N,.int iv,.lit false],.c (.lit true)]) (ch ++ [.row ⟨true,some ⟨b,0,none⟩,3,1,N,N,[fun i=>.il 0]⟩]) []
  | _=>False
 | _=>False
theorem sRefrNew_I (N:Nat):SmOK Tryz.prog 38 (sRefrNew N):=by
 refine smN Tryz.call38 fun args ch kk w X h0 hs=>?_
 unfold sRefrNew at h0
 split at h0
 ·split at h0
  ·rename_i z iv hi
   obtain ⟨qz,hi⟩:=ints_cons hi
   obtain ⟨qiv,hi⟩:=ints_cons hi
   obtain ⟨⟨⟨h1,_⟩,h2,h3⟩,h7⟩:=h0
   subst h1
   simp only [List.map_cons,List.map_nil,den_a,den_c,SA.den,qz,qiv]
   exact Calls.mono (refrI_any N iv w h2 h3) fun e w' ⟨b,he,hs'⟩=>⟨.tup [.agg [.sl (ch.length) (some ⟨b,0,none⟩) N N,.int iv,.lit false],.c (.lit true)],_,he,hs',rfl,h7 b⟩
  ·exact h0.elim
 ·exact h0.elim
theorem sRefrNew_S (N:Nat):SmOK Tryz.prog 22 (sRefrNew N):=by
 refine smN Tryz.call22 fun args ch kk w X h0 hs=>?_
 unfold sRefrNew at h0
 split at h0
 ·split at h0
  ·rename_i z iv hi
   obtain ⟨qz,hi⟩:=ints_cons hi
   obtain ⟨qiv,hi⟩:=ints_cons hi
   obtain ⟨⟨⟨h1,_⟩,h2,h3⟩,h7⟩:=h0
   subst h1
   simp only [List.map_cons,List.map_nil,den_a,den_c,SA.den,qz,qiv]
   exact Calls.mono (refrS_any N iv w h2 h3) fun e w' ⟨b,he,hs'⟩=>⟨.tup [.agg [.sl (ch.length) (some ⟨b,0,none⟩) N N,.int iv,.lit false],.c (.lit true)],_,he,hs',rfl,h7 b⟩
  ·exact h0.elim
 ·exact h0.elim
theorem trknI_T (k:Nat):(exFn Tryz.prog {tb:=[(106,sBtw),(108,sRep)]} 400 Tryz.f42 ([.a (.c (.int (k:Int)))]) ([]) (fun v_ ch=>∃ (b:Nat) (d:Nat),OutR v_ ch (.tuple #[.agg #[.slice (some ⟨b,0,none⟩) k k,.slice (some ⟨d,0,none⟩) k k,.int .i64 0],.bool true]) [.row ⟨true,some ⟨b,0,none⟩,3,1,k,k,[fun i=>.int (-1)]⟩,.row ⟨true,some ⟨d,0,none⟩,3,1,k,k,[fun i=>.il 0]⟩]))=(
 (fun g:Value=>(fun h:Value=>(fun j:Prop=>(fun l:Bool=>(fun m:Prop=>∀ n:Nat,(l=true→n=n∧n=n∧∃ o p:Nat,(Wu [Wa [Wn,Wn,g],Wb false])=(Wu [Wa [Ws (Ad o 0) k k,Ws (Ad p 0) k k,g],h])∧((true=true∧(none:Option Addr)=(Ad o 0)∧j)∧(true=true∧(none:Option Addr)=(Ad p 0)∧j)∧True)∧true=true)∧(l=false→(∀ o:Nat,True∧(o=o∧∃ p:Nat,(1=1∧((-1):Int)=((-1):Int)∧((k:Nat):Int)=((p:Nat):Int)∧is16 p)∧∀ q:Nat,True∧((k:Nat):Int)=((k:Nat):Int)∧mkC 8 ((k:Nat):Int)∧∀ r:Nat,True∧n=n∧True∧n=n∧∃ s t:Nat,(Wu [Wa [Ws (Ad q 0) p p,Ws (Ad r 0) k k,g],h])=(Wu [Wa [Ws (Ad s 0) k k,Ws (Ad t 0) k k,g],h])∧((true=true∧(Ad q 0)=(Ad s 0)∧3=3∧1=1∧p=k∧p=k∧(∀ u:Nat,u<p→(Wi (-1))=(Wi (-1)))∧True)∧(true=true∧(Ad r 0)=(Ad t 0)∧m)∧True)∧true=true)∧((k:Nat):Int)=((k:Nat):Int)∧mkC 8 ((k:Nat):Int)∧∀ p:Nat,True∧o=o∧∃ q:Nat,(1=1∧((-1):Int)=((-1):Int)∧((k:Nat):Int)=((q:Nat):Int)∧is16 q)∧∀ r:Nat,True∧n=n∧True∧n=n∧∃ s t:Nat,(Wu [Wa [Ws (Ad r 0) q q,Ws (Ad p 0) k k,g],h])=(Wu [Wa [Ws (Ad s 0) k k,Ws (Ad t 0) k k,g],h])∧((true=true∧(Ad r 0)=(Ad s 0)∧3=3∧1=1∧q=k∧q=k∧(∀ u:Nat,u<q→(Wi (-1))=(Wi (-1)))∧True)∧(true=true∧(Ad p 0)=(Ad t 0)∧m)∧True)∧true=true)∧((k:Nat):Int)=((k:Nat):Int)∧mkC 8 ((k:Nat):Int)∧∀ o:Nat,True∧∀ p:Nat,True∧p=p∧∃ q:Nat,(1=1∧((-1):Int)=((-1):Int)∧((k:Nat):Int)=((q:Nat):Int)∧is16 q)∧∀ r:Nat,True∧n=n∧True∧n=n∧∃ s t:Nat,(Wu [Wa [Ws (Ad r 0) q q,Ws (Ad o 0) k k,g],h])=(Wu [Wa [Ws (Ad s 0) k k,Ws (Ad t 0) k k,g],h])∧((true=true∧(Ad r 0)=(Ad s 0)∧3=3∧1=1∧q=k∧q=k∧(∀ u:Nat,u<q→(Wi (-1))=(Wi (-1)))∧True)∧(true=true∧(Ad o 0)=(Ad t 0)∧m)∧True)∧true=true)) (3=3∧1=1∧k=k∧k=k∧(∀ m:Nat,m<k→g=g)∧True)) (! (btw ((k:Nat):Int) (1:Int) (16:Int)))) (0=k∧0=k∧true=true)) (Wb true)) (Wi 0)):=by kernel_rfl
theorem trknI_any (k:Nat)(w:World)(hk:1≤k∧k≤16):Calls Tryz.prog 42 #[.int .i64 k] w fun e w'=>∃ (b:Nat) (d:Nat),e=.returned (.tuple #[.agg #[.slice (some ⟨b,0,none⟩) k k,.slice (some ⟨d,0,none⟩) k k,.int .i64 0],.bool true])∧HS ⟨w,fun _=>False⟩ [.row ⟨true,some ⟨b,0,none⟩,3,1,k,k,[fun i=>.int (-1)]⟩,.row ⟨true,some ⟨d,0,none⟩,3,1,k,k,[fun i=>.il 0]⟩] w':=by
 refine fn_ok mixed (E:={tb:=[(106,sBtw),(108,sRep)]}) ⟨sBtwI_ok,sRep_ok,trivial⟩ Tryz.func42 (fun _ _=>loopsOK_nil _ _ _) (@Eq.mpr _ _ (trknI_T k) ?_) (HS.start w (fun _=>False)) (fun v ch' w' ⟨b,d,hk⟩ hs=>⟨b,d,by rw [hk.1],hk.hs hs⟩)
 dsimp -zeta -proj -iota -eta -failIfUnchanged (etaStruct:=.none) only
 have b1:btw (k:Int) 1 16=true:=by simp [btw];omega
 repeat' (first
  | with_reducible exact rfl
  | exact True.intro
  | with_reducible assumption
  | (show mkC _ _;exact ⟨by omega,by omega,by omega⟩)
  | (show rng _;exact ⟨by omega,by omega⟩)
  | (intro i hi;with_reducible exact rfl)
  | (intro i hi;exact rfl)
  | (show isN _ _ _;exact ⟨rfl,by omega⟩)
  | refine And.intro ?_ ?_
  | apply Exists.intro
  | (refine fun (h:@Eq Bool _ _)=>?_;exfalso;first | (simp [b1] at h;done) | (simp [b1] at h;omega))
  | intro _
  | omega
  | exact rfl)
theorem trknS_T (k:Nat):(exFn Tryz.prog {tb:=[(97,sBtw),(94,sFill)]} 400 Tryz.f23 ([.a (.c (.int (k:Int)))]) ([]) (fun v_ ch=>∃ (b:Nat) (d:Nat),OutR v_ ch (.tuple #[.agg #[.slice (some ⟨b,0,none⟩) k k,.slice (some ⟨d,0,none⟩) k k,.int .i64 0],.bool true]) [.row ⟨true,some ⟨b,0,none⟩,3,1,k,k,[fun i=>.int (-1)]⟩,.row ⟨true,some ⟨d,0,none⟩,3,1,k,k,[fun i=>.il 0]⟩]))=(
 (fun g:Value=>(fun h:Value=>(fun j:Prop=>(fun l:Bool=>(fun m:Prop=>∀ n:Nat,(l=true→n=n∧n=n∧∃ o p:Nat,(Wu [Wa [Wn,Wn,g],Wb false])=(Wu [Wa [Ws (Ad o 0) k k,Ws (Ad p 0) k k,g],h])∧((true=true∧(none:Option Addr)=(Ad o 0)∧j)∧(true=true∧(none:Option Addr)=(Ad p 0)∧j)∧True)∧true=true)∧(l=false→(∃ o:Nat,isN ((k:Nat):Int) o 1000∧∀ p:Nat,True∧((k:Nat):Int)=((k:Nat):Int)∧mkC 8 ((k:Nat):Int)∧∀ q:Nat,True∧n=n∧True∧n=n∧∃ r s:Nat,(Wu [Wa [Ws (Ad p 0) o o,Ws (Ad q 0) k k,g],h])=(Wu [Wa [Ws (Ad r 0) k k,Ws (Ad s 0) k k,g],h])∧((true=true∧(Ad p 0)=(Ad r 0)∧3=3∧1=1∧o=k∧o=k∧(∀ t:Nat,t<o→(Wi (-1))=(Wi (-1)))∧True)∧(true=true∧(Ad q 0)=(Ad s 0)∧m)∧True)∧true=true)∧((k:Nat):Int)=((k:Nat):Int)∧mkC 8 ((k:Nat):Int)∧∀ o:Nat,True∧∃ p:Nat,isN ((k:Nat):Int) p 1000∧∀ q:Nat,True∧n=n∧True∧n=n∧∃ r s:Nat,(Wu [Wa [Ws (Ad q 0) p p,Ws (Ad o 0) k k,g],h])=(Wu [Wa [Ws (Ad r 0) k k,Ws (Ad s 0) k k,g],h])∧((true=true∧(Ad q 0)=(Ad r 0)∧3=3∧1=1∧p=k∧p=k∧(∀ t:Nat,t<p→(Wi (-1))=(Wi (-1)))∧True)∧(true=true∧(Ad o 0)=(Ad s 0)∧m)∧True)∧true=true)) (3=3∧1=1∧k=k∧k=k∧(∀ m:Nat,m<k→g=g)∧True)) (! (btw ((k:Nat):Int) (1:Int) (16:Int)))) (0=k∧0=k∧true=true)) (Wb true)) (Wi 0)):=by kernel_rfl
theorem trknS_any (k:Nat)(w:World)(hk:1≤k∧k≤16):Calls Tryz.prog 23 #[.int .i64 k] w fun e w'=>∃ (b:Nat) (d:Nat),e=.returned (.tuple #[.agg #[.slice (some ⟨b,0,none⟩) k k,.slice (some ⟨d,0,none⟩) k k,.int .i64 0],.bool true])∧HS ⟨w,fun _=>False⟩ [.row ⟨true,some ⟨b,0,none⟩,3,1,k,k,[fun i=>.int (-1)]⟩,.row ⟨true,some ⟨d,0,none⟩,3,1,k,k,[fun i=>.il 0]⟩] w':=by
 refine fn_ok mixed (E:={tb:=[(97,sBtw),(94,sFill)]}) ⟨sBtwS_ok,sFill_S,trivial⟩ Tryz.func23 (fun _ _=>loopsOK_nil _ _ _) (@Eq.mpr _ _ (trknS_T k) ?_) (HS.start w (fun _=>False)) (fun v ch' w' ⟨b,d,hk⟩ hs=>⟨b,d,by rw [hk.1],hk.hs hs⟩)
 dsimp -zeta -proj -iota -eta -failIfUnchanged (etaStruct:=.none) only
 have b1:btw (k:Int) 1 16=true:=by simp [btw];omega
 repeat' (first
  | with_reducible exact rfl
  | exact True.intro
  | with_reducible assumption
  | (show mkC _ _;exact ⟨by omega,by omega,by omega⟩)
  | (show rng _;exact ⟨by omega,by omega⟩)
  | (intro i hi;with_reducible exact rfl)
  | (intro i hi;exact rfl)
  | (show isN _ _ _;exact ⟨rfl,by omega⟩)
  | refine And.intro ?_ ?_
  | apply Exists.intro
  | (refine fun (h:@Eq Bool _ _)=>?_;exfalso;first | (simp [b1] at h;done) | (simp [b1] at h;omega))
  | intro _
  | omega
  | exact rfl)
def sTrkNew (k:Nat):Sm:=fun args ch kk =>
 match args with
 | [.a (.c c0)] =>
  match ints [c0] with
  | some [z]=>(isN z k 16∧is16 k)∧∀ (b d:Nat),kk (.tup [.agg [.sl (ch.length) (some ⟨b,0,none⟩) k k,.sl (ch.length+1) (some ⟨d,0,none⟩) k k,.il 0],.c (.lit true)]) (ch ++ [.row ⟨true,some ⟨b,0,none⟩,3,1,k,k,[fun i=>.int (-1)]⟩,.row ⟨true,some ⟨d,0,none⟩,3,1,k,k,[fun i=>.il 0]⟩]) []
  | _=>False
 | _=>False
theorem sTrkNew_I (k:Nat):SmOK Tryz.prog 42 (sTrkNew k):=by
 refine smN Tryz.call42 fun args ch kk w X h0 hs=>?_
 unfold sTrkNew at h0
 split at h0
 ·split at h0
  ·rename_i z hi
   obtain ⟨qz,hi⟩:=ints_cons hi
   obtain ⟨⟨⟨h1,_⟩,h2⟩,h7⟩:=h0
   subst h1
   simp only [List.map_cons,List.map_nil,den_a,den_c,SA.den,qz]
   exact Calls.mono (trknI_any k w h2) fun e w' ⟨b,d,he,hs'⟩=>⟨.tup [.agg [.sl (ch.length) (some ⟨b,0,none⟩) k k,.sl (ch.length+1) (some ⟨d,0,none⟩) k k,.il 0],.c (.lit true)],_,he,hs',rfl,h7 b d⟩
  ·exact h0.elim
 ·exact h0.elim
theorem sTrkNew_S (k:Nat):SmOK Tryz.prog 23 (sTrkNew k):=by
 refine smN Tryz.call23 fun args ch kk w X h0 hs=>?_
 unfold sTrkNew at h0
 split at h0
 ·split at h0
  ·rename_i z hi
   obtain ⟨qz,hi⟩:=ints_cons hi
   obtain ⟨⟨⟨h1,_⟩,h2⟩,h7⟩:=h0
   subst h1
   simp only [List.map_cons,List.map_nil,den_a,den_c,SA.den,qz]
   exact Calls.mono (trknS_any k w h2) fun e w' ⟨b,d,he,hs'⟩=>⟨.tup [.agg [.sl (ch.length) (some ⟨b,0,none⟩) k k,.sl (ch.length+1) (some ⟨d,0,none⟩) k k,.il 0],.c (.lit true)],_,he,hs',rfl,h7 b d⟩
  ·exact h0.elim
 ·exact h0.elim
theorem HS.cellRow {X:Cx}{ch:List Ch}{w:World}(h:HS X ch w)(id n:Nat){b:Nat}{t:TypeId}{cs:List SC}{l:List Int}(hid:ch[id]?=some (.cells b t cs))(hl:intL cs=some l)(hn:n≤cs.length)(hm:cs.length≤1099511627776):HS X (ch.set id (.row ⟨true,some ⟨b,0,none⟩,t,1,n,cs.length,[fun i=>.int (litZ l i)]⟩)) w:=by
 have at1:∀ k,(Ch.row ⟨true,some ⟨b,0,none⟩,t,1,n,cs.length,[fun i=>.int (litZ l i)]⟩).at k→(Ch.cells b t cs).at k:=fun k hk=>by
  obtain ⟨_,off,hk⟩:=hk
  injection hk with hk
  injection hk with hk
  exact hk.symm
 refine ⟨h.fr,fun i c hc=>?_,fun i j ci cj k hij hi hj ho hai haj=>?_,fun i c k hc ho ha=>?_⟩
 ·rcases get_set hc with ⟨rfl,rfl,_⟩ | ⟨_,hc⟩
  ·exact cells_own (h.sat _ _ hid) hl hn hm
  ·exact h.sat i c hc
 ·rcases get_set hi with ⟨rfl,rfl,_⟩ | ⟨hni,hi1⟩
  ·rcases get_set hj with ⟨rfl,_,_⟩ | ⟨_,hj1⟩
   ·exact hij rfl
   ·exact h.dis _ j _ cj k hij hid hj1 rfl (at1 k hai) haj
  ·rcases get_set hj with ⟨rfl,rfl,_⟩ | ⟨_,hj1⟩
   ·exact h.dis i _ ci _ k hij hi1 hid ho hai (at1 k haj)
   ·exact h.dis i j ci cj k hij hi1 hj1 ho hai haj
 ·rcases get_set hc with ⟨rfl,rfl,_⟩ | ⟨_,hc⟩
  ·exact h.new _ _ k hid rfl (at1 k ha)
  ·exact h.new i c k hc ho ha
def zCD (j:Nat):CD:=⟨j,fun _=>11,fun _ _=>0,fun _=>false⟩
def anT (G B R K:Int)(bg br bo:Nat)(j:Nat)(Oq:Option Addr)(Cq:Nat)(soq:Nat→Option Addr)(scq:Nat→Nat):List Ch:=[.cells bg 38 [.int G,.int B,.int R,.int K],.cells br 56 [.nil,.nil,.nil],.cells bo 56 [.sl 3 Oq j Cq,.nil,.nil],.row ⟨true,Oq,149,2,j,Cq,cellFld 4 (zCD j) soq scq⟩,.obj true (symRows true 3 (zCD j) soq scq)]
def idsAn (ts:List SV):List Nat:=[idP (ts.getD 1 .undef),idP (ts.getD 2 .undef),idP (ts.getD 3 .undef),1000000,1000003]
def anH (G B R K:Int)(bg br bo:Nat)(i:SC)(g:Nat→Value):List SV:=[.a (.c (.val (g 0))),.a (.c (.ptr 0 bg 0)),.a (.c (.ptr 1 br 0)),.a (.c (.ptr 2 bo 0)),.a (.c i),.a (.c (.val (g 5))),.a (.c (.val (g 6))),.a (.c (.val (g 7))),.a (.c (.val (g 8))),.a (.c (.val (g 9))),.a (.c (.val (g 10))),.a (.c (.val (g 11))),.a (.c (.val (g 12))),.a (.c (.val (g 13))),.a (.c (.val (g 14))),.a (.c (.val (g 15))),.a (.c (.val (g 16))),.a (.c (.val (g 17))),.a (.c (.val (g 18))),.a (.c (.val (g 19))),.a (.c (.val (g 20))),.a (.c (.val (g 21))),.a (.c (.val (g 22))),.a (.c (.val (g 23))),.a (.c (.val (g 24))),.a (.c (.val (g 25))),.a (.c (.val (g 26))),.a (.c (.val (g 27))),.a (.c (.val (g 28))),.a (.c (.val (g 29))),.a (.c (.val (g 30))),.a (.c (.val (g 31))),.a (.c (.val (g 32))),.a (.c (.val (g 33))),.a (.c (.val (g 34))),.a (.c (.val (g 35))),.a (.c (.val (g 36))),.a (.c (.val (g 37))),.a (.c (.val (g 38)))]
theorem anB (G B R K:Int)(bg br bo:Nat)(Oq:Option Addr)(Cq:Nat)(soq:Nat→Option Addr)(scq:Nat→Nat)(j:Nat)(g:Nat→Value)(NX:List SV→List Ch→Prop)(kx:Exit→List SV→List Ch→Prop):(exCode Tryz.prog {tb:=[(95,sLine)],D:=fun _=>[3]} 400 (theLoop Tryz.f18 0) (anH G B R K bg br bo (.int (j:Int)) g) (anT G B R K bg br bo j Oq Cq soq scq) (loopK NX kx))=(
 (fun a:SC=>(fun b:SV=>(fun c:Int=>(fun d:SV=>(fun h:SV=>(fun k:SV=>(fun l:Ch=>(fun m:Bool=>(fun n:Ch=>bg=bg∧(m=true→bo=bo∧∀ o:Nat,True∧∀ p:Nat,True∧(Oq=Oq∧j=j∧Cq=Cq∧p=p∧(∀ q:Nat,true=true)∧apC j 1 32)∧∀(q:Option Addr) (r:Nat),True∧bo=bo∧True∧rng (((j:Nat):Int)+(1:Int))∧NX [vV (g 0),pV 0 bg 0,pV 1 br 0,b,h,vV (g 5),vV (g 6),d,k,iV c,tV,d,h,b,sV 3 Oq j Cq,cV 5 o 11 11,aV [Cc 5 o 11 11,Cf],cV 6 p 1 1,sV 7 q (j+1) r,b,vV (g 20),vV (g 21),vV (g 22),vV (g 23),vV (g 24),vV (g 25),vV (g 26),vV (g 27),vV (g 28),vV (g 29),vV (g 30),vV (g 31),vV (g 32),vV (g 33),vV (g 34),vV (g 35),vV (g 36),vV (g 37),vV (g 38)] [l,Hc br 56 [Cz,Cz,Cz],Hc bo 56 [Cs 7 q (j+1) r,Cz,Cz],Hd,n,Hc o 3 [a,a,a,a,a,a,a,a,a,a,a],Hc p 149 [Cc 5 o 11 11,Cf],Hr true q 149 2 (j+1) r [fun s=>Cv (if s<j then (Ws (soq s) 11 (scq s)) else (Ws (Ad o 0) 11 11)),fun s=>Cb (if s<j then false else false)]])∧(m=false→kx (Exit.exit 0) [vV (g 0),pV 0 bg 0,pV 1 br 0,b,d,vV (g 5),vV (g 6),d,k,iV c,fV,vV (g 11),vV (g 12),vV (g 13),vV (g 14),vV (g 15),vV (g 16),vV (g 17),vV (g 18),vV (g 19),vV (g 20),vV (g 21),vV (g 22),vV (g 23),vV (g 24),vV (g 25),vV (g 26),vV (g 27),vV (g 28),vV (g 29),vV (g 30),vV (g 31),vV (g 32),vV (g 33),vV (g 34),vV (g 35),vV (g 36),vV (g 37),vV (g 38)] [l,Hc br 56 [Cz,Cz,Cz],Hc bo 56 [Cs 3 Oq j Cq,Cz,Cz],Hr true Oq 149 2 j Cq [fun o=>Cs 4 (soq o) 11 (scq o),fun o=>Cb false],n])) (Ho true (symRows true 3 (CD.mk j (fun n=>11) (fun n=>fun o=>(0:Int)) (fun n=>false)) soq scq))) (decide (((j:Nat):Int)<c))) (Hc bg 38 [Ci G,Ci B,Ci R,Ci K])) (aV [Ci G,Ci B,Ci R,Ci K])) (iV (((j:Nat):Int)+(1:Int)))) (iV ((j:Nat):Int))) (lineN G B R K)) (pV 2 bo 0)) (Cl 0)):=by kernel_rfl
theorem zRow {j:Nat}{soq:Nat→Option Addr}{scq:Nat→Nat}{a:Option Addr}{c:Nat}:symRows true 3 (zCD j) soq scq ++ [⟨true,a,3,1,11,c,[fun i=>.int 0]⟩]=symRows true 3 (zCD (j+1)) (fun i=>if i<j then soq i else a) (fun i=>if i<j then scq i else c):=symRows_push (x:=zCD j)
theorem lz11 (i:Nat)(hi:i<11):litZ [0,0,0,0,0,0,0,0,0,0,0] i=0:=by
 have h11:i=0∨i=1∨i=2∨i=3∨i=4∨i=5∨i=6∨i=7∨i=8∨i=9∨i=10:=by omega
 rcases h11 with rfl | rfl | rfl | rfl | rfl | rfl | rfl | rfl | rfl | rfl | rfl <;> rfl
def san (G B R K:Int)(n:Nat):LSm:=fun ts ch kk=>∃ (bg br bo:Nat),(ts.map SV.den=(anH G B R K bg br bo (.il 0) (fun d=>(ts.getD d .undef).den)).map SV.den∧SelS ch (idsAn ts) (anT G B R K bg br bo 0 none 0 (fun _=>none) (fun _=>0))) ∧
  ∀ (g:Nat→Value) (Oq:Option Addr) (Cq:Nat) (soq:Nat→Option Addr) (scq:Nat→Nat),kk (.exit 0) (anH G B R K bg br bo (.int (n:Int)) g) (anT G B R K bg br bo n Oq Cq soq scq)
theorem san_ok (G B R K:Int)(n:Nat)(hn:(n:Int)=lineN G B R K)(hm:n≤1024)(X:Cx):LoopOK Tryz.prog X (theLoop Tryz.f18 0) (san G B R K n):=by
 intro ts ch kk a w hS hT hd hs
 obtain ⟨bg,br,bo,⟨h1,hch⟩,hk⟩:=hS
 refine loop_ok mixed (E:={tb:=[(95,sLine)],D:=fun _=>[3]}) ⟨sLine_S,trivial⟩ (loopsOK_nil _ _ _) 400 n (fun j ts ch=>∃ g Oq Cq soq scq,ts=anH G B R K bg br bo (.int (j:Int)) g∧ch=anT G B R K bg br bo j Oq Cq soq scq) ?_ ?_ hT hd hs
 ·rintro j _ _ ⟨g,Oq,Cq,soq,scq,rfl,rfl⟩ hj
  refine (@Eq.mpr _ _ (anB G B R K bg br bo Oq Cq soq scq j g _ _) ?_)
  dsimp -zeta -proj -iota -eta -failIfUnchanged (etaStruct:=.none) only
  rw [← hn]
  by_cases hlt:j<n
  ·repeat' (first
    | with_reducible exact rfl
    | exact True.intro
    | with_reducible assumption
    | (show Next _ _ _ _;rename_i b0 b1 ao cap;refine Next.mk (fun g=>anH G B R K bg br bo (.int ((j+1:Nat):Int)) g) (anT G B R K bg br bo (j+1) ao cap (fun i=>if i<j then soq i else some ⟨b0,0,none⟩) (fun i=>if i<j then scq i else 11)) ⟨_,ao,cap,_,_,rfl,rfl⟩ rfl fun w hw=>SelS.hs (l:=[0,1,2,7,4]) (by refine ⟨?_,rfl⟩;repeat' (first | exact True.intro | exact symRows_push | exact rfl | refine And.intro ?_ ?_ | (intro i hi;show _=_;with_reducible rfl) | (intro i hi;show _=_;rfl) | exact push_hd | exact zRow | exact push_po | (intro i hi;show _=_;simp only [SC.den];split <;> rfl))) (((hw.cellRow 5 11 rfl rfl (by decide) (by decide)).re 5 _ rfl [fun i=>.int 0] ⟨fun i hi=>(by show SC.den (.int _)=SC.den (.int _);rw [lz11 i hi]),trivial⟩).nestApp 4 5 rfl rfl rfl (by decide)))
    | refine And.intro ?_ ?_
    | (intro h;replace h:=of_decide_eq_true h;first | (exfalso;omega) | skip)
    | (intro h;replace h:=of_decide_eq_false h;first | (exfalso;omega) | skip)
    | (show rng _;simp only [rng];omega)
    | (intro i hi;rfl)
    | intro _
    | omega
    | (simp;omega))
  ·have hjn:j=n:=by omega
   subst hjn
   repeat' (first
    | with_reducible exact rfl
    | exact True.intro
    | with_reducible assumption
    | (refine Next.mk (fun g=>anH G B R K bg br bo (.int (j:Int)) g) _ (hk _ _ _ _ _) rfl fun w hw=>hw)
    | refine And.intro ?_ ?_
    | (intro h;replace h:=of_decide_eq_true h;first | (exfalso;omega) | skip)
    | (intro h;replace h:=of_decide_eq_false h;first | (exfalso;omega) | skip)
    | intro _
    | omega)
 ·exact Next.mk (fun g=>anH G B R K bg br bo (.int ((0:Nat):Int)) g) _ ⟨_,_,_,_,_,rfl,rfl⟩ h1 fun w hw=>hch.hs hw
def newA (n m:Nat):AD:=⟨zCD n,m,fun _=>0,m,fun _=>0⟩
theorem anw_T (G B R K:Int)(n m:Nat):(exFn Tryz.prog {tb:=[(19,sBank),(93,sGeo)],L:=[(3,san G B R K n)]} 400 Tryz.f18 ([.a (.agg [.int G,.int B,.int R,.int K])]) ([]) (fun v ch=>∃ (Oq Aq Hq:Option Addr) (Cq Dq Ee:Nat) (soq:Nat→Option Addr) (scq:Nat→Nat),v.den=arrV (newA n m) Oq Aq Hq Cq Dq Ee∧SelS ch (idsArr v ch) (arrO 0 (newA n m) Oq Aq Hq Cq Dq Ee soq scq)))=(
 (fun b:Value=>(fun c:SC=>(fun d:Int=>(fun g:List (Nat→SC)=>(fun h:List SC=>(fun j:Nat=>(fun k:Value=>(fun l:Bool=>(fun o:CD=>∀ p q r:Nat,r=r∧∃ s t u:Nat,(fun w:Ch=>([k,Wp p 0,Wp q 0,Wp r 0,Wi 0,b,Wa [Wn,Wn,Wn],b,b,b,b,b,b,b,b,b,b,b,b,b,b,b,b,b,b,b,b,b,b,b,b,b,b,b,b,b,b,b,b]=[k,Wp s 0,Wp t 0,Wp u 0,Wi 0,b,Wa [Wn,Wn,Wn],b,b,b,b,b,b,b,b,b,b,b,b,b,b,b,b,b,b,b,b,b,b,b,b,b,b,b,b,b,b,b,b]∧SelS [Hc p 38 h,Hc q 56 [Cz,Cz,Cz],Hc r 56 [Cz,Cz,Cz]] [0,1,2,1000000,1000003] [w,Hc t 56 [Cz,Cz,Cz],Hc u 56 [Cs 3 (none:Option Addr) 0 0,Cz,Cz],Hr true (none:Option Addr) 149 2 0 0 [fun x=>Cs 4 (none:Option Addr) 11 0,fun x=>c],Ho true (symRows true 3 (CD.mk 0 (fun x=>11) (fun x=>fun y=>(0:Int)) (fun x=>false)) (fun x=>(none:Option Addr)) (fun x=>0))])∧∀(x:Nat→Value) (y:Option Addr) (z:Nat) (C:Nat→Option Addr) (D:Nat→Nat),(fun E:SC=>(fun F:Ch=>(fun H:Ch=>(fun I:Prop=>s=s∧s=s∧True∧rng (d*R)∧(l=false→s=s∧((! (geoB G B R K))=true→I)∧((! (geoB G B R K))=false→(d*R)=(d*R)∧mkC 8 (d*R)∧∀ J:Nat,u=u∧(d*R)=(d*R)∧mkC 8 (d*R)∧∀ M:Nat,u=u∧u=u∧t=t∧t=t∧∃(N O P:Option Addr) (Q S T:Nat) (U:Nat→Option Addr) (V:Nat→Nat),(Wa [Ws y n z,Ws (Ad J 0) j j,Ws (Ad M 0) j j])=(Wa [Ws N n Q,Ws O m S,Ws P m T])∧SelS [w,Hc t 56 [E,Cs 5 (Ad J 0) j j,Cs 6 (Ad M 0) j j],Hc u 56 [E,Cs 5 (Ad J 0) j j,Cs 6 (Ad M 0) j j],H,F,Hr true (Ad J 0) 3 1 j j [fun W=>Cl 0],Hr true (Ad M 0) 3 1 j j [fun W=>Cl 0]] [3,5,6,4] [Hr true N 149 2 n Q [fun W=>Cs 3 (U W) 11 (V W),fun W=>c],Hr true O 3 1 m S g,Hr true P 3 1 m T g,Ho true (symRows true 3 o U V)]))∧(l=true→I)) (∀ I:Nat,u=u∧∀ J:Nat,u=u∧u=u∧t=t∧t=t∧∃(M N O:Option Addr) (P Q S:Nat) (T:Nat→Option Addr) (U:Nat→Nat),(Wa [Ws y n z,Ws (Ad I 0) 0 0,Ws (Ad J 0) 0 0])=(Wa [Ws M n P,Ws N m Q,Ws O m S])∧SelS [w,Hc t 56 [E,Cc 5 I 0 0,Cc 6 J 0 0],Hc u 56 [E,Cc 5 I 0 0,Cc 6 J 0 0],H,F,Hc I 3 [],Hc J 3 []] [3,5,6,4] [Hr true M 149 2 n P [fun V=>Cs 3 (T V) 11 (U V),fun V=>c],Hr true N 3 1 m Q g,Hr true O 3 1 m S g,Ho true (symRows true 3 o T U)])) (Hr true y 149 2 n z [fun H=>Cs 4 (C H) 11 (D H),fun H=>c])) (Ho true (symRows true 3 o C D))) (Cs 3 y n z)) (Hc s 38 h)) (CD.mk n (fun o=>11) (fun o=>fun p=>(0:Int)) (fun o=>false))) (decide ((d*R)<(0:Int)))) (Wa [Wi G,Wi B,Wi R,Wi K])) (Int.toNat (d*R))) [Ci G,Ci B,Ci R,Ci K]) [fun g=>Ci 0]) (bankN G B R K)) (Cb false)) (Wu [])):=by kernel_rfl
theorem anw_any (G B R K:Int)(n m:Nat)(w:World)(hg:geoB G B R K=true)(hn:(n:Int)=lineN G B R K)(hm:m=(bankN G B R K*R).toNat):Calls Tryz.prog 18 #[.agg #[.int .i64 G,.int .i64 B,.int .i64 R,.int .i64 K]] w fun e w'=>∃ (Oq Aq Hq:Option Addr) (Cq Dq Ee:Nat) (soq:Nat→Option Addr) (scq:Nat→Nat),e=.returned (arrV (newA n m) Oq Aq Hq Cq Dq Ee)∧HS ⟨w,fun _=>False⟩ (arrO 0 (newA n m) Oq Aq Hq Cq Dq Ee soq scq) w':=by
 have hb0:=geo_bank hg
 have hbk:bankN G B R K=G*B:=by simp [bankN,hg]
 rw [← hbk] at hb0
 have hR:=(geo_facts hg).2.2.1
 have hb:2≤bankN G B R K*R∧bankN G B R K*R≤128:=by
  have q1:1*2≤bankN G B R K*R:=Int.mul_le_mul hb0.1 hR.1 (by omega) (by omega)
  have q2:bankN G B R K*R≤8*16:=Int.mul_le_mul hb0.2 hR.2 (by omega) (by omega)
  omega
 have hn16:n≤1024:=by
  have hK:=(geo_facts hg).2.2.2
  have e:lineN G B R K=bankN G B R K*R*K:=line_row hg
  have q:bankN G B R K*R*K≤128*8:=Int.mul_le_mul hb.2 hK.2 (by omega) (by omega)
  omega
 refine fn_ok mixed (E:={tb:=[(19,sBank),(93,sGeo)],L:=[(3,san G B R K n)]}) ⟨sBank_S,sGeo_S,trivial⟩ Tryz.func18 (one_loop (by kernel_rfl) (by kernel_rfl) (san_ok G B R K n hn hn16 _)) (@Eq.mpr _ _ (anw_T G B R K n m) ?_) (HS.rows (fun _=>False) [] (by simp)) (fun v ch' w' ⟨Oq,Aq,Hq,Cq,Dq,Ee,soq,scq,hv,hc⟩ hs=>⟨Oq,Aq,Hq,Cq,Dq,Ee,soq,scq,by rw [hv],hc.hs hs⟩)
 dsimp -zeta -proj -iota -eta -failIfUnchanged (etaStruct:=.none) only
 rw [hg]
 subst hm
 generalize hz:bankN G B R K*R=z at hb ⊢
 obtain ⟨hb1,hb2⟩:=hb
 repeat' (first
  | with_reducible exact rfl
  | exact True.intro
  | with_reducible assumption
  | (refine ⟨_,_,_,⟨rfl,?_⟩,?_⟩)
  | exact (by refine ⟨?_,rfl⟩;repeat' (first | exact True.intro | exact symRows_push | exact rfl | refine And.intro ?_ ?_ | (intro i hi;show _=_;with_reducible rfl) | (intro i hi;show _=_;rfl) | exact symRows_nil | (intro i hi;show _=_;simp only [SC.den];split <;> rfl)))
  | (intro h;exfalso;simp at h;done)
  | (show rng _;simp only [rng];omega)
  | (show mkC _ _;simp only [mkC];omega)
  | refine And.intro ?_ ?_
  | apply Exists.intro
  | (intro h;replace h:=of_decide_eq_true h;first | (exfalso;omega) | skip)
  | (intro h;replace h:=of_decide_eq_false h;first | (exfalso;omega) | skip)
  | (intro i hi;with_reducible exact rfl)
  | intro _
  | omega
  | exact rfl)
def sIsEl:Sm:=inlM Tryz.prog {tb:=[(106,sBtw)]} 300 Tryz.f151
theorem sIsEl_ok:SmOK Tryz.prog 151 sIsEl:=inlM_ok mixed (E:={tb:=[(106,sBtw)]}) ⟨sBtwI_ok,trivial⟩ Tryz.func151 Tryz.call151 (fun _ _ _=>loopsOK_nil _ _ _)
abbrev el (z:Int):Prop:=0≤z∧z≤15
abbrev el2 (x y:Int):Prop:=el x∧el y
abbrev zO (x y:Int):Prop:=x=0∨y=0
def gmH (x y v:Int)(i:SC)(g:Nat→Value):List SV:=hdN [(0,.a (.c (.int x))),(1,.a (.c (.int y))),(5,.a (.c (.int v))),(6,.a (.c i))] g 0 34
theorem gmB (x y v:Int)(j:Nat)(g:Nat→Value)(NX:List SV→List Ch→Prop)(kx:Exit→List SV→List Ch→Prop):(exCode Tryz.prog {} 400 (theLoop Tryz.f148 0) (gmH x y v (.int (j:Int)) g) ([]) (loopK NX kx))=(
 (fun a:SV=>(fun b:SV=>(fun c:SV=>(fun d:SV=>(fun h:SV=>(fun k:SV=>(fun l:SV=>(fun m:SV=>(fun n:SV=>(fun o:SV=>(fun p:SV=>(fun q:SV=>(fun r:SV=>(fun s:SV=>(fun t:SV=>(fun u:SV=>(fun w:SV=>(fun z:SV=>(fun B:Bool=>(fun C:Bool=>(fun D:SV=>(fun E:Int=>(fun F:SV=>(fun G:Bool=>(C=true→shC ((j:Nat):Int)∧(G=true→rng (x*(2:Int))∧(B=true→rng (((j:Nat):Int)+(1:Int))∧NX [D,a,l,k,h,u,z,d,c,b,r,q,p,o,n,t,tV,t,z,a,t,w,F,tV,iV v,iV x,u,iV x,s,s,tV,s,D,m] [])∧(B=false→rng (((j:Nat):Int)+(1:Int))∧NX [s,a,l,k,h,u,z,d,c,b,r,q,p,o,n,t,tV,t,z,a,t,w,F,tV,iV v,iV x,u,iV x,s,s,fV,vV (g 31),vV (g 32),m] []))∧(G=false→rng (x*(2:Int))∧(B=true→rng (((j:Nat):Int)+(1:Int))∧NX [D,a,l,k,h,iV v,z,d,c,b,r,q,p,o,n,t,tV,t,z,a,t,w,F,fV,vV (g 24),vV (g 25),vV (g 26),iV x,s,s,tV,s,D,m] [])∧(B=false→rng (((j:Nat):Int)+(1:Int))∧NX [s,a,l,k,h,iV v,z,d,c,b,r,q,p,o,n,t,tV,t,z,a,t,w,F,fV,vV (g 24),vV (g 25),vV (g 26),iV x,s,s,fV,vV (g 31),vV (g 32),m] [])))∧(C=false→kx (Exit.exit 0) [iV x,a,l,k,h,iV v,t,d,c,b,r,q,p,o,n,t,fV,vV (g 17),vV (g 18),vV (g 19),vV (g 20),vV (g 21),vV (g 22),vV (g 23),vV (g 24),vV (g 25),vV (g 26),vV (g 27),vV (g 28),vV (g 29),vV (g 30),vV (g 31),vV (g 32),m] [])) (E == (1:Int))) (iV E)) (bits BinOp.and .i64 (shrI y ((j:Nat):Int)) (1:Int))) (iV (bits BinOp.xor .i64 (x*(2:Int)) (19:Int)))) (decide (((j:Nat):Int)<(4:Int)))) (decide ((x*(2:Int)) > (15:Int)))) (iV (((j:Nat):Int)+(1:Int)))) (iV (shrI y ((j:Nat):Int)))) (iV (bits BinOp.xor .i64 v x))) (iV ((j:Nat):Int))) (iV (x*(2:Int)))) (vV (g 10))) (vV (g 11))) (vV (g 12))) (vV (g 13))) (vV (g 14))) (vV (g 33))) (vV (g 2))) (vV (g 3))) (vV (g 4))) (vV (g 7))) (vV (g 8))) (vV (g 9))) (iV y)):=by kernel_rfl
theorem xor_nat (m n:Nat)(hm:m<64)(hn:n<64):bits .xor .i64 (m:Int) (n:Int)=((m ^^^ n:Nat):Int):=natOp_ok (op:=.xor) rfl (by omega) (by omega)
theorem xor_el {a b:Int}(ha:el a)(hb:el b):el (bits .xor .i64 a b):=by
 obtain ⟨m,rfl⟩:∃ m:Nat,a=(m:Int):=⟨a.toNat,by omega⟩
 obtain ⟨n,rfl⟩:∃ n:Nat,b=(n:Int):=⟨b.toNat,by omega⟩
 rw [xor_nat m n (by omega) (by omega)]
 have:m ^^^ n<2 ^ 4:=Nat.xor_lt_two_pow (by omega) (by omega)
 exact ⟨by omega,by omega⟩
theorem xor_00:bits .xor .i64 (0:Int) (0:Int)=0:=xor_nat 0 0 (by omega) (by omega)
theorem red_el {x:Int}(h:el x)(h2:15<x*2):el (bits .xor .i64 (x*2) 19):=by
 have hx:x=8∨x=9∨x=10∨x=11∨x=12∨x=13∨x=14∨x=15:=by omega
 rcases hx with rfl | rfl | rfl | rfl | rfl | rfl | rfl | rfl
 ·rw [show (8:Int)*2=((16:Nat):Int) from rfl,show (19:Int)=((19:Nat):Int) from rfl,xor_nat 16 19 (by omega) (by omega)];exact ⟨by decide,by decide⟩
 ·rw [show (9:Int)*2=((18:Nat):Int) from rfl,show (19:Int)=((19:Nat):Int) from rfl,xor_nat 18 19 (by omega) (by omega)];exact ⟨by decide,by decide⟩
 ·rw [show (10:Int)*2=((20:Nat):Int) from rfl,show (19:Int)=((19:Nat):Int) from rfl,xor_nat 20 19 (by omega) (by omega)];exact ⟨by decide,by decide⟩
 ·rw [show (11:Int)*2=((22:Nat):Int) from rfl,show (19:Int)=((19:Nat):Int) from rfl,xor_nat 22 19 (by omega) (by omega)];exact ⟨by decide,by decide⟩
 ·rw [show (12:Int)*2=((24:Nat):Int) from rfl,show (19:Int)=((19:Nat):Int) from rfl,xor_nat 24 19 (by omega) (by omega)];exact ⟨by decide,by decide⟩
 ·rw [show (13:Int)*2=((26:Nat):Int) from rfl,show (19:Int)=((19:Nat):Int) from rfl,xor_nat 26 19 (by omega) (by omega)];exact ⟨by decide,by decide⟩
 ·rw [show (14:Int)*2=((28:Nat):Int) from rfl,show (19:Int)=((19:Nat):Int) from rfl,xor_nat 28 19 (by omega) (by omega)];exact ⟨by decide,by decide⟩
 ·rw [show (15:Int)*2=((30:Nat):Int) from rfl,show (19:Int)=((19:Nat):Int) from rfl,xor_nat 30 19 (by omega) (by omega)];exact ⟨by decide,by decide⟩
theorem bit_0 (j:Nat):bits .and .i64 (shrI 0 (j:Int)) 1=0:=by
 have:shrI 0 (j:Int)=0:=by simp [shrI]
 rw [this]
 exact natOp_ok (op:=.and) (m:=0) (n:=1) (q:=0) rfl (by omega) (by omega)
def gmI (x0 y x v:Int):Prop:=(el x∧el v)∧(x0=0→x=0)∧(x0=0∨y=0→v=0)
theorem gm_next {x0 y x v:Int}{b:Bool}(h:gmI x0 y x v)(hb:y=0→b=false):gmI x0 y (if 15<x*2 then bits .xor .i64 (x*2) 19 else x*2) (if b=true then bits .xor .i64 v x else v):=by
 obtain ⟨⟨hx,hv⟩,h0,hz⟩:=h
 refine ⟨⟨?_,?_⟩,fun h1=>?_,fun h1=>?_⟩
 ·split
  ·exact red_el hx (by assumption)
  ·exact ⟨by omega,by omega⟩
 ·split
  ·exact xor_el hv hx
  ·exact hv
 ·rw [h0 h1]
  rfl
 ·have hv0:=hz h1
  split
  ·rename_i hbt
   rcases h1 with h1 | h1
   ·rw [hv0,h0 h1,xor_00]
   ·rw [hb h1] at hbt;cases hbt
  ·exact hv0
def sgm (x0 y:Int):LSm:=fun ts ch kk=>(ts.map SV.den=(gmH x0 y 0 (.il 0) (fun d=>(ts.getD d .undef).den)).map SV.den)∧∀ g x v,gmI x0 y x v→kk (.exit 0) (gmH x y v (.int (4:Int)) g) []
theorem gm_ok (x0 y:Int)(hx:el x0)(X:Cx):LoopOK Tryz.prog X (theLoop Tryz.f148 0) (sgm x0 y):=by
 intro ts ch kk a w hS hT hd hs
 obtain ⟨h1,hkk⟩:=hS
 refine loop_ok mixed (E:={}) trivial (loopsOK_nil _ _ _) 400 4 (fun j ts ch=>∃ g x v,gmI x0 y x v∧ts=gmH x y v (.int (j:Int)) g∧ch=[]) ?_ ?_ hT hd hs
 ·rintro j _ _ ⟨g,x,v,hI,rfl,rfl⟩ hj
  refine @Eq.mpr _ _ (gmB x y v j g _ _) ?_
  dsimp -zeta -proj -iota -eta -failIfUnchanged (etaStruct:=.none) only
  clear h1
  have hxv:=hI.1
  by_cases hlt:j<4
  ·have hy0:y=0→(bits .and .i64 (shrI y (j:Int)) 1 == 1)=false:=fun h=>by rw [h,bit_0];rfl
   have hn:=gm_next (b:=bits .and .i64 (shrI y (j:Int)) 1 == 1) hI hy0
   cases hb:(bits .and .i64 (shrI y (j:Int)) 1 == 1)
   all_goals rw [hb] at hn
   all_goals by_cases h15:15<x*2
   all_goals simp only [h15,if_true,if_false,Bool.false_eq_true,reduceCtorEq] at hn
   all_goals
    repeat' (first
     | with_reducible exact rfl
     | exact True.intro
     | with_reducible assumption
     | (refine ⟨hlt,?_⟩;show Next _ _ _ _;exact Next.mk (fun g=>gmH _ y _ (.int ((j+1:Nat):Int)) g) _ ⟨_,_,_,hn,rfl,rfl⟩ rfl (fun w hw=>hw))
     | (show shC _;exact ⟨by omega,by omega⟩)
     | (show rng _;exact ⟨by omega,by omega⟩)
     | refine And.intro ?_ ?_
     | (refine fun (h:@Eq Bool _ _)=>?_;exfalso;first | (simp [hb] at h;done) | (simp [hb] at h;omega))
     | intro _
     | omega)
  ·have hj4:j=4:=by omega
   subst hj4
   repeat' (first
    | with_reducible exact rfl
    | exact True.intro
    | (refine Next.mk (fun g=>gmH x y v (.int (4:Int)) g) _ (hkk _ _ _ hI) rfl (fun w hw=>hw))
    | refine And.intro ?_ ?_
    | (refine fun (h:@Eq Bool _ _)=>?_;exfalso;first | (simp at h;done) | (simp at h;omega))
    | intro _)
 ·exact Next.mk (fun g=>gmH x0 y 0 (.int ((0:Nat):Int)) g) _ ⟨_,_,_,⟨⟨hx,by omega,by omega⟩,fun h=>h,fun _=>rfl⟩,rfl,rfl⟩ h1 fun w hw=>hw.sel [] (by simp)
theorem gfm_T (x y:Int):(exFn Tryz.prog {tb:=[(151,sIsEl)],L:=[(5,sgm x y)]} 400 Tryz.f148 ([.a (.c (.int x)),.a (.c (.int y))]) ([]) (fun v_ _=>∃ z:Int,v_.den=.int .i64 z∧(el z∧(zO x y→z=0))))=(
 ((! (btw x (0:Int) (15:Int)))=false→((! (btw y (0:Int) (15:Int)))=true→∃ b:Int,(Wi (-1))=(Wi b)∧el b∧(zO x y→b=(0:Int)))∧((! (btw y (0:Int) (15:Int)))=false→[Wi x,Wi y,Wu [],Wu [],Wi 0,Wi 0,Wi 0,Wi x,Wb (btw x (0:Int) (15:Int)),Wb (! (btw x (0:Int) (15:Int))),Wb false,Wi y,Wb (btw y (0:Int) (15:Int)),Wb (! (btw y (0:Int) (15:Int))),Wb false,Wu [],Wu [],Wu [],Wu [],Wu [],Wu [],Wu [],Wu [],Wu [],Wu [],Wu [],Wu [],Wu [],Wu [],Wu [],Wu [],Wu [],Wu [],Wu []]=[Wi x,Wi y,Wu [],Wu [],Wi 0,Wi 0,Wi 0,Wi x,Wb (btw x (0:Int) (15:Int)),Wb (! (btw x (0:Int) (15:Int))),Wb false,Wi y,Wb (btw y (0:Int) (15:Int)),Wb (! (btw y (0:Int) (15:Int))),Wb false,Wu [],Wu [],Wu [],Wu [],Wu [],Wu [],Wu [],Wu [],Wu [],Wu [],Wu [],Wu [],Wu [],Wu [],Wu [],Wu [],Wu [],Wu [],Wu []]∧∀(b:Nat→Value) (d g:Int),gmI x y d g→∃ h:Int,(Wi g)=(Wi h)∧el h∧(zO x y→h=(0:Int))))∧((! (btw x (0:Int) (15:Int)))=true→∃ b:Int,(Wi (-1))=(Wi b)∧el b∧(zO x y→b=(0:Int)))):=by kernel_rfl
theorem gfm_any (x y:Int)(w:World)(hx:el x)(hy:el y):Calls Tryz.prog 148 #[.int .i64 x,.int .i64 y] w fun e w'=>∃ z:Int,(el z∧(zO x y→z=0))∧e=.returned (.int .i64 z)∧Below w.heap.size w w':=by
 refine fn_ok mixed (E:={tb:=[(151,sIsEl)],L:=[(5,sgm x y)]}) ⟨sIsEl_ok,trivial⟩ Tryz.func148 (one_loop (by kernel_rfl) (by kernel_rfl) (gm_ok x y hx _)) (@Eq.mpr _ _ (gfm_T x y) ?_) (HS.start w (fun _=>False)) (fun v ch' w' ⟨z,hv,hz⟩ hs=>⟨z,hz,by rw [hv],hs.below⟩)
 have b1:btw x 0 15=true:=by simp [btw];omega
 have b2:btw y 0 15=true:=by simp [btw];omega
 repeat' (first
  | with_reducible exact rfl
  | exact True.intro
  | with_reducible assumption
  | (intro g x1 v1 hI;exact ⟨_,rfl,hI.1.2,hI.2.2⟩)
  | refine And.intro ?_ ?_
  | apply Exists.intro
  | (refine fun (h:@Eq Bool _ _)=>?_;exfalso;first | (simp [b1,b2] at h;done) | (simp [b1,b2] at h;omega))
  | intro _
  | omega
  | exact rfl)
def sGfM:Sm:=fun args ch k =>
 match args with
 | [.a (.c cx),.a (.c cy)] =>
  match ints [cx,cy] with
  | some [x,y]=>el2 x y∧∀ z:Int,el z∧(zO x y→z=0)→k (.a (.c (.int z))) ch []
  | _=>False
 | _=>False
def sGfZ:Sm:=fun args ch k =>
 match args with
 | [.a (.c cx),.a (.c cy)] =>
  match ints [cx,cy] with
  | some [x,y]=>(el2 x y∧zO x y)∧k (.a (.c (.il 0))) ch []
  | _=>False
 | _=>False
theorem sGfM_ok:SmOK Tryz.prog 148 sGfM:=by
 refine smV Tryz.call148 fun args ch k w X h0 hs=>?_
 unfold sGfM at h0
 split at h0
 ·split at h0
  ·rename_i x y hi
   obtain ⟨e0,hi⟩:=ints_cons hi
   obtain ⟨e1,hi⟩:=ints_cons hi
   obtain ⟨h1,h0⟩:=h0
   simp only [List.map_cons,List.map_nil,den_a,den_c,e0,e1]
   exact Calls.mono (gfm_any x y w h1.1 h1.2) fun e w' ⟨z,hz,he,hb⟩=>⟨.a (.c (.int z)),he,hb,h0 z hz⟩
  ·exact h0.elim
 ·exact h0.elim
theorem sGfZ_ok:SmOK Tryz.prog 148 sGfZ:=by
 refine smV Tryz.call148 fun args ch k w X h0 hs=>?_
 unfold sGfZ at h0
 split at h0
 ·split at h0
  ·rename_i x y hi
   obtain ⟨e0,hi⟩:=ints_cons hi
   obtain ⟨e1,hi⟩:=ints_cons hi
   obtain ⟨⟨h1,h2⟩,h0⟩:=h0
   simp only [List.map_cons,List.map_nil,den_a,den_c,e0,e1]
   exact Calls.mono (gfm_any x y w h1.1 h1.2) fun e w' ⟨z,hz,he,hb⟩=>⟨.a (.c (.il 0)),by rw [he,hz.2 h2];rfl,hb,h0⟩
  ·exact h0.elim
 ·exact h0.elim
abbrev e1000 (z:Int):Prop:=0≤z∧z≤1000
def gpH (x e v:Int)(g:Nat→Value):List SV:=hdN [(0,.a (.c (.int x))),(1,.a (.c (.int e))),(5,.a (.c (.int v)))] g 0 22
theorem gpB (x e v:Int)(g:Nat→Value)(NX:List SV→List Ch→Prop)(kx:Exit→List SV→List Ch→Prop):(exCode Tryz.prog {tb:=[(148,sGfM)]} 400 (theLoop Tryz.f152 0) (gpH x e v g) ([]) (loopK NX kx))=(
 ((decide (e > (0:Int)))=true→el2 v x∧∀ a:Int,el a∧(zO v x→a=(0:Int))→rng (e-(1:Int))∧NX [iV x,iV (e-(1:Int)),vV (g 2),vV (g 3),vV (g 4),iV a,vV (g 6),vV (g 7),vV (g 8),vV (g 9),vV (g 10),vV (g 11),vV (g 12),vV (g 13),iV e,tV,iV e,iV (e-(1:Int)),iV v,iV x,iV a,vV (g 21)] [])∧((decide (e > (0:Int)))=false→kx (Exit.exit 0) [iV x,iV e,vV (g 2),vV (g 3),vV (g 4),iV v,vV (g 6),vV (g 7),vV (g 8),vV (g 9),vV (g 10),vV (g 11),vV (g 12),vV (g 13),iV e,fV,vV (g 16),vV (g 17),vV (g 18),vV (g 19),vV (g 20),vV (g 21)] [])):=by kernel_rfl
def sgp (x e:Int):LSm:=fun ts ch kk=>(ts.map SV.den=(gpH x e 1 (fun d=>(ts.getD d .undef).den)).map SV.den)∧∀ g v,el v→kk (.exit 0) (gpH x 0 v g) []
theorem gp_ok (x e:Int)(hx:el x)(he:e1000 e)(X:Cx):LoopOK Tryz.prog X (theLoop Tryz.f152 0) (sgp x e):=by
 intro ts ch kk a w hS hT hd hs
 obtain ⟨h1,hkk⟩:=hS
 obtain ⟨n,rfl⟩:∃ n:Nat,e=(n:Int):=⟨e.toNat,by omega⟩
 refine loop_ok mixed (E:={tb:=[(148,sGfM)]}) ⟨sGfM_ok,trivial⟩ (loopsOK_nil _ _ _) 400 n (fun r ts ch=>∃ g v z,(el v∧z=(n:Int)-(r:Int))∧ts=gpH x z v g∧ch=[]) ?_ ?_ hT hd hs
 ·rintro r _ _ ⟨g,v,z,⟨hv,hz⟩,rfl,rfl⟩ hr
  refine @Eq.mpr _ _ (gpB x z v g _ _) ?_
  clear h1
  by_cases hlt:r<n
  ·repeat' (first
    | with_reducible exact rfl
    | exact True.intro
    | with_reducible assumption
    | (show el2 _ _;exact ⟨hv,hx⟩)
    | ((with_reducible intro (u:Int) (hu:And _ _));have hu1:=hu.1)
    | (refine ⟨hlt,?_⟩;show Next _ _ _ _;exact Next.mk (fun g=>gpH x (z-1) _ g) _ ⟨_,_,_,⟨by with_reducible assumption,by omega⟩,rfl,rfl⟩ rfl (fun w hw=>hw))
    | (show rng _;exact ⟨by omega,by omega⟩)
    | refine And.intro ?_ ?_
    | (refine fun (h:@Eq Bool _ _)=>?_;exfalso;first | (simp at h;done) | (simp at h;omega))
    | intro _
    | omega)
  ·have hz0:z=0:=by omega
   subst hz0
   repeat' (first
    | with_reducible exact rfl
    | exact True.intro
    | (refine Next.mk (fun g=>gpH x 0 v g) _ (hkk _ _ hv) rfl (fun w hw=>hw))
    | refine And.intro ?_ ?_
    | (refine fun (h:@Eq Bool _ _)=>?_;exfalso;first | (simp at h;done) | (simp at h;omega))
    | intro _)
 ·exact Next.mk (fun g=>gpH x (n:Int) 1 g) _ ⟨_,_,_,⟨⟨by omega,by omega⟩,by simp⟩,rfl,rfl⟩ h1 fun w hw=>hw.sel [] (by simp)
theorem gfp_T (x e:Int):(exFn Tryz.prog {tb:=[(151,sIsEl),(106,sBtw),(148,sGfM)],L:=[(4,sgp x e)]} 400 Tryz.f152 ([.a (.c (.int x)),.a (.c (.int e))]) ([]) (fun v_ _=>∃ z:Int,v_.den=.int .i64 z∧el z))=(
 ((! (btw x (0:Int) (15:Int)))=false→((! (btw e (0:Int) (1000:Int)))=true→∃ b:Int,(Wi (-1))=(Wi b)∧el b)∧((! (btw e (0:Int) (1000:Int)))=false→[Wi x,Wi e,Wu [],Wu [],Wi 0,Wi 1,Wi x,Wb (btw x (0:Int) (15:Int)),Wb (! (btw x (0:Int) (15:Int))),Wb false,Wi e,Wb (btw e (0:Int) (1000:Int)),Wb (! (btw e (0:Int) (1000:Int))),Wb false,Wu [],Wu [],Wu [],Wu [],Wu [],Wu [],Wu [],Wu []]=[Wi x,Wi e,Wu [],Wu [],Wi 0,Wi 1,Wi x,Wb (btw x (0:Int) (15:Int)),Wb (! (btw x (0:Int) (15:Int))),Wb false,Wi e,Wb (btw e (0:Int) (1000:Int)),Wb (! (btw e (0:Int) (1000:Int))),Wb false,Wu [],Wu [],Wu [],Wu [],Wu [],Wu [],Wu [],Wu []]∧∀(b:Nat→Value) (d:Int),el d→∃ g:Int,(Wi d)=(Wi g)∧el g))∧((! (btw x (0:Int) (15:Int)))=true→∃ b:Int,(Wi (-1))=(Wi b)∧el b)):=by kernel_rfl
theorem gfp_any (x e:Int)(w:World)(hx:el x)(he:e1000 e):Calls Tryz.prog 152 #[.int .i64 x,.int .i64 e] w fun e w'=>∃ z:Int,el z∧e=.returned (.int .i64 z)∧Below w.heap.size w w':=by
 refine fn_ok mixed (E:={tb:=[(151,sIsEl),(106,sBtw),(148,sGfM)],L:=[(4,sgp x e)]}) ⟨sIsEl_ok,sBtwI_ok,sGfM_ok,trivial⟩ Tryz.func152 (one_loop (by kernel_rfl) (by kernel_rfl) (gp_ok x e hx he _)) (@Eq.mpr _ _ (gfp_T x e) ?_) (HS.start w (fun _=>False)) (fun v ch' w' ⟨z,hv,hz⟩ hs=>⟨z,hz,by rw [hv],hs.below⟩)
 have b1:btw x 0 15=true:=by simp [btw];omega
 have b2:btw e 0 1000=true:=by simp [btw];omega
 repeat' (first
  | with_reducible exact rfl
  | exact True.intro
  | with_reducible assumption
  | (intro g v1 hI;exact ⟨_,rfl,hI⟩)
  | refine And.intro ?_ ?_
  | apply Exists.intro
  | (refine fun (h:@Eq Bool _ _)=>?_;exfalso;first | (simp [b1,b2] at h;done) | (simp [b1,b2] at h;omega))
  | intro _
  | omega
  | exact rfl)
def sGfP:Sm:=fun args ch k =>
 match args with
 | [.a (.c cx),.a (.c cy)] =>
  match ints [cx,cy] with
  | some [x,e]=>(el x∧e1000 e)∧∀ z:Int,el z→k (.a (.c (.int z))) ch []
  | _=>False
 | _=>False
theorem sGfP_ok:SmOK Tryz.prog 152 sGfP:=by
 refine smV Tryz.call152 fun args ch k w X h0 hs=>?_
 unfold sGfP at h0
 split at h0
 ·split at h0
  ·rename_i x e hi
   obtain ⟨e0,hi⟩:=ints_cons hi
   obtain ⟨e1,hi⟩:=ints_cons hi
   obtain ⟨h1,h0⟩:=h0
   simp only [List.map_cons,List.map_nil,den_a,den_c,e0,e1]
   exact Calls.mono (gfp_any x e w h1.1 h1.2) fun e w' ⟨z,hz,he,hb⟩=>⟨.a (.c (.int z)),he,hb,h0 z hz⟩
  ·exact h0.elim
 ·exact h0.elim
def ilOf:SV→Int
 | .a (.c (.il z))=>z
 | _=>0
abbrev i3 (z:Int):Prop:=z=0∨z=1∨z=2
abbrev zr (n:Nat)(f:Nat→Int):Prop:=∀ i,i<n→f i=0
def syH (ao:Option Addr)(c0:Nat)(f:Nat→Int)(b:Nat)(z:Int)(i:SC)(g:Nat→Value):List SV:=hdN [(0,.a (.c (.sl 0 ao 11 c0))),(3,.a (.c (.slc 1 b 3 3))),(4,.a (.c (.il z))),(11,.a (.c (.slc 1 b 3 3))),(12,.a (.c (.il 3))),(13,.a (.c (.il z))),(16,.a (.c (.sl 0 ao 11 c0))),(17,.a (.c (.int 11))),(18,.a (.c i))] g 0 38
theorem syB0 (ao:Option Addr)(c0:Nat)(f:Nat→Int)(b j:Nat)(g:Nat→Value)(NX:List SV→List Ch→Prop)(kx:Exit→List SV→List Ch→Prop):(exCode Tryz.prog {tb:=[(152,sGfP),(148,sGfZ)]} 400 (theLoop Tryz.f146 1) (syH ao c0 f b 0 (.int (j:Int)) g) ([.row ⟨false,ao,0,1,11,0,[fun i=>.int (f i)]⟩,.cells b 3 [.il 0,.il 0,.il 0]]) (loopK NX kx))=(
 (fun a:SV=>(fun c:SV=>(fun d:SV=>(fun h:SV=>(fun k:SV=>(fun l:Bool=>(fun m:List Ch=>(l=true→ao=ao∧11=11∧(0≤((j:Nat):Int)∧((j:Nat):Int)<((11:Nat):Int))∧ao=ao∧j<11∧b=b∧rng (((j:Nat):Int)*(0:Int))∧(el (2:Int)∧e1000 (((j:Nat):Int)*(0:Int)))∧∀ n:Int,el n→True∧(el2 (f j) n∧zO (f j) n)∧True∧b=b∧True∧rng (((j:Nat):Int)+(1:Int))∧NX [d,vV (g 1),vV (g 2),c,a,h,iV (f j),vV (g 7),vV (g 8),vV (g 9),vV (g 10),c,lV 3,a,vV (g 14),vV (g 15),d,iV 11,k,tV,h,rV 0 ao 1 j 0,iV (f j),c,a,pV 1 b 0,a,iV (f j),h,a,iV (((j:Nat):Int)*(0:Int)),iV n,a,a,pV 1 b 0,k,vV (g 36),vV (g 37)] m)∧(l=false→kx (Exit.exit 2) [d,vV (g 1),vV (g 2),c,a,vV (g 5),vV (g 6),vV (g 7),vV (g 8),vV (g 9),vV (g 10),c,lV 3,a,vV (g 14),vV (g 15),d,iV 11,h,fV,vV (g 20),vV (g 21),vV (g 22),vV (g 23),vV (g 24),vV (g 25),vV (g 26),vV (g 27),vV (g 28),vV (g 29),vV (g 30),vV (g 31),vV (g 32),vV (g 33),vV (g 34),vV (g 35),vV (g 36),vV (g 37)] m)) [Hr false ao 0 1 11 0 [fun m=>Ci (f m)],Hc b 3 [Cl 0,Cl 0,Cl 0]]) (decide (((j:Nat):Int)<(11:Int)))) (iV (((j:Nat):Int)+(1:Int)))) (iV ((j:Nat):Int))) (sV 0 ao 11 c0)) (cV 1 b 3 3)) (lV 0)):=by kernel_rfl
theorem sy0_ok (ao:Option Addr)(c0:Nat)(f:Nat→Int)(b:Nat)(hf:zr 11 f)(X:Cx)(k:CK)(hk:∀ g,k (.exit 2) (syH ao c0 f b 0 (.int 11) g) [.row ⟨false,ao,0,1,11,0,[fun i=>.int (f i)]⟩,.cells b 3 [.il 0,.il 0,.il 0]]):∀ (j:Nat) (g:Nat→Value),j≤11 →
  exCode Tryz.prog {tb:=[(152,sGfP),(148,sGfZ)]} 400 (theLoop Tryz.f146 1) (syH ao c0 f b 0 (.int (j:Int)) g) [.row ⟨false,ao,0,1,11,0,[fun i=>.int (f i)]⟩,.cells b 3 [.il 0,.il 0,.il 0]] (loopK (fun ts ch=>j<11∧Next X (fun ts ch=>∃ g,ts=syH ao c0 f b 0 (.int ((j+1:Nat):Int)) g∧ch=[.row ⟨false,ao,0,1,11,0,[fun i=>.int (f i)]⟩,.cells b 3 [.il 0,.il 0,.il 0]]) ts ch) (fun e ts ch=>Next X (k e) ts ch)):=by
 intro j g hj
 refine @Eq.mpr _ _ (syB0 ao c0 f b j g _ _) ?_
 dsimp -zeta -proj -iota -eta -failIfUnchanged (etaStruct:=.none) only
 by_cases hlt:j<11
 ·have hz:f j=0:=hf j hlt
  repeat' (first
   | with_reducible exact rfl
   | exact True.intro
   | with_reducible assumption
   | (refine ⟨hlt,?_⟩;show Next _ _ _ _;exact Next.mk (fun g=>syH ao c0 f b 0 (.int ((j+1:Nat):Int)) g) _ ⟨_,rfl,rfl⟩ rfl (fun w hw=>hw.sel [0,1] (by simp)))
   | (show rng _;exact ⟨by omega,by omega⟩)
   | (show e1000 _;exact ⟨by omega,by omega⟩)
   | (show el2 _ _;exact ⟨⟨by omega,by omega⟩,by with_reducible assumption⟩)
   | (show el _;exact ⟨by omega,by omega⟩)
   | (show zO _ _;exact .inl hz)
   | refine And.intro ?_ ?_
   | (refine fun (h:@Eq Bool _ _)=>?_;exfalso;first | (simp at h;done) | (simp at h;omega))
   | intro _
   | omega)
 ·have h11:j=11:=by omega
  subst h11
  repeat' (first
   | with_reducible exact rfl
   | exact True.intro
   | (refine Next.mk (fun g=>syH ao c0 f b 0 (.int 11) g) _ (hk _) rfl (fun w hw=>hw.sel [0,1] (by simp)))
   | refine And.intro ?_ ?_
   | (refine fun (h:@Eq Bool _ _)=>?_;exfalso;first | (simp at h;done) | (simp at h;omega))
   | intro _)
theorem syB1 (ao:Option Addr)(c0:Nat)(f:Nat→Int)(b j:Nat)(g:Nat→Value)(NX:List SV→List Ch→Prop)(kx:Exit→List SV→List Ch→Prop):(exCode Tryz.prog {tb:=[(152,sGfP),(148,sGfZ)]} 400 (theLoop Tryz.f146 1) (syH ao c0 f b 1 (.int (j:Int)) g) ([.row ⟨false,ao,0,1,11,0,[fun i=>.int (f i)]⟩,.cells b 3 [.il 0,.il 0,.il 0]]) (loopK NX kx))=(
 (fun a:SV=>(fun c:SV=>(fun d:SV=>(fun h:SV=>(fun k:Bool=>(fun l:List Ch=>(k=true→ao=ao∧11=11∧(0≤((j:Nat):Int)∧((j:Nat):Int)<((11:Nat):Int))∧ao=ao∧j<11∧b=b∧rng (((j:Nat):Int)*(1:Int))∧(el (2:Int)∧e1000 (((j:Nat):Int)*(1:Int)))∧∀ m:Int,el m→True∧(el2 (f j) m∧zO (f j) m)∧True∧b=b∧True∧rng (((j:Nat):Int)+(1:Int))∧NX [c,vV (g 1),vV (g 2),a,lV 1,d,iV (f j),vV (g 7),vV (g 8),vV (g 9),vV (g 10),a,lV 3,lV 1,vV (g 14),vV (g 15),c,iV 11,h,tV,d,rV 0 ao 1 j 0,iV (f j),a,lV 1,pV 1 b 1,lV 0,iV (f j),d,lV 1,iV (((j:Nat):Int)*(1:Int)),iV m,lV 0,lV 0,pV 1 b 1,h,vV (g 36),vV (g 37)] l)∧(k=false→kx (Exit.exit 2) [c,vV (g 1),vV (g 2),a,lV 1,vV (g 5),vV (g 6),vV (g 7),vV (g 8),vV (g 9),vV (g 10),a,lV 3,lV 1,vV (g 14),vV (g 15),c,iV 11,d,fV,vV (g 20),vV (g 21),vV (g 22),vV (g 23),vV (g 24),vV (g 25),vV (g 26),vV (g 27),vV (g 28),vV (g 29),vV (g 30),vV (g 31),vV (g 32),vV (g 33),vV (g 34),vV (g 35),vV (g 36),vV (g 37)] l)) [Hr false ao 0 1 11 0 [fun l=>Ci (f l)],Hc b 3 [Cl 0,Cl 0,Cl 0]]) (decide (((j:Nat):Int)<(11:Int)))) (iV (((j:Nat):Int)+(1:Int)))) (iV ((j:Nat):Int))) (sV 0 ao 11 c0)) (cV 1 b 3 3)):=by kernel_rfl
theorem sy1_ok (ao:Option Addr)(c0:Nat)(f:Nat→Int)(b:Nat)(hf:zr 11 f)(X:Cx)(k:CK)(hk:∀ g,k (.exit 2) (syH ao c0 f b 1 (.int 11) g) [.row ⟨false,ao,0,1,11,0,[fun i=>.int (f i)]⟩,.cells b 3 [.il 0,.il 0,.il 0]]):∀ (j:Nat) (g:Nat→Value),j≤11 →
  exCode Tryz.prog {tb:=[(152,sGfP),(148,sGfZ)]} 400 (theLoop Tryz.f146 1) (syH ao c0 f b 1 (.int (j:Int)) g) [.row ⟨false,ao,0,1,11,0,[fun i=>.int (f i)]⟩,.cells b 3 [.il 0,.il 0,.il 0]] (loopK (fun ts ch=>j<11∧Next X (fun ts ch=>∃ g,ts=syH ao c0 f b 1 (.int ((j+1:Nat):Int)) g∧ch=[.row ⟨false,ao,0,1,11,0,[fun i=>.int (f i)]⟩,.cells b 3 [.il 0,.il 0,.il 0]]) ts ch) (fun e ts ch=>Next X (k e) ts ch)):=by
 intro j g hj
 refine @Eq.mpr _ _ (syB1 ao c0 f b j g _ _) ?_
 dsimp -zeta -proj -iota -eta -failIfUnchanged (etaStruct:=.none) only
 by_cases hlt:j<11
 ·have hz:f j=0:=hf j hlt
  repeat' (first
   | with_reducible exact rfl
   | exact True.intro
   | with_reducible assumption
   | (refine ⟨hlt,?_⟩;show Next _ _ _ _;exact Next.mk (fun g=>syH ao c0 f b 1 (.int ((j+1:Nat):Int)) g) _ ⟨_,rfl,rfl⟩ rfl (fun w hw=>hw.sel [0,1] (by simp)))
   | (show rng _;exact ⟨by omega,by omega⟩)
   | (show e1000 _;exact ⟨by omega,by omega⟩)
   | (show el2 _ _;exact ⟨⟨by omega,by omega⟩,by with_reducible assumption⟩)
   | (show el _;exact ⟨by omega,by omega⟩)
   | (show zO _ _;exact .inl hz)
   | refine And.intro ?_ ?_
   | (refine fun (h:@Eq Bool _ _)=>?_;exfalso;first | (simp at h;done) | (simp at h;omega))
   | intro _
   | omega)
 ·have h11:j=11:=by omega
  subst h11
  repeat' (first
   | with_reducible exact rfl
   | exact True.intro
   | (refine Next.mk (fun g=>syH ao c0 f b 1 (.int 11) g) _ (hk _) rfl (fun w hw=>hw.sel [0,1] (by simp)))
   | refine And.intro ?_ ?_
   | (refine fun (h:@Eq Bool _ _)=>?_;exfalso;first | (simp at h;done) | (simp at h;omega))
   | intro _)
theorem syB2 (ao:Option Addr)(c0:Nat)(f:Nat→Int)(b j:Nat)(g:Nat→Value)(NX:List SV→List Ch→Prop)(kx:Exit→List SV→List Ch→Prop):(exCode Tryz.prog {tb:=[(152,sGfP),(148,sGfZ)]} 400 (theLoop Tryz.f146 1) (syH ao c0 f b 2 (.int (j:Int)) g) ([.row ⟨false,ao,0,1,11,0,[fun i=>.int (f i)]⟩,.cells b 3 [.il 0,.il 0,.il 0]]) (loopK NX kx))=(
 (fun a:SV=>(fun c:SV=>(fun d:SV=>(fun h:SV=>(fun k:Bool=>(fun l:List Ch=>(k=true→ao=ao∧11=11∧(0≤((j:Nat):Int)∧((j:Nat):Int)<((11:Nat):Int))∧ao=ao∧j<11∧b=b∧rng (((j:Nat):Int)*(2:Int))∧(el (2:Int)∧e1000 (((j:Nat):Int)*(2:Int)))∧∀ m:Int,el m→True∧(el2 (f j) m∧zO (f j) m)∧True∧b=b∧True∧rng (((j:Nat):Int)+(1:Int))∧NX [c,vV (g 1),vV (g 2),a,lV 2,d,iV (f j),vV (g 7),vV (g 8),vV (g 9),vV (g 10),a,lV 3,lV 2,vV (g 14),vV (g 15),c,iV 11,h,tV,d,rV 0 ao 1 j 0,iV (f j),a,lV 2,pV 1 b 2,lV 0,iV (f j),d,lV 2,iV (((j:Nat):Int)*(2:Int)),iV m,lV 0,lV 0,pV 1 b 2,h,vV (g 36),vV (g 37)] l)∧(k=false→kx (Exit.exit 2) [c,vV (g 1),vV (g 2),a,lV 2,vV (g 5),vV (g 6),vV (g 7),vV (g 8),vV (g 9),vV (g 10),a,lV 3,lV 2,vV (g 14),vV (g 15),c,iV 11,d,fV,vV (g 20),vV (g 21),vV (g 22),vV (g 23),vV (g 24),vV (g 25),vV (g 26),vV (g 27),vV (g 28),vV (g 29),vV (g 30),vV (g 31),vV (g 32),vV (g 33),vV (g 34),vV (g 35),vV (g 36),vV (g 37)] l)) [Hr false ao 0 1 11 0 [fun l=>Ci (f l)],Hc b 3 [Cl 0,Cl 0,Cl 0]]) (decide (((j:Nat):Int)<(11:Int)))) (iV (((j:Nat):Int)+(1:Int)))) (iV ((j:Nat):Int))) (sV 0 ao 11 c0)) (cV 1 b 3 3)):=by kernel_rfl
theorem sy2_ok (ao:Option Addr)(c0:Nat)(f:Nat→Int)(b:Nat)(hf:zr 11 f)(X:Cx)(k:CK)(hk:∀ g,k (.exit 2) (syH ao c0 f b 2 (.int 11) g) [.row ⟨false,ao,0,1,11,0,[fun i=>.int (f i)]⟩,.cells b 3 [.il 0,.il 0,.il 0]]):∀ (j:Nat) (g:Nat→Value),j≤11 →
  exCode Tryz.prog {tb:=[(152,sGfP),(148,sGfZ)]} 400 (theLoop Tryz.f146 1) (syH ao c0 f b 2 (.int (j:Int)) g) [.row ⟨false,ao,0,1,11,0,[fun i=>.int (f i)]⟩,.cells b 3 [.il 0,.il 0,.il 0]] (loopK (fun ts ch=>j<11∧Next X (fun ts ch=>∃ g,ts=syH ao c0 f b 2 (.int ((j+1:Nat):Int)) g∧ch=[.row ⟨false,ao,0,1,11,0,[fun i=>.int (f i)]⟩,.cells b 3 [.il 0,.il 0,.il 0]]) ts ch) (fun e ts ch=>Next X (k e) ts ch)):=by
 intro j g hj
 refine @Eq.mpr _ _ (syB2 ao c0 f b j g _ _) ?_
 dsimp -zeta -proj -iota -eta -failIfUnchanged (etaStruct:=.none) only
 by_cases hlt:j<11
 ·have hz:f j=0:=hf j hlt
  repeat' (first
   | with_reducible exact rfl
   | exact True.intro
   | with_reducible assumption
   | (refine ⟨hlt,?_⟩;show Next _ _ _ _;exact Next.mk (fun g=>syH ao c0 f b 2 (.int ((j+1:Nat):Int)) g) _ ⟨_,rfl,rfl⟩ rfl (fun w hw=>hw.sel [0,1] (by simp)))
   | (show rng _;exact ⟨by omega,by omega⟩)
   | (show e1000 _;exact ⟨by omega,by omega⟩)
   | (show el2 _ _;exact ⟨⟨by omega,by omega⟩,by with_reducible assumption⟩)
   | (show el _;exact ⟨by omega,by omega⟩)
   | (show zO _ _;exact .inl hz)
   | refine And.intro ?_ ?_
   | (refine fun (h:@Eq Bool _ _)=>?_;exfalso;first | (simp at h;done) | (simp at h;omega))
   | intro _
   | omega)
 ·have h11:j=11:=by omega
  subst h11
  repeat' (first
   | with_reducible exact rfl
   | exact True.intro
   | (refine Next.mk (fun g=>syH ao c0 f b 2 (.int 11) g) _ (hk _) rfl (fun w hw=>hw.sel [0,1] (by simp)))
   | refine And.intro ?_ ?_
   | (refine fun (h:@Eq Bool _ _)=>?_;exfalso;first | (simp at h;done) | (simp at h;omega))
   | intro _)
def ssy (ao:Option Addr)(c0:Nat)(f:Nat→Int):LSm:=fun ts ch kk=>∃ b,((ts.map SV.den=(syH ao c0 f b (ilOf (ts.getD 13 .undef)) (.il 0) (fun d=>(ts.getD d .undef).den)).map SV.den∧selC ch [0,1]=[.row ⟨false,ao,0,1,11,0,[fun i=>.int (f i)]⟩,.cells b 3 [.il 0,.il 0,.il 0]])∧i3 (ilOf (ts.getD 13 .undef)))∧∀ g,kk (.exit 2) (syH ao c0 f b (ilOf (ts.getD 13 .undef)) (.int 11) g) [.row ⟨false,ao,0,1,11,0,[fun i=>.int (f i)]⟩,.cells b 3 [.il 0,.il 0,.il 0]]
theorem sy_ok (ao:Option Addr)(c0:Nat)(f:Nat→Int)(hf:zr 11 f)(X:Cx):LoopOK Tryz.prog X (theLoop Tryz.f146 1) (ssy ao c0 f):=by
 intro ts ch kk a w hS hT hd hs
 obtain ⟨b,⟨⟨h1,hch⟩,hi⟩,hkk⟩:=hS
 generalize ilOf (ts.getD 13 .undef)=z at h1 hi hkk
 refine loop_ok mixed (E:={tb:=[(152,sGfP),(148,sGfZ)]}) ⟨sGfP_ok,sGfZ_ok,trivial⟩ (loopsOK_nil _ _ _) 400 11 (fun j ts ch=>∃ g,ts=syH ao c0 f b z (.int (j:Int)) g∧ch=[.row ⟨false,ao,0,1,11,0,[fun i=>.int (f i)]⟩,.cells b 3 [.il 0,.il 0,.il 0]]) ?_ ?_ hT hd hs
 ·rintro j _ _ ⟨g,rfl,rfl⟩ hj
  rcases hi with rfl | rfl | rfl
  ·exact sy0_ok ao c0 f b hf X kk hkk j g hj
  ·exact sy1_ok ao c0 f b hf X kk hkk j g hj
  ·exact sy2_ok ao c0 f b hf X kk hkk j g hj
 ·refine Next.mk (fun g=>syH ao c0 f b z (.int ((0:Nat):Int)) g) _ ⟨_,rfl,rfl⟩ h1 fun w hw=>?_
  rw [← hch]
  exact hw.sel [0,1] (by simp)
theorem g4x1_T :(exFn Tryz.prog {tb:=[(151,sIsEl)]} 400 Tryz.f148 ([.a (.c (.il 4)),.a (.c (.il 1))]) ([]) (fun v_ _=>v_.den=.int .i64 4))=(
 ((! (btw (4:Int) (0:Int) (15:Int)))=false→((! (btw (1:Int) (0:Int) (15:Int)))=true→(Wi (-1))=(Wi 4))∧((! (btw (1:Int) (0:Int) (15:Int)))=false→(Wi 4)=(Wi 4)))∧((! (btw (4:Int) (0:Int) (15:Int)))=true→(Wi (-1))=(Wi 4))):=by kernel_rfl
theorem g4x1 (w:World):Calls Tryz.prog 148 #[.int .i64 4,.int .i64 1] w fun e w'=>e=.returned (.int .i64 4)∧Below w.heap.size w w':=by
 refine fnB (tb:=[(151,sIsEl)]) ⟨sIsEl_ok,trivial⟩ Tryz.func148 (@Eq.mpr _ _ g4x1_T ?_) (HS.start w (fun _=>False)) (fun v ch' w' hk hs=>⟨by rw [hk],hs.below⟩)
 repeat' (first | with_reducible exact rfl | exact True.intro | refine And.intro ?_ ?_ | (refine fun (h:@Eq Bool _ _)=>?_;exfalso;revert h;decide) | intro _ | exact rfl)
theorem g4x2_T :(exFn Tryz.prog {tb:=[(151,sIsEl)]} 400 Tryz.f148 ([.a (.c (.il 4)),.a (.c (.il 2))]) ([]) (fun v_ _=>v_.den=.int .i64 8))=(
 ((! (btw (4:Int) (0:Int) (15:Int)))=false→((! (btw (2:Int) (0:Int) (15:Int)))=true→(Wi (-1))=(Wi 8))∧((! (btw (2:Int) (0:Int) (15:Int)))=false→(Wi 8)=(Wi 8)))∧((! (btw (4:Int) (0:Int) (15:Int)))=true→(Wi (-1))=(Wi 8))):=by kernel_rfl
theorem g4x2 (w:World):Calls Tryz.prog 148 #[.int .i64 4,.int .i64 2] w fun e w'=>e=.returned (.int .i64 8)∧Below w.heap.size w w':=by
 refine fnB (tb:=[(151,sIsEl)]) ⟨sIsEl_ok,trivial⟩ Tryz.func148 (@Eq.mpr _ _ g4x2_T ?_) (HS.start w (fun _=>False)) (fun v ch' w' hk hs=>⟨by rw [hk],hs.below⟩)
 repeat' (first | with_reducible exact rfl | exact True.intro | refine And.intro ?_ ?_ | (refine fun (h:@Eq Bool _ _)=>?_;exfalso;revert h;decide) | intro _ | exact rfl)
theorem g4x3_T :(exFn Tryz.prog {tb:=[(151,sIsEl)]} 400 Tryz.f148 ([.a (.c (.il 4)),.a (.c (.il 3))]) ([]) (fun v_ _=>v_.den=.int .i64 12))=(
 ((! (btw (4:Int) (0:Int) (15:Int)))=false→((! (btw (3:Int) (0:Int) (15:Int)))=true→(Wi (-1))=(Wi 12))∧((! (btw (3:Int) (0:Int) (15:Int)))=false→(Wi 12)=(Wi 12)))∧((! (btw (4:Int) (0:Int) (15:Int)))=true→(Wi (-1))=(Wi 12))):=by kernel_rfl
theorem g4x3 (w:World):Calls Tryz.prog 148 #[.int .i64 4,.int .i64 3] w fun e w'=>e=.returned (.int .i64 12)∧Below w.heap.size w w':=by
 refine fnB (tb:=[(151,sIsEl)]) ⟨sIsEl_ok,trivial⟩ Tryz.func148 (@Eq.mpr _ _ g4x3_T ?_) (HS.start w (fun _=>False)) (fun v ch' w' hk hs=>⟨by rw [hk],hs.below⟩)
 repeat' (first | with_reducible exact rfl | exact True.intro | refine And.intro ?_ ?_ | (refine fun (h:@Eq Bool _ _)=>?_;exfalso;revert h;decide) | intro _ | exact rfl)
theorem g4x4_T :(exFn Tryz.prog {tb:=[(151,sIsEl)]} 400 Tryz.f148 ([.a (.c (.il 4)),.a (.c (.il 4))]) ([]) (fun v_ _=>v_.den=.int .i64 3))=(
 ((! (btw (4:Int) (0:Int) (15:Int)))=false→((! (btw (4:Int) (0:Int) (15:Int)))=true→(Wi (-1))=(Wi 3))∧((! (btw (4:Int) (0:Int) (15:Int)))=false→(Wi 3)=(Wi 3)))∧((! (btw (4:Int) (0:Int) (15:Int)))=true→(Wi (-1))=(Wi 3))):=by kernel_rfl
theorem g4x4 (w:World):Calls Tryz.prog 148 #[.int .i64 4,.int .i64 4] w fun e w'=>e=.returned (.int .i64 3)∧Below w.heap.size w w':=by
 refine fnB (tb:=[(151,sIsEl)]) ⟨sIsEl_ok,trivial⟩ Tryz.func148 (@Eq.mpr _ _ g4x4_T ?_) (HS.start w (fun _=>False)) (fun v ch' w' hk hs=>⟨by rw [hk],hs.below⟩)
 repeat' (first | with_reducible exact rfl | exact True.intro | refine And.intro ?_ ?_ | (refine fun (h:@Eq Bool _ _)=>?_;exfalso;revert h;decide) | intro _ | exact rfl)
theorem g4x5_T :(exFn Tryz.prog {tb:=[(151,sIsEl)]} 400 Tryz.f148 ([.a (.c (.il 4)),.a (.c (.il 5))]) ([]) (fun v_ _=>v_.den=.int .i64 7))=(
 ((! (btw (4:Int) (0:Int) (15:Int)))=false→((! (btw (5:Int) (0:Int) (15:Int)))=true→(Wi (-1))=(Wi 7))∧((! (btw (5:Int) (0:Int) (15:Int)))=false→(Wi 7)=(Wi 7)))∧((! (btw (4:Int) (0:Int) (15:Int)))=true→(Wi (-1))=(Wi 7))):=by kernel_rfl
theorem g4x5 (w:World):Calls Tryz.prog 148 #[.int .i64 4,.int .i64 5] w fun e w'=>e=.returned (.int .i64 7)∧Below w.heap.size w w':=by
 refine fnB (tb:=[(151,sIsEl)]) ⟨sIsEl_ok,trivial⟩ Tryz.func148 (@Eq.mpr _ _ g4x5_T ?_) (HS.start w (fun _=>False)) (fun v ch' w' hk hs=>⟨by rw [hk],hs.below⟩)
 repeat' (first | with_reducible exact rfl | exact True.intro | refine And.intro ?_ ?_ | (refine fun (h:@Eq Bool _ _)=>?_;exfalso;revert h;decide) | intro _ | exact rfl)
theorem g4x6_T :(exFn Tryz.prog {tb:=[(151,sIsEl)]} 400 Tryz.f148 ([.a (.c (.il 4)),.a (.c (.il 6))]) ([]) (fun v_ _=>v_.den=.int .i64 11))=(
 ((! (btw (4:Int) (0:Int) (15:Int)))=false→((! (btw (6:Int) (0:Int) (15:Int)))=true→(Wi (-1))=(Wi 11))∧((! (btw (6:Int) (0:Int) (15:Int)))=false→(Wi 11)=(Wi 11)))∧((! (btw (4:Int) (0:Int) (15:Int)))=true→(Wi (-1))=(Wi 11))):=by kernel_rfl
theorem g4x6 (w:World):Calls Tryz.prog 148 #[.int .i64 4,.int .i64 6] w fun e w'=>e=.returned (.int .i64 11)∧Below w.heap.size w w':=by
 refine fnB (tb:=[(151,sIsEl)]) ⟨sIsEl_ok,trivial⟩ Tryz.func148 (@Eq.mpr _ _ g4x6_T ?_) (HS.start w (fun _=>False)) (fun v ch' w' hk hs=>⟨by rw [hk],hs.below⟩)
 repeat' (first | with_reducible exact rfl | exact True.intro | refine And.intro ?_ ?_ | (refine fun (h:@Eq Bool _ _)=>?_;exfalso;revert h;decide) | intro _ | exact rfl)
theorem g4x7_T :(exFn Tryz.prog {tb:=[(151,sIsEl)]} 400 Tryz.f148 ([.a (.c (.il 4)),.a (.c (.il 7))]) ([]) (fun v_ _=>v_.den=.int .i64 15))=(
 ((! (btw (4:Int) (0:Int) (15:Int)))=false→((! (btw (7:Int) (0:Int) (15:Int)))=true→(Wi (-1))=(Wi 15))∧((! (btw (7:Int) (0:Int) (15:Int)))=false→(Wi 15)=(Wi 15)))∧((! (btw (4:Int) (0:Int) (15:Int)))=true→(Wi (-1))=(Wi 15))):=by kernel_rfl
theorem g4x7 (w:World):Calls Tryz.prog 148 #[.int .i64 4,.int .i64 7] w fun e w'=>e=.returned (.int .i64 15)∧Below w.heap.size w w':=by
 refine fnB (tb:=[(151,sIsEl)]) ⟨sIsEl_ok,trivial⟩ Tryz.func148 (@Eq.mpr _ _ g4x7_T ?_) (HS.start w (fun _=>False)) (fun v ch' w' hk hs=>⟨by rw [hk],hs.below⟩)
 repeat' (first | with_reducible exact rfl | exact True.intro | refine And.intro ?_ ?_ | (refine fun (h:@Eq Bool _ _)=>?_;exfalso;revert h;decide) | intro _ | exact rfl)
theorem g4x8_T :(exFn Tryz.prog {tb:=[(151,sIsEl)]} 400 Tryz.f148 ([.a (.c (.il 4)),.a (.c (.il 8))]) ([]) (fun v_ _=>v_.den=.int .i64 6))=(
 ((! (btw (4:Int) (0:Int) (15:Int)))=false→((! (btw (8:Int) (0:Int) (15:Int)))=true→(Wi (-1))=(Wi 6))∧((! (btw (8:Int) (0:Int) (15:Int)))=false→(Wi 6)=(Wi 6)))∧((! (btw (4:Int) (0:Int) (15:Int)))=true→(Wi (-1))=(Wi 6))):=by kernel_rfl
theorem g4x8 (w:World):Calls Tryz.prog 148 #[.int .i64 4,.int .i64 8] w fun e w'=>e=.returned (.int .i64 6)∧Below w.heap.size w w':=by
 refine fnB (tb:=[(151,sIsEl)]) ⟨sIsEl_ok,trivial⟩ Tryz.func148 (@Eq.mpr _ _ g4x8_T ?_) (HS.start w (fun _=>False)) (fun v ch' w' hk hs=>⟨by rw [hk],hs.below⟩)
 repeat' (first | with_reducible exact rfl | exact True.intro | refine And.intro ?_ ?_ | (refine fun (h:@Eq Bool _ _)=>?_;exfalso;revert h;decide) | intro _ | exact rfl)
theorem g4x9_T :(exFn Tryz.prog {tb:=[(151,sIsEl)]} 400 Tryz.f148 ([.a (.c (.il 4)),.a (.c (.il 9))]) ([]) (fun v_ _=>v_.den=.int .i64 2))=(
 ((! (btw (4:Int) (0:Int) (15:Int)))=false→((! (btw (9:Int) (0:Int) (15:Int)))=true→(Wi (-1))=(Wi 2))∧((! (btw (9:Int) (0:Int) (15:Int)))=false→(Wi 2)=(Wi 2)))∧((! (btw (4:Int) (0:Int) (15:Int)))=true→(Wi (-1))=(Wi 2))):=by kernel_rfl
theorem g4x9 (w:World):Calls Tryz.prog 148 #[.int .i64 4,.int .i64 9] w fun e w'=>e=.returned (.int .i64 2)∧Below w.heap.size w w':=by
 refine fnB (tb:=[(151,sIsEl)]) ⟨sIsEl_ok,trivial⟩ Tryz.func148 (@Eq.mpr _ _ g4x9_T ?_) (HS.start w (fun _=>False)) (fun v ch' w' hk hs=>⟨by rw [hk],hs.below⟩)
 repeat' (first | with_reducible exact rfl | exact True.intro | refine And.intro ?_ ?_ | (refine fun (h:@Eq Bool _ _)=>?_;exfalso;revert h;decide) | intro _ | exact rfl)
theorem g4x10_T :(exFn Tryz.prog {tb:=[(151,sIsEl)]} 400 Tryz.f148 ([.a (.c (.il 4)),.a (.c (.il 10))]) ([]) (fun v_ _=>v_.den=.int .i64 14))=(
 ((! (btw (4:Int) (0:Int) (15:Int)))=false→((! (btw (10:Int) (0:Int) (15:Int)))=true→(Wi (-1))=(Wi 14))∧((! (btw (10:Int) (0:Int) (15:Int)))=false→(Wi 14)=(Wi 14)))∧((! (btw (4:Int) (0:Int) (15:Int)))=true→(Wi (-1))=(Wi 14))):=by kernel_rfl
theorem g4x10 (w:World):Calls Tryz.prog 148 #[.int .i64 4,.int .i64 10] w fun e w'=>e=.returned (.int .i64 14)∧Below w.heap.size w w':=by
 refine fnB (tb:=[(151,sIsEl)]) ⟨sIsEl_ok,trivial⟩ Tryz.func148 (@Eq.mpr _ _ g4x10_T ?_) (HS.start w (fun _=>False)) (fun v ch' w' hk hs=>⟨by rw [hk],hs.below⟩)
 repeat' (first | with_reducible exact rfl | exact True.intro | refine And.intro ?_ ?_ | (refine fun (h:@Eq Bool _ _)=>?_;exfalso;revert h;decide) | intro _ | exact rfl)
theorem g4x11_T :(exFn Tryz.prog {tb:=[(151,sIsEl)]} 400 Tryz.f148 ([.a (.c (.il 4)),.a (.c (.il 11))]) ([]) (fun v_ _=>v_.den=.int .i64 10))=(
 ((! (btw (4:Int) (0:Int) (15:Int)))=false→((! (btw (11:Int) (0:Int) (15:Int)))=true→(Wi (-1))=(Wi 10))∧((! (btw (11:Int) (0:Int) (15:Int)))=false→(Wi 10)=(Wi 10)))∧((! (btw (4:Int) (0:Int) (15:Int)))=true→(Wi (-1))=(Wi 10))):=by kernel_rfl
theorem g4x11 (w:World):Calls Tryz.prog 148 #[.int .i64 4,.int .i64 11] w fun e w'=>e=.returned (.int .i64 10)∧Below w.heap.size w w':=by
 refine fnB (tb:=[(151,sIsEl)]) ⟨sIsEl_ok,trivial⟩ Tryz.func148 (@Eq.mpr _ _ g4x11_T ?_) (HS.start w (fun _=>False)) (fun v ch' w' hk hs=>⟨by rw [hk],hs.below⟩)
 repeat' (first | with_reducible exact rfl | exact True.intro | refine And.intro ?_ ?_ | (refine fun (h:@Eq Bool _ _)=>?_;exfalso;revert h;decide) | intro _ | exact rfl)
theorem g4x12_T :(exFn Tryz.prog {tb:=[(151,sIsEl)]} 400 Tryz.f148 ([.a (.c (.il 4)),.a (.c (.il 12))]) ([]) (fun v_ _=>v_.den=.int .i64 5))=(
 ((! (btw (4:Int) (0:Int) (15:Int)))=false→((! (btw (12:Int) (0:Int) (15:Int)))=true→(Wi (-1))=(Wi 5))∧((! (btw (12:Int) (0:Int) (15:Int)))=false→(Wi 5)=(Wi 5)))∧((! (btw (4:Int) (0:Int) (15:Int)))=true→(Wi (-1))=(Wi 5))):=by kernel_rfl
theorem g4x12 (w:World):Calls Tryz.prog 148 #[.int .i64 4,.int .i64 12] w fun e w'=>e=.returned (.int .i64 5)∧Below w.heap.size w w':=by
 refine fnB (tb:=[(151,sIsEl)]) ⟨sIsEl_ok,trivial⟩ Tryz.func148 (@Eq.mpr _ _ g4x12_T ?_) (HS.start w (fun _=>False)) (fun v ch' w' hk hs=>⟨by rw [hk],hs.below⟩)
 repeat' (first | with_reducible exact rfl | exact True.intro | refine And.intro ?_ ?_ | (refine fun (h:@Eq Bool _ _)=>?_;exfalso;revert h;decide) | intro _ | exact rfl)
theorem g4x13_T :(exFn Tryz.prog {tb:=[(151,sIsEl)]} 400 Tryz.f148 ([.a (.c (.il 4)),.a (.c (.il 13))]) ([]) (fun v_ _=>v_.den=.int .i64 1))=(
 ((! (btw (4:Int) (0:Int) (15:Int)))=false→((! (btw (13:Int) (0:Int) (15:Int)))=true→(Wi (-1))=(Wi 1))∧((! (btw (13:Int) (0:Int) (15:Int)))=false→(Wi 1)=(Wi 1)))∧((! (btw (4:Int) (0:Int) (15:Int)))=true→(Wi (-1))=(Wi 1))):=by kernel_rfl
theorem g4x13 (w:World):Calls Tryz.prog 148 #[.int .i64 4,.int .i64 13] w fun e w'=>e=.returned (.int .i64 1)∧Below w.heap.size w w':=by
 refine fnB (tb:=[(151,sIsEl)]) ⟨sIsEl_ok,trivial⟩ Tryz.func148 (@Eq.mpr _ _ g4x13_T ?_) (HS.start w (fun _=>False)) (fun v ch' w' hk hs=>⟨by rw [hk],hs.below⟩)
 repeat' (first | with_reducible exact rfl | exact True.intro | refine And.intro ?_ ?_ | (refine fun (h:@Eq Bool _ _)=>?_;exfalso;revert h;decide) | intro _ | exact rfl)
def g4T:Nat→Option Nat
 | 1=>some 4
 | 2=>some 8
 | 3=>some 12
 | 4=>some 3
 | 5=>some 7
 | 6=>some 11
 | 7=>some 15
 | 8=>some 6
 | 9=>some 2
 | 10=>some 14
 | 11=>some 10
 | 12=>some 5
 | 13=>some 1
 | _=>none
def sGf4:Sm:=fun args ch k =>
 match args with
 | [.a (.c (.il (.ofNat m))),.a (.c (.il (.ofNat n)))] =>
  match Nat.beq m 4,g4T n with
  | true,some v=>k (.a (.c (.il (.ofNat v)))) ch []
  | _,_=>False
 | _=>False
theorem sGf4_ok:SmOK Tryz.prog 148 sGf4:=by
 refine smB Tryz.call148 fun args ch k w X h0 hs=>?_
 unfold sGf4 at h0
 split at h0
 ·rename_i m n
  split at h0
  ·rename_i v hm hv
   have hm':=Nat.eq_of_beq_eq_true hm
   subst hm'
   refine ⟨_,h0,?_⟩
   simp only [List.map_cons,List.map_nil,den_a,den_c]
   unfold g4T at hv
   split at hv
   ·injection hv with hv;subst hv;exact g4x1 w
   ·injection hv with hv;subst hv;exact g4x2 w
   ·injection hv with hv;subst hv;exact g4x3 w
   ·injection hv with hv;subst hv;exact g4x4 w
   ·injection hv with hv;subst hv;exact g4x5 w
   ·injection hv with hv;subst hv;exact g4x6 w
   ·injection hv with hv;subst hv;exact g4x7 w
   ·injection hv with hv;subst hv;exact g4x8 w
   ·injection hv with hv;subst hv;exact g4x9 w
   ·injection hv with hv;subst hv;exact g4x10 w
   ·injection hv with hv;subst hv;exact g4x11 w
   ·injection hv with hv;subst hv;exact g4x12 w
   ·injection hv with hv;subst hv;exact g4x13 w
   ·cases hv
  ·exact h0.elim
 ·exact h0.elim
theorem inv_T :(exFn Tryz.prog {tb:=[(148,sGf4)]} 400 Tryz.f147 ([.a (.c (.il 4))]) ([]) (fun v_ _=>v_.den=.int .i64 13))=(
 (Wi 13)=(Wi 13)):=by kernel_rfl
theorem inv_any (w:World):Calls Tryz.prog 147 #[.int .i64 4] w fun e w'=>e=.returned (.int .i64 13)∧Below w.heap.size w w':=by
 refine fnB (tb:=[(148,sGf4)]) ⟨sGf4_ok,trivial⟩ Tryz.func147 (@Eq.mpr _ _ inv_T ?_) (HS.start w (fun _=>False)) (fun v ch' w' hk hs=>⟨by rw [hk],hs.below⟩)
 repeat' (first | with_reducible exact rfl | exact True.intro | refine And.intro ?_ ?_ | intro _ | exact rfl)
def sInv4:Sm:=fun args ch k =>
 match args with
 | [.a (.c (.il (.ofNat m)))] =>
  match Nat.beq m 4 with
  | true=>k (.a (.c (.il 13))) ch []
  | false=>False
 | _=>False
theorem sInv4_ok:SmOK Tryz.prog 147 sInv4:=by
 refine smB Tryz.call147 fun args ch k w X h0 hs=>?_
 unfold sInv4 at h0
 split at h0
 ·rename_i m
  split at h0
  ·rename_i hm
   have hm':=Nat.eq_of_beq_eq_true hm
   subst hm'
   refine ⟨_,h0,?_⟩
   simp only [List.map_cons,List.map_nil,den_a,den_c]
   exact inv_any w
  ·exact h0.elim
 ·exact h0.elim
end Go.Proofs.YtbhfabaofhhkeaaGreat

/-
  FnExactStoredAddr: a part of the walk (merged and squeezed by program: SxTrkE).
-/
import Derived.Test.YtmnccapnjphmfaaGreatZbam
namespace Go.Proofs.YtmnccapnjphmfaaGreat
set_option linter.unusedVariables false
set_option linter.unusedSimpArgs false
open Go.RowKit
set_option maxRecDepth 100000
set_option maxHeartbeats 8000000
def sEqTrk:Sm:=inlM Tryz.prog {tb:=[(82,sEqIntR)]} 300 Tryz.f153
theorem sEqTrk_ok:SmOK Tryz.prog 153 sEqTrk:=inlM_ok mixed (E:={tb:=[(82,sEqIntR)]}) ⟨sEqIntR_ok,trivial⟩ Tryz.func153 Tryz.call153 (fun _ _ _=>loopsOK_nil _ _ _)
def teH (x:TK)(O:Option Addr)(C:Nat)(so:Nat→Option Addr)(sc:Nat→Nat)(uo:Nat→Option Addr)(uc:Nat→Nat)(P:Option Addr)(Q:Nat)(sp:Nat→Option Addr)(sq:Nat→Nat)(vp:Nat→Option Addr)(vq:Nat→Nat)(i:SC)(g:Nat→Value):List SV:=hdN [(0,.a (.c (.sl 0 O x.n C))),(1,.a (.c (.sl 3 P x.n Q))),(4,.a (.c (.lit false))),(5,.a (.c i))] g 0 27
def teT (x:TK)(O:Option Addr)(C:Nat)(so:Nat→Option Addr)(sc:Nat→Nat)(uo:Nat→Option Addr)(uc:Nat→Nat)(P:Option Addr)(Q:Nat)(sp:Nat→Option Addr)(sq:Nat→Nat)(vp:Nat→Option Addr)(vq:Nat→Nat):List Ch:=[.row ⟨false,O,0,3,x.n,0,trkFld 1 2 x so sc uo uc⟩,.obj false (symRows false 0 (tkR x) so (fun _=>0)),.obj false (symRows false 0 (tkQ x) uo (fun _=>0)),.row ⟨false,P,0,3,x.n,0,trkFld 4 5 x sp sq vp vq⟩,.obj false (symRows false 0 (tkR x) sp (fun _=>0)),.obj false (symRows false 0 (tkQ x) vp (fun _=>0))]
def ste:LSm:=fun ts ch kk=>∃ (x:TK) (O:Option Addr) (C:Nat) (so:Nat→Option Addr) (sc:Nat→Nat) (uo:Nat→Option Addr) (uc:Nat→Nat) (P:Option Addr) (Q:Nat) (sp:Nat→Option Addr) (sq:Nat→Nat) (vp:Nat→Option Addr) (vq:Nat→Nat),(ts.map SV.den=(teH x O C so sc uo uc P Q sp sq vp vq (.il 0) (fun d=>(ts.getD d .undef).den)).map SV.den∧ch=teT x O C so sc uo uc P Q sp sq vp vq∧capT x)∧∀ (g:Nat→Value) (kx:Int),kk (.exit 0) (teH x O C so sc uo uc P Q sp sq vp vq (.int kx) g) (teT x O C so sc uo uc P Q sp sq vp vq)
theorem teB (x:TK)(O:Option Addr)(C:Nat)(so:Nat→Option Addr)(sc:Nat→Nat)(uo:Nat→Option Addr)(uc:Nat→Nat)(P:Option Addr)(Q:Nat)(sp:Nat→Option Addr)(sq:Nat→Nat)(vp:Nat→Option Addr)(vq:Nat→Nat)(j:Nat)(g:Nat→Value)(NX:List SV→List Ch→Prop)(kx:Exit→List SV→List Ch→Prop):(exCode Tryz.prog {tb:=[(153,sEqTrk)]} 400 (theLoop Tryz.f81 0) (teH x O C so sc uo uc P Q sp sq vp vq (.int (j:Int)) g) (teT x O C so sc uo uc P Q sp sq vp vq) (loopK NX kx))=(
 (fun a:SV=>(fun b:SV=>(fun c:SV=>(fun d:SV=>(fun h:CD=>(fun k:CD=>(fun l:SV=>(fun m:Bool=>(fun n:List Row=>(fun o:List Row=>(fun p:List Row=>(fun q:List Row=>(fun r:Prop=>(fun s:List SC=>(fun t:List SC=>(fun u:Ch=>(fun v:Ch=>(fun w:Ch=>(fun y:Ch=>(fun z:SV=>(fun B:SV=>(fun D:Ch=>(fun E:Ch=>(m=true→O=O∧x.1=x.1∧r∧O=O∧j<x.1∧P=P∧x.1=x.1∧r∧P=P∧j<x.1∧∀ F G:Nat,F=F∧G=G∧∃(H:Nat) (I:CD) (J:Nat→Option Addr) (K:Nat→Nat) (L:Nat),(q=(symRows false H I J K)∧(so j)=(J L)∧(x.2 j)=(I.2 L)∧L<I.1)∧∃(M:Nat) (N:CD) (R:Nat→Option Addr) (S:Nat→Nat) (T:Nat),(p=(symRows false M N R S)∧(sp j)=(R T)∧(x.2 j)=(N.2 T)∧T<N.1)∧((x.2 j)=(x.2 j)∧capC (x.2 j)∧∀ U:Nat,U<(x.2 j)→(I.3 L U)=(N.3 T U))∧F=F∧G=G∧∃(U:Nat) (V:CD) (W:Nat→Option Addr) (X:Nat→Nat) (Y:Nat),(o=(symRows false U V W X)∧(uo j)=(W Y)∧(x.4 j)=(V.2 Y)∧Y<V.1)∧∃(Z:Nat) (aa:CD) (ab:Nat→Option Addr) (ac:Nat→Nat) (ad:Nat),(n=(symRows false Z aa ab ac)∧(vp j)=(ab ad)∧(x.4 j)=(aa.2 ad)∧ad<aa.1)∧((x.4 j)=(x.4 j)∧capC (x.4 j)∧∀ af:Nat,af<(x.4 j)→(V.3 Y af)=(aa.3 ad af))∧F=F∧G=G∧(((x.6 j) != (x.6 j))=true→True∧kx Exit.ret [b,a,vV (g 2),vV (g 3),fV,c,vV (g 6),vV (g 7),vV (g 8),vV (g 9),vV (g 10),c,b,d,tV,vV (g 15),vV (g 16),b,c,rV 0 O 3 j 0,B,a,c,rV 3 P 3 j 0,z,fV,tV] [E,y,w,D,v,u,Hc F 194 t,Hc G 194 s])∧(((x.6 j) != (x.6 j))=false→True∧rng (((j:Nat):Int)+(1:Int))∧NX [b,a,vV (g 2),vV (g 3),fV,l,vV (g 6),vV (g 7),vV (g 8),vV (g 9),vV (g 10),c,b,d,tV,c,l,b,c,rV 0 O 3 j 0,B,a,c,rV 3 P 3 j 0,z,tV,fV] [E,y,w,D,v,u,Hc F 194 t,Hc G 194 s]))∧(m=false→kx (Exit.exit 0) [b,a,vV (g 2),vV (g 3),fV,c,vV (g 6),vV (g 7),vV (g 8),vV (g 9),vV (g 10),c,b,d,fV,vV (g 15),vV (g 16),vV (g 17),vV (g 18),vV (g 19),vV (g 20),vV (g 21),vV (g 22),vV (g 23),vV (g 24),vV (g 25),vV (g 26)] [E,y,w,D,v,u])) (Hr false O 0 3 x.1 0 [fun E=>Cs 1 (so E) (x.2 E) (sc E),fun E=>Cs 2 (uo E) (x.4 E) (uc E),fun E=>Ci (x.6 E)])) (Hr false P 0 3 x.1 0 [fun D=>Cs 4 (sp D) (x.2 D) (sq D),fun D=>Cs 5 (vp D) (x.4 D) (vq D),fun D=>Ci (x.6 D)])) (aV t)) (aV s)) (Ho false q)) (Ho false o)) (Ho false p)) (Ho false n)) [Cs 1 (so j) (x.2 j) (sc j),Cs 2 (uo j) (x.4 j) (uc j),Ci (x.6 j)]) [Cs 4 (sp j) (x.2 j) (sq j),Cs 5 (vp j) (x.4 j) (vq j),Ci (x.6 j)]) (0≤((j:Nat):Int)∧((j:Nat):Int)<((x.1:Nat):Int))) (symRows false 0 k so (fun q=>0))) (symRows false 0 k sp (fun p=>0))) (symRows false 0 h uo (fun o=>0))) (symRows false 0 h vp (fun n=>0))) (decide (((j:Nat):Int)<((x.1:Nat):Int)))) (iV (((j:Nat):Int)+(1:Int)))) (CD.mk x.1 x.2 x.3 (fun k=>false))) (CD.mk x.1 x.4 x.5 (fun h=>false))) (iV ((x.1:Nat):Int))) (iV ((j:Nat):Int))) (sV 0 O x.1 C)) (sV 3 P x.1 Q)):=by kernel_rfl
theorem te_ok (X:Cx):LoopOK Tryz.prog X (theLoop Tryz.f81 0) ste:=by
 intro ts ch kk a w hS hT hd hs
 obtain ⟨x,O,C,so,sc,uo,uc,P,Q,sp,sq,vp,vq,⟨h1,rfl,hcap⟩,hk⟩:=hS
 have hn0:=hcap.1
 refine loop_ok mixed (E:={tb:=[(153,sEqTrk)]}) ⟨sEqTrk_ok,trivial⟩ (loopsOK_nil _ _ _) 400 x.n (fun j ts ch=>∃ g,ts=teH x O C so sc uo uc P Q sp sq vp vq (.int (j:Int)) g∧ch=teT x O C so sc uo uc P Q sp sq vp vq) ?_ ?_ hT hd hs
 ·rintro j _ _ ⟨g,rfl,rfl⟩ hj
  refine (@Eq.mpr _ _ (teB x O C so sc uo uc P Q sp sq vp vq j g _ _) ?_)
  dsimp -zeta -proj -iota -eta -failIfUnchanged (etaStruct:=.none) only
  by_cases hlt:j<x.n
  ·have hsr:capC (x.rn j):=(hcap.2 j hlt).1
   have hsq:capC (x.qn j):=(hcap.2 j hlt).2
   repeat' (first
    | with_reducible exact rfl
    | exact True.intro
    | with_reducible assumption
    | (refine ⟨hlt,?_⟩;show Next _ _ _ _;exact Next.mk (fun g=>teH x O C so sc uo uc P Q sp sq vp vq (.int ((j+1:Nat):Int)) g) _ ⟨_,rfl,rfl⟩ (by kernel_rfl) fun w hw=>hw.sel [0,1,2,3,4,5] (by simp))
    | refine And.intro ?_ ?_
    | apply Exists.intro
    | (intro h;exfalso;simp at h;done)
    | (intro h;replace h:=of_decide_eq_true h;first | (exfalso;omega) | skip)
    | (intro h;replace h:=of_decide_eq_false h;first | (exfalso;omega) | skip)
    | intro _
    | omega)
  ·have hjn:j=x.n:=by omega
   subst hjn
   repeat' (first
    | with_reducible exact rfl
    | exact True.intro
    | with_reducible assumption
    | (exact Next.mk (fun g=>teH x O C so sc uo uc P Q sp sq vp vq (.int (x.n:Int)) g) _ (hk _ _) (by kernel_rfl) fun w hw=>hw)
    | refine And.intro ?_ ?_
    | apply Exists.intro
    | (intro h;exfalso;simp at h;done)
    | (intro h;replace h:=of_decide_eq_true h;first | (exfalso;omega) | skip)
    | (intro h;replace h:=of_decide_eq_false h;first | (exfalso;omega) | skip)
    | intro _
    | omega)
 ·exact Next.mk (fun g=>teH x O C so sc uo uc P Q sp sq vp vq (.int ((0:Nat):Int)) g) _ ⟨_,rfl,rfl⟩ h1 fun w hw=>hw
theorem eqTs_T (x:TK)(O:Option Addr)(C:Nat)(so:Nat→Option Addr)(sc:Nat→Nat)(uo:Nat→Option Addr)(uc:Nat→Nat)(P:Option Addr)(Q:Nat)(sp:Nat→Option Addr)(sq:Nat→Nat)(vp:Nat→Option Addr)(vq:Nat→Nat):(exFn Tryz.prog { L:=[(4,ste)] } 400 Tryz.f81 ([.a (.c (.sl 0 O x.n C)),.a (.c (.sl 3 P x.n Q))]) (teT x O C so sc uo uc P Q sp sq vp vq) (fun v _=>v.den=.bool true))=(
 (fun b:Value=>(fun d:Value=>(fun g:Value=>(fun h:CD=>(fun j:CD=>(fun k:Bool=>(k=true→d=(Wb true))∧(k=false→∃(l:TK) (m:Option Addr) (o:Nat) (p:Nat→Option Addr) (q:Nat→Nat) (r:Nat→Option Addr) (s:Nat→Nat) (t:Option Addr) (u:Nat) (w:Nat→Option Addr) (y:Nat→Nat) (z:Nat→Option Addr) (B:Nat→Nat),(fun D:CD=>(fun E:CD=>([Ws O x.1 C,Ws P x.1 Q,b,b,d,Wi 0,Ws O x.1 C,g,Ws P x.1 Q,g,d,b,b,b,b,b,b,b,b,b,b,b,b,b,b,b,b]=[Ws m l.1 o,Ws t l.1 u,b,b,d,Wi 0,Ws O x.1 C,g,Ws P x.1 Q,g,d,b,b,b,b,b,b,b,b,b,b,b,b,b,b,b,b]∧[Hr false O 0 3 x.1 0 [fun F=>Cs 1 (so F) (x.2 F) (sc F),fun F=>Cs 2 (uo F) (x.4 F) (uc F),fun F=>Ci (x.6 F)],Ho false (symRows false 0 j so (fun F=>0)),Ho false (symRows false 0 h uo (fun F=>0)),Hr false P 0 3 x.1 0 [fun F=>Cs 4 (sp F) (x.2 F) (sq F),fun F=>Cs 5 (vp F) (x.4 F) (vq F),fun F=>Ci (x.6 F)],Ho false (symRows false 0 j sp (fun F=>0)),Ho false (symRows false 0 h vp (fun F=>0))]=[Hr false m 0 3 l.1 0 [fun F=>Cs 1 (p F) (l.2 F) (q F),fun F=>Cs 2 (r F) (l.4 F) (s F),fun F=>Ci (l.6 F)],Ho false (symRows false 0 E p (fun F=>0)),Ho false (symRows false 0 D r (fun F=>0)),Hr false t 0 3 l.1 0 [fun F=>Cs 4 (w F) (l.2 F) (y F),fun F=>Cs 5 (z F) (l.4 F) (B F),fun F=>Ci (l.6 F)],Ho false (symRows false 0 E w (fun F=>0)),Ho false (symRows false 0 D z (fun F=>0))]∧capT l)∧∀(F:Nat→Value) (G:Int),(Wb true)=(Wb true)) (CD.mk l.1 l.2 l.3 (fun E=>false))) (CD.mk l.1 l.4 l.5 (fun D=>false)))) (((x.1:Nat):Int) != ((x.1:Nat):Int))) (CD.mk x.1 x.2 x.3 (fun j=>false))) (CD.mk x.1 x.4 x.5 (fun h=>false))) (Wi ((x.1:Nat):Int))) (Wb false)) (Wu [])):=by kernel_rfl
theorem eqTs_any (x:TK)(O:Option Addr)(C:Nat)(so:Nat→Option Addr)(sc:Nat→Nat)(uo:Nat→Option Addr)(uc:Nat→Nat)(P:Option Addr)(Q:Nat)(sp:Nat→Option Addr)(sq:Nat→Nat)(vp:Nat→Option Addr)(vq:Nat→Nat)(w:World)(hA:SeenT w x O so sc uo uc)(hB:SeenT w x P sp sq vp vq)(hcap:capT x):Calls Tryz.prog 81 #[.slice O x.n C,.slice P x.n Q] w fun e w'=>e=.returned (.bool true)∧Below w.heap.size w w':=by
 refine fn_ok mixed (E:={ L:=[(4,ste)] }) trivial Tryz.func81 (one_loop (by kernel_rfl) (by kernel_rfl) (te_ok _)) (@Eq.mpr _ _ (eqTs_T x O C so sc uo uc P Q sp sq vp vq) ?_) (HS.seenAll (fun _=>False) _ (hA.all 1 (hB.all 4 seenC_nil))) (fun v ch' w' hv hs=>⟨by rw [hv],hs.below⟩)
 dsimp -zeta -proj -iota -eta -failIfUnchanged (etaStruct:=.none) only
 clear hA hB
 repeat' (first
  | with_reducible exact rfl
  | exact True.intro
  | with_reducible assumption
  | exact hcap
  | refine And.intro ?_ ?_
  | apply Exists.intro
  | (intro h;exfalso;simp at h;done)
  | intro _
  | exact rfl)
def sEqTs:Sm:=fun args ch kk =>
 match args with
 | [.a (.c c),.a (.c d)]=>rdT ch c fun x=>rdT ch d fun y=>(y=x∧capT x)∧kk (.a (.c (.lit true))) ch []
 | _=>False
theorem sEqTs_ok:SmOK Tryz.prog 81 sEqTs:=by
 refine smB Tryz.call81 fun args ch kk w X h0 hs=>?_
 unfold sEqTs at h0
 split at h0
 ·obtain ⟨x,O,C,so,sc,uo,uc,e,hA,h0⟩:=rdT_ok h0 hs
  obtain ⟨y,P,Q,sp,sq,vp,vq,e2,hB,⟨hyx,hc⟩,h1⟩:=rdT_ok h0 hs
  subst hyx
  refine ⟨_,h1,?_⟩
  simp only [List.map_cons,List.map_nil,den_a,den_c,e,e2]
  exact eqTs_any _ O C so sc uo uc P Q sp sq vp vq w hA hB hc
 ·exact h0.elim
def sSzTrk:Sm:=inlM Tryz.prog {tb:=[(20,sSzIntS)]} 300 Tryz.f97
theorem sSzTrk_ok:SmOK Tryz.prog 97 sSzTrk:=inlM_ok mixed (E:={tb:=[(20,sSzIntS)]}) ⟨sSzIntS_ok,trivial⟩ Tryz.func97 Tryz.call97 (fun _ _ _=>loopsOK_nil _ _ _)
abbrev lensT (x:TK):Prop:=x.n≤9223372036854775807∧∀ i,i<x.n→x.rn i≤9223372036854775807∧x.qn i≤9223372036854775807
abbrev cap1T (x:TK):Prop:=x.n≤1048576∧∀ i,i<x.n→x.rn i≤1048576∧x.qn i≤1048576
theorem capOf1T {x:TK}(h:cap1T x):capT x:=⟨by have:=h.1;omega,fun i hi=>⟨by have:=(h.2 i hi).1;omega,by have:=(h.2 i hi).2;omega⟩⟩
def lowT (x:TK)(j:Nat):Prop:=∀ i,i<j→x.rn i≤1048576∧x.qn i≤1048576
abbrev szZ (z k:Int):Prop:=0≤z∧z≤k∧k≤1048576
theorem lowT_next {x:TK}{j:Nat}{z k:Int}(h:lowT x j)(hz:szZ z k)(h1:0≤z-(x.rn j:Int))(h2:0≤z-(x.rn j:Int)-(x.qn j:Int)):lowT x (j+1)∧szZ (z-(x.rn j:Int)-(x.qn j:Int)) k:=by
 obtain ⟨z1,z2,z3⟩:=hz
 refine ⟨fun i hi=>?_,by omega,by omega,z3⟩
 by_cases e:i=j
 ·subst e
  exact ⟨by omega,by omega⟩
 ·exact h i (by omega)
def tzH (x:TK)(O:Option Addr)(C:Nat)(so:Nat→Option Addr)(sc:Nat→Nat)(uo:Nat→Option Addr)(uc:Nat→Nat)(k i:SC)(g:Nat→Value):List SV:=hdN [(0,.a (.c (.sl 0 O x.n C))),(1,.a (.c k)),(5,.a (.c i))] g 0 27
def tzR (x:TK)(O:Option Addr)(C:Nat)(so:Nat→Option Addr)(sc:Nat→Nat)(uo:Nat→Option Addr)(uc:Nat→Nat)(g:Nat→Value):List SV:=hdN [(4,.a (.c (.il (-1))))] g 0 27
def tzT (x:TK)(O:Option Addr)(C:Nat)(so:Nat→Option Addr)(sc:Nat→Nat)(uo:Nat→Option Addr)(uc:Nat→Nat):List Ch:=[.row ⟨false,O,0,3,x.n,0,trkFld 1 2 x so sc uo uc⟩,.obj false (symRows false 0 (tkR x) so (fun _=>0)),.obj false (symRows false 0 (tkQ x) uo (fun _=>0))]
def stz:LSm:=fun ts ch kk=>∃ (x:TK) (O:Option Addr) (C:Nat) (so:Nat→Option Addr) (sc:Nat→Nat) (uo:Nat→Option Addr) (uc:Nat→Nat) (k0 z:Int),(ts.map SV.den=(tzH x O C so sc uo uc (.int z) (.il 0) (fun d=>(ts.getD d .undef).den)).map SV.den∧ch=tzT x O C so sc uo uc∧szZ z k0∧lensT x) ∧
  (∀ (g:Nat→Value) (kx z:Int),szZ z k0→lowT x x.n→kk (.exit 0) (tzH x O C so sc uo uc (.int z) (.int kx) g) (tzT x O C so sc uo uc))∧(∀ (g:Nat→Value),kk .ret (tzR x O C so sc uo uc g) (tzT x O C so sc uo uc))
theorem tzB (x:TK)(O:Option Addr)(C:Nat)(so:Nat→Option Addr)(sc:Nat→Nat)(uo:Nat→Option Addr)(uc:Nat→Nat)(z:Int)(j:Nat)(g:Nat→Value)(NX:List SV→List Ch→Prop)(kx:Exit→List SV→List Ch→Prop):(exCode Tryz.prog {tb:=[(97,sSzTrk)]} 400 (theLoop Tryz.f19 0) (tzH x O C so sc uo uc (.int z) (.int (j:Int)) g) (tzT x O C so sc uo uc) (loopK NX kx))=(
 (fun a:SV=>(fun b:SV=>(fun c:SV=>(fun d:SV=>(fun h:SV=>(fun k:SV=>(fun l:SV=>(fun m:Bool=>(fun n:Bool=>(fun o:SV=>(fun p:List SC=>(fun q:Ch=>(fun r:Ch=>(fun s:SV=>(fun t:Bool=>(fun u:Ch=>(fun v:List SV=>(m=true→O=O∧x.1=x.1∧(0≤((j:Nat):Int)∧((j:Nat):Int)<((x.1:Nat):Int))∧O=O∧j<x.1∧∀ w:Nat,(fun y:Ch=>w=w∧szC (x.2 j) z∧(z<(((x.2 j):Nat):Int)→kx Exit.ret v [u,r,q,y])∧((((x.2 j):Nat):Int)≤z→(n=true→kx Exit.ret v [u,r,q,y])∧(n=false→w=w∧szC (x.4 j) (z-(((x.2 j):Nat):Int))∧((z-(((x.2 j):Nat):Int))<(((x.4 j):Nat):Int)→kx Exit.ret v [u,r,q,y])∧((((x.4 j):Nat):Int)≤(z-(((x.2 j):Nat):Int))→(t=true→kx Exit.ret v [u,r,q,y])∧(t=false→(t=true→kx Exit.ret [d,o,vV (g 2),vV (g 3),lV (-1),h,vV (g 6),vV (g 7),vV (g 8),vV (g 9),c,b,h,d,k,tV,vV (g 16),vV (g 17),d,h,rV 0 O 3 j 0,s,iV z,o,o,tV,a] [u,r,q,y])∧(t=false→rng (((j:Nat):Int)+(1:Int))∧NX [d,o,vV (g 2),vV (g 3),vV (g 4),l,vV (g 6),vV (g 7),vV (g 8),vV (g 9),c,b,h,d,k,tV,h,l,d,h,rV 0 O 3 j 0,s,iV z,o,o,fV,a] [u,r,q,y])))))) (Hc w 180 p))∧(m=false→kx (Exit.exit 0) [d,iV z,vV (g 2),vV (g 3),vV (g 4),h,vV (g 6),vV (g 7),vV (g 8),vV (g 9),c,b,h,d,k,fV,vV (g 16),vV (g 17),vV (g 18),vV (g 19),vV (g 20),vV (g 21),vV (g 22),vV (g 23),vV (g 24),vV (g 25),a] [u,r,q])) [d,lV (-1),vV (g 2),vV (g 3),lV (-1),h,vV (g 6),vV (g 7),vV (g 8),vV (g 9),c,b,h,d,k,tV,vV (g 16),vV (g 17),d,h,rV 0 O 3 j 0,s,iV z,lV (-1),lV (-1),tV,a]) (Hr false O 0 3 x.1 0 [fun u=>Cs 1 (so u) (x.2 u) (sc u),fun u=>Cs 2 (uo u) (x.4 u) (uc u),fun u=>Ci (x.6 u)])) (decide (((z-(((x.2 j):Nat):Int))-(((x.4 j):Nat):Int))<(0:Int)))) (aV p)) (Ho false (symRows false 0 (CD.mk x.1 x.2 x.3 (fun r=>false)) so (fun r=>0)))) (Ho false (symRows false 0 (CD.mk x.1 x.4 x.5 (fun q=>false)) uo (fun q=>0)))) [Cs 1 (so j) (x.2 j) (sc j),Cs 2 (uo j) (x.4 j) (uc j),Ci (x.6 j)]) (iV ((z-(((x.2 j):Nat):Int))-(((x.4 j):Nat):Int)))) (decide ((z-(((x.2 j):Nat):Int))<(0:Int)))) (decide (((j:Nat):Int)<((x.1:Nat):Int)))) (iV (((j:Nat):Int)+(1:Int)))) (iV ((x.1:Nat):Int))) (iV ((j:Nat):Int))) (sV 0 O x.1 C)) (vV (g 10))) (vV (g 11))) (vV (g 26))):=by kernel_rfl
theorem tz_ok (X:Cx):LoopOK Tryz.prog X (theLoop Tryz.f19 0) stz:=by
 intro ts ch kk a w hS hT hd hs
 obtain ⟨x,O,C,so,sc,uo,uc,k0,z0,⟨h1,rfl,hz0,hl⟩,hk,hr⟩:=hS
 refine loop_ok mixed (E:={tb:=[(97,sSzTrk)]}) ⟨sSzTrk_ok,trivial⟩ (loopsOK_nil _ _ _) 400 x.n (fun j ts ch=>∃ g z,(szZ z k0∧lowT x j)∧ts=tzH x O C so sc uo uc (.int z) (.int (j:Int)) g∧ch=tzT x O C so sc uo uc) ?_ ?_ hT hd hs
 ·rintro j _ _ ⟨g,z,⟨hz,hlo⟩,rfl,rfl⟩ hj
  refine (@Eq.mpr _ _ (tzB x O C so sc uo uc z j g _ _) ?_)
  dsimp -zeta -proj -iota -eta -failIfUnchanged (etaStruct:=.none) only
  have hn0:=hl.1
  have hz1:=hz
  obtain ⟨q1,q2,q3⟩:=hz1
  by_cases hlt:j<x.n
  ·have hsr:=(hl.2 j hlt).1
   have hsq:=(hl.2 j hlt).2
   repeat' (first
    | with_reducible exact rfl
    | exact True.intro
    | with_reducible assumption
    | (refine ⟨hlt,?_⟩;show Next _ _ _ _;have hne:=lowT_next hlo hz (by omega) (by omega);exact Next.mk (fun g=>tzH x O C so sc uo uc (.int (z-(x.rn j:Int)-(x.qn j:Int))) (.int ((j+1:Nat):Int)) g) _ ⟨_,_,⟨hne.2,hne.1⟩,rfl,rfl⟩ (by kernel_rfl) fun w hw=>hw.sel [0,1,2] (by simp))
    | (show Next _ _ _ _;exact Next.mk (fun g=>tzR x O C so sc uo uc g) _ (hr _) (by kernel_rfl) fun w hw=>hw.sel [0,1,2] (by simp))
    | refine And.intro ?_ ?_
    | apply Exists.intro
    | (intro h;exfalso;simp at h;done)
    | (intro h;replace h:=of_decide_eq_true h;first | (exfalso;omega) | skip)
    | (intro h;replace h:=of_decide_eq_false h;first | (exfalso;omega) | skip)
    | intro _
    | omega)
  ·have hjn:j=x.n:=by omega
   subst hjn
   repeat' (first
    | with_reducible exact rfl
    | exact True.intro
    | with_reducible assumption
    | (exact Next.mk (fun g=>tzH x O C so sc uo uc (.int z) (.int (x.n:Int)) g) _ (hk _ _ _ hz hlo) (by kernel_rfl) fun w hw=>hw)
    | refine And.intro ?_ ?_
    | apply Exists.intro
    | (intro h;exfalso;simp at h;done)
    | (intro h;replace h:=of_decide_eq_true h;first | (exfalso;omega) | skip)
    | (intro h;replace h:=of_decide_eq_false h;first | (exfalso;omega) | skip)
    | intro _
    | omega)
 ·exact Next.mk (fun g=>tzH x O C so sc uo uc (.int z0) (.int ((0:Nat):Int)) g) _ ⟨_,_,⟨hz0,fun i hi=>absurd hi (Nat.not_lt_zero i)⟩,rfl,rfl⟩ h1 fun w hw=>hw
theorem szTs_T (x:TK)(O:Option Addr)(C:Nat)(so:Nat→Option Addr)(sc:Nat→Nat)(uo:Nat→Option Addr)(uc:Nat→Nat)(k0:Int):(exFn Tryz.prog { L:=[(5,stz)] } 400 Tryz.f19 ([.a (.c (.sl 0 O x.n C)),.a (.c (.int k0))]) (tzT x O C so sc uo uc) (fun v _=>∃ z:Int,v.den=.int .i64 z∧(z=-1∨(szZ z k0∧cap1T x))))=(
 (fun b:Value=>(fun d:Value=>(fun g:Bool=>(fun h:Prop=>rng (k0-((x.1:Nat):Int))∧(g=true→h)∧(g=false→∃(j:TK) (k:Option Addr) (l:Nat) (m:Nat→Option Addr) (o:Nat→Nat) (p:Nat→Option Addr) (q:Nat→Nat) (r s:Int),([Ws O x.1 C,d,b,b,Wi 0,Wi 0,Wi k0,Ws O x.1 C,Wi ((x.1:Nat):Int),d,d,Wb false,b,b,b,b,b,b,b,b,b,b,b,b,b,b,b]=[Ws k j.1 l,Wi s,b,b,Wi 0,Wi 0,Wi k0,Ws O x.1 C,Wi ((x.1:Nat):Int),d,d,Wb false,b,b,b,b,b,b,b,b,b,b,b,b,b,b,b]∧[Hr false O 0 3 x.1 0 [fun t=>Cs 1 (so t) (x.2 t) (sc t),fun t=>Cs 2 (uo t) (x.4 t) (uc t),fun t=>Ci (x.6 t)],Ho false (symRows false 0 (CD.mk x.1 x.2 x.3 (fun t=>false)) so (fun t=>0)),Ho false (symRows false 0 (CD.mk x.1 x.4 x.5 (fun t=>false)) uo (fun t=>0))]=[Hr false k 0 3 j.1 0 [fun t=>Cs 1 (m t) (j.2 t) (o t),fun t=>Cs 2 (p t) (j.4 t) (q t),fun t=>Ci (j.6 t)],Ho false (symRows false 0 (CD.mk j.1 j.2 j.3 (fun t=>false)) m (fun t=>0)),Ho false (symRows false 0 (CD.mk j.1 j.4 j.5 (fun t=>false)) p (fun t=>0))]∧szZ s r∧lensT j)∧(∀(t:Nat→Value) (u w:Int),szZ w r→lowT j j.1→∃ y:Int,(Wi w)=(Wi y)∧((y=((-1):Int))∨(szZ y k0∧cap1T x)))∧∀ t:Nat→Value,h)) (∃ h:Int,(Wi (-1))=(Wi h)∧((h=((-1):Int))∨(szZ h k0∧cap1T x)))) (decide ((k0-((x.1:Nat):Int))<(0:Int)))) (Wi (k0-((x.1:Nat):Int)))) (Wu [])):=by kernel_rfl
theorem szTs_any (x:TK)(O:Option Addr)(C:Nat)(so:Nat→Option Addr)(sc:Nat→Nat)(uo:Nat→Option Addr)(uc:Nat→Nat)(k0:Int)(w:World)(hA:SeenT w x O so sc uo uc)(hl:lensT x)(hk0:0≤k0∧k0≤1048576):Calls Tryz.prog 19 #[.slice O x.n C,.int .i64 k0] w fun e w'=>∃ z:Int,(z=-1∨(szZ z k0∧cap1T x))∧e=.returned (.int .i64 z)∧Below w.heap.size w w':=by
 refine fn_ok mixed (E:={ L:=[(5,stz)] }) trivial Tryz.func19 (one_loop (by kernel_rfl) (by kernel_rfl) (tz_ok _)) (@Eq.mpr _ _ (szTs_T x O C so sc uo uc k0) ?_) (HS.seenAll (fun _=>False) _ (hA.all 1 seenC_nil)) (fun v ch' w' ⟨z,hv,hz⟩ hs=>⟨z,hz,by rw [hv],hs.below⟩)
 dsimp -zeta -proj -iota -eta -failIfUnchanged (etaStruct:=.none) only
 clear hA
 have hn0:=hl.1
 repeat' (first
  | with_reducible exact rfl
  | exact True.intro
  | with_reducible assumption
  | (exact (⟨by omega,by omega,hk0.2⟩:szZ (k0-(x.n:Int)) k0))
  | (refine ⟨_,rfl,.inl rfl⟩)
  | (refine ⟨_,rfl,.inr ⟨by with_reducible assumption,⟨by omega,fun i hi=>(by with_reducible assumption:lowT x x.n) i hi⟩⟩⟩)
  | refine And.intro ?_ ?_
  | apply Exists.intro
  | (intro h;exfalso;simp at h;done)
  | (intro h;replace h:=of_decide_eq_true h;first | (exfalso;omega) | skip)
  | (intro h;replace h:=of_decide_eq_false h;first | (exfalso;omega) | skip)
  | intro _
  | omega)
def sSzTs:Sm:=fun args ch kk =>
 match args with
 | [.a (.c c),.a (.c kc)] =>
  match asI kc with
  | some k0=>rdT ch c fun x=>(lensT x∧szK1 k0)∧kk (.a (.c (.il (-1)))) ch []∧∀ z:Int,szZ z k0→cap1T x→kk (.a (.c (.int z))) ch []
  | none=>False
 | _=>False
theorem sSzTs_ok:SmOK Tryz.prog 19 sSzTs:=by
 refine smV Tryz.call19 fun args ch kk w X h0 hs=>?_
 unfold sSzTs at h0
 split at h0
 ·rename_i c kc
  split at h0
  ·rename_i k0 hkc
   obtain ⟨x,O,C,so,sc,uo,uc,e,hA,⟨hl,hk0⟩,h1,h2⟩:=rdT_ok h0 hs
   simp only [List.map_cons,List.map_nil,den_a,den_c,e,asI_den hkc]
   refine Calls.mono (szTs_any x O C so sc uo uc k0 w hA hl hk0) fun e w' ⟨z,hz,he,hb⟩=>?_
   rcases hz with rfl | ⟨hz0,hz1⟩
   ·exact ⟨.a (.c (.il (-1))),he,hb,h1⟩
   ·exact ⟨.a (.c (.int z)),he,hb,h2 z hz0 hz1⟩
  ·exact h0.elim
 ·exact h0.elim
end Go.Proofs.YtmnccapnjphmfaaGreat

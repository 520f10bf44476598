/-
  FnExactControllerNew: a part of the walk (merged and squeezed by program: SxNc).
-/
import Derived.Test.YtbhfabaofhhkeaaGreatZao
namespace Go.Proofs.YtbhfabaofhhkeaaGreat
set_option linter.unusedVariables false
set_option linter.unusedSimpArgs false
open Go.RowKit
set_option maxRecDepth 100000
set_option maxHeartbeats 8000000
def idCell (ch:List Ch)(id i:Nat):Nat :=
 match ch[id]? with
 | some (.cells _ _ cs) =>
  match cs[i]? with
  | some (.sl j _ _ _)=>j
  | _=>1000004
 | _=>1000004
def aiT (G B R K:Int)(m bg br bo ba bh:Nat)(j:Nat)(Oq:Option Addr)(Cq:Nat)(soq:Nat→Option Addr)(scq:Nat→Nat):List Ch:=[.cells bg 38 [.int G,.int B,.int R,.int K],.cells br 56 [.nil,.nil,.nil],.cells bo 56 [.sl 5 Oq j Cq,.sl 3 (some ⟨ba,0,none⟩) m m,.sl 4 (some ⟨bh,0,none⟩) m m],.row ⟨true,some ⟨ba,0,none⟩,3,1,m,m,[fun i=>.il 0]⟩,.row ⟨true,some ⟨bh,0,none⟩,3,1,m,m,[fun i=>.il 0]⟩,.row ⟨true,Oq,149,2,j,Cq,cellFld 6 (zCD j) soq scq⟩,.obj true (symRows true 3 (zCD j) soq scq)]
def aiH (G B R K:Int)(m bg br bo ba bh:Nat)(i:SC)(g:Nat→Value):List SV:=[.a (.c (.val (g 0))),.a (.c (.ptr 0 bg 0)),.a (.c (.ptr 1 br 0)),.a (.c (.val (g 3))),.a (.c (.ptr 2 bo 0)),.a (.c i),.a (.c (.val (g 6))),.a (.c (.val (g 7))),.a (.c (.val (g 8))),.a (.c (.val (g 9))),.a (.c (.val (g 10))),.a (.c (.val (g 11))),.a (.c (.val (g 12))),.a (.c (.val (g 13))),.a (.c (.val (g 14))),.a (.c (.val (g 15))),.a (.c (.val (g 16))),.a (.c (.val (g 17))),.a (.c (.val (g 18))),.a (.c (.val (g 19))),.a (.c (.val (g 20))),.a (.c (.val (g 21))),.a (.c (.val (g 22))),.a (.c (.val (g 23))),.a (.c (.val (g 24))),.a (.c (.val (g 25))),.a (.c (.val (g 26))),.a (.c (.val (g 27))),.a (.c (.val (g 28))),.a (.c (.val (g 29))),.a (.c (.val (g 30))),.a (.c (.val (g 31))),.a (.c (.val (g 32))),.a (.c (.val (g 33)))]
theorem aiB (G B R K:Int)(m bg br bo ba bh:Nat)(Oq:Option Addr)(Cq:Nat)(soq:Nat→Option Addr)(scq:Nat→Nat)(j:Nat)(g:Nat→Value)(NX:List SV→List Ch→Prop)(kx:Exit→List SV→List Ch→Prop):(exCode Tryz.prog {tb:=[(103,sLine),(104,sEncL)]} 400 (theLoop Tryz.f35 0) (aiH G B R K m bg br bo ba bh (.int (j:Int)) g) (aiT G B R K m bg br bo ba bh j Oq Cq soq scq) (loopK NX kx))=(
 (fun a:SV=>(fun b:Int=>(fun c:SV=>(fun d:SV=>(fun h:SV=>(fun k:Ch=>(fun l:Ch=>(fun n:Ch=>(fun o:Bool=>(fun p:Ch=>bg=bg∧(o=true→bo=bo∧∀(q:Option Addr) (r:Nat),True∧∀ s:Nat,True∧(Oq=Oq∧j=j∧Cq=Cq∧s=s∧(∀ t:Nat,true=true)∧apC j 1 32)∧∀(t:Option Addr) (u:Nat),True∧bo=bo∧True∧rng (((j:Nat):Int)+(1:Int))∧NX [vV (g 0),pV 0 bg 0,pV 1 br 0,vV (g 3),a,d,vV (g 6),vV (g 7),vV (g 8),vV (g 9),vV (g 10),vV (g 11),vV (g 12),vV (g 13),vV (g 14),vV (g 15),vV (g 16),vV (g 17),vV (g 18),vV (g 19),c,h,iV b,tV,c,d,a,sV 5 Oq j Cq,sV 7 q 11 r,aV [Cs 7 q 11 r,Cf],cV 8 s 1 1,sV 9 t (j+1) u,a,vV (g 33)] [k,Hc br 56 [Cz,Cz,Cz],Hc bo 56 [Cs 9 t (j+1) u,Cs 3 (Ad ba 0) m m,Cs 4 (Ad bh 0) m m],n,l,Hd,p,Hr true q 3 1 11 r [fun v=>Ci 0],Hc s 149 [Cs 7 q 11 r,Cf],Hr true t 149 2 (j+1) u [fun v=>Cv (if v<j then (Ws (soq v) 11 (scq v)) else (Ws q 11 r)),fun v=>Cb (if v<j then false else false)]])∧(o=false→kx (Exit.exit 0) [vV (g 0),pV 0 bg 0,pV 1 br 0,vV (g 3),a,c,vV (g 6),vV (g 7),vV (g 8),vV (g 9),vV (g 10),vV (g 11),vV (g 12),vV (g 13),vV (g 14),vV (g 15),vV (g 16),vV (g 17),vV (g 18),vV (g 19),c,h,iV b,fV,vV (g 24),vV (g 25),vV (g 26),vV (g 27),vV (g 28),vV (g 29),vV (g 30),vV (g 31),vV (g 32),vV (g 33)] [k,Hc br 56 [Cz,Cz,Cz],Hc bo 56 [Cs 5 Oq j Cq,Cs 3 (Ad ba 0) m m,Cs 4 (Ad bh 0) m m],n,l,Hr true Oq 149 2 j Cq [fun q=>Cs 6 (soq q) 11 (scq q),fun q=>Cb false],p])) (Ho true (symRows true 3 (CD.mk j (fun p=>11) (fun p=>fun q=>(0:Int)) (fun p=>false)) soq scq))) (decide (((j:Nat):Int)<b))) (Hr true (Ad ba 0) 3 1 m m [fun n=>Cl 0])) (Hr true (Ad bh 0) 3 1 m m [fun l=>Cl 0])) (Hc bg 38 [Ci G,Ci B,Ci R,Ci K])) (aV [Ci G,Ci B,Ci R,Ci K])) (iV (((j:Nat):Int)+(1:Int)))) (iV ((j:Nat):Int))) (lineN G B R K)) (pV 2 bo 0)):=by kernel_rfl
def idsAi (ts:List SV)(ch:List Ch):List Nat:=[idP (ts.getD 1 .undef),idP (ts.getD 2 .undef),idP (ts.getD 4 .undef),idCell ch (idP (ts.getD 4 .undef)) 1,idCell ch (idP (ts.getD 4 .undef)) 2,1000000,1000003]
def sai (G B R K:Int)(n m:Nat):LSm:=fun ts ch kk=>∃ (bg br bo ba bh:Nat),(ts.map SV.den=(aiH G B R K m bg br bo ba bh (.il 0) (fun d=>(ts.getD d .undef).den)).map SV.den∧SelS ch (idsAi ts ch) (aiT G B R K m bg br bo ba bh 0 none 0 (fun _=>none) (fun _=>0))) ∧
  ∀ (g:Nat→Value) (Oq:Option Addr) (Cq:Nat) (soq:Nat→Option Addr) (scq:Nat→Nat),kk (.exit 0) (aiH G B R K m bg br bo ba bh (.int (n:Int)) g) (aiT G B R K m bg br bo ba bh n Oq Cq soq scq)
theorem sai_ok (G B R K:Int)(n m:Nat)(hn:(n:Int)=lineN G B R K)(hm:n≤1024)(X:Cx):LoopOK Tryz.prog X (theLoop Tryz.f35 0) (sai G B R K n m):=by
 intro ts ch kk a w hS hT hd hs
 obtain ⟨bg,br,bo,ba,bh,⟨h1,hch⟩,hk⟩:=hS
 refine loop_ok mixed (E:={tb:=[(103,sLine),(104,sEncL)]}) ⟨sLine_I,sEncL_ok,trivial⟩ (loopsOK_nil _ _ _) 400 n (fun j ts ch=>∃ g Oq Cq soq scq,ts=aiH G B R K m bg br bo ba bh (.int (j:Int)) g∧ch=aiT G B R K m bg br bo ba bh j Oq Cq soq scq) ?_ ?_ hT hd hs
 ·rintro j _ _ ⟨g,Oq,Cq,soq,scq,rfl,rfl⟩ hj
  refine (@Eq.mpr _ _ (aiB G B R K m bg br bo ba bh Oq Cq soq scq j g _ _) ?_)
  dsimp -zeta -proj -iota -eta -failIfUnchanged (etaStruct:=.none) only
  rw [← hn]
  by_cases hlt:j<n
  ·repeat' (first
    | with_reducible exact rfl
    | exact True.intro
    | with_reducible assumption
    | (show Next _ _ _ _;rename_i oa ca b1 ao cap;refine Next.mk (fun g=>aiH G B R K m bg br bo ba bh (.int ((j+1:Nat):Int)) g) (aiT G B R K m bg br bo ba bh (j+1) ao cap (fun i=>if i<j then soq i else oa) (fun i=>if i<j then scq i else ca)) ⟨_,ao,cap,_,_,rfl,rfl⟩ rfl fun w hw=>SelS.hs (l:=[0,1,2,3,4,9,6]) (by refine ⟨?_,rfl⟩;repeat' (first | exact True.intro | exact symRows_push | exact rfl | refine And.intro ?_ ?_ | (intro i hi;show _=_;with_reducible rfl) | (intro i hi;show _=_;rfl) | exact push_hd | exact zRow | exact push_po | (intro i hi;show _=_;simp only [SC.den];split <;> rfl))) (hw.nestApp 6 7 rfl rfl rfl (by decide)))
    | refine And.intro ?_ ?_
    | (intro h;replace h:=of_decide_eq_true h;first | (exfalso;omega) | skip)
    | (intro h;replace h:=of_decide_eq_false h;first | (exfalso;omega) | skip)
    | (show rng _;simp only [rng];omega)
    | (intro i hi;rfl)
    | intro _
    | omega
    | (simp;omega))
  ·have hjn:j=n:=by omega
   subst hjn
   repeat' (first
    | with_reducible exact rfl
    | exact True.intro
    | with_reducible assumption
    | (refine Next.mk (fun g=>aiH G B R K m bg br bo ba bh (.int (j:Int)) g) _ (hk _ _ _ _ _) rfl fun w hw=>hw)
    | refine And.intro ?_ ?_
    | (intro h;replace h:=of_decide_eq_true h;first | (exfalso;omega) | skip)
    | (intro h;replace h:=of_decide_eq_false h;first | (exfalso;omega) | skip)
    | intro _
    | omega)
 ·exact Next.mk (fun g=>aiH G B R K m bg br bo ba bh (.int ((0:Nat):Int)) g) _ ⟨_,_,_,_,_,rfl,rfl⟩ h1 fun w hw=>hch.hs hw
theorem aiw_T (G B R K:Int)(n m:Nat):(exFn Tryz.prog {tb:=[(39,sBank),(102,sGeo)],L:=[(6,sai G B R K n m)]} 400 Tryz.f35 ([.a (.agg [.int G,.int B,.int R,.int K])]) ([]) (fun v ch=>∃ (Oq Aq Hq:Option Addr) (Cq Dq Ee:Nat) (soq:Nat→Option Addr) (scq:Nat→Nat),v.den=arrV (newA n m) Oq Aq Hq Cq Dq Ee∧SelS ch (idsArr v ch) (arrO 0 (newA n m) Oq Aq Hq Cq Dq Ee soq scq)))=(
 (fun b:Value=>(fun c:Value=>(fun d:Value=>(fun g:Value=>(fun h:SC=>(fun j:List SC=>(fun k:Int=>(fun l:List (Nat→SC)=>(fun o:List (Nat→SC)=>(fun p:Value=>(fun q:Value=>(fun r:Value=>(fun s:SC=>(fun t:List SC=>(fun u:Nat=>(fun w:Value=>(fun x:CD=>(fun y:Ch=>(fun z:Ch=>∀ C D:Nat,(fun E:Value=>(fun F:Value=>(fun H:Value=>(fun I:Ch=>(fun J:Ch=>C=C∧((! (geoB G B R K))=true→D=D∧D=D∧∃(M N O:Option Addr) (P Q S:Nat) (T:Nat→Option Addr) (U:Nat→Nat),(Wa [Wn,Wn,Wn])=(Wa [Ws M n P,Ws N m Q,Ws O m S])∧SelS [J,I] [1000000,1000001,1000002,1000003] [Hr true M 149 2 n P [fun V=>Cs 3 (T V) 11 (U V),fun V=>h],Hr true N 3 1 m Q o,Hr true O 3 1 m S o,Ho true (symRows true 3 x T U)])∧((! (geoB G B R K))=false→C=C∧C=C∧True∧rng (k*R)∧((k*R)=(k*R)∧mkC 8 (k*R)∧∀ M:Nat,(fun N:Value=>(fun O:Ch=>True∧((k*R)=(k*R)∧mkC 8 (k*R)∧∀ P:Nat,(fun Q:Value=>(fun S:Value=>True∧∀ T:Nat,True∧T=T∧True∧∃ U V W X Y:Nat,(fun Z:SC=>(fun aa:SC=>(fun ab:Ch=>(fun ac:Ch=>([w,H,F,r,Wp T 0,d,w,p,g,b,w,q,E,c,r,r,N,r,Q,S,b,b,b,b,b,b,b,b,b,b,b,b,b,b]=[w,Wp U 0,Wp V 0,r,Wp W 0,d,w,p,g,b,w,q,E,c,r,r,N,r,Q,S,b,b,b,b,b,b,b,b,b,b,b,b,b,b]∧SelS [J,I,O,Hr true (Ad P 0) 3 1 u u l,Hc T 56 [Cz,Cs 2 (Ad M 0) u u,Cs 3 (Ad P 0) u u]] [0,1,4,2,3,1000000,1000003] [Hc U 38 t,Hc V 56 j,Hc W 56 [s,aa,Z],ac,ab,y,z])∧∀(ad:Nat→Value) (af:Option Addr) (ag:Nat) (ah:Nat→Option Addr) (aj:Nat→Nat),W=W∧V=V∧V=V∧∃(ak al am:Option Addr) (an ao ap:Nat) (aq:Nat→Option Addr) (ar:Nat→Nat),(Wa [Ws af n ag,Ws (Ad X 0) m m,Ws (Ad Y 0) m m])=(Wa [Ws ak n an,Ws al m ao,Ws am m ap])∧SelS [Hc U 38 t,Hc V 56 [Cs 5 af n ag,aa,Z],Hc W 56 [Cs 5 af n ag,aa,Z],ac,ab,Hr true af 149 2 n ag [fun au=>Cs 6 (ah au) 11 (aj au),fun au=>h],Ho true (symRows true 3 x ah aj)] [5,3,4,6] [Hr true ak 149 2 n an [fun au=>Cs 3 (aq au) 11 (ar au),fun au=>h],Hr true al 3 1 m ao o,Hr true am 3 1 m ap o,Ho true (symRows true 3 x aq ar)]) (Hr true (Ad X 0) 3 1 m m l)) (Hr true (Ad Y 0) 3 1 m m l)) (Cs 3 (Ad X 0) m m)) (Cs 4 (Ad Y 0) m m)) (Wa [Wn,N,Q])) (Ws (Ad P 0) u u))∧∀ P:Nat,True∧(k*R)=(k*R)∧mkC 8 (k*R)∧∀ Q:Nat,(fun S:Value=>(fun T:Value=>True∧P=P∧True∧∃ U V W X Y:Nat,(fun Z:SC=>(fun aa:SC=>(fun ab:Ch=>(fun ac:Ch=>([w,H,F,r,Wp P 0,d,w,p,g,b,w,q,E,c,r,r,N,r,S,T,b,b,b,b,b,b,b,b,b,b,b,b,b,b]=[w,Wp U 0,Wp V 0,r,Wp W 0,d,w,p,g,b,w,q,E,c,r,r,N,r,S,T,b,b,b,b,b,b,b,b,b,b,b,b,b,b]∧SelS [J,I,O,Hc P 56 [Cz,Cs 2 (Ad M 0) u u,Cs 4 (Ad Q 0) u u],Hr true (Ad Q 0) 3 1 u u l] [0,1,3,2,4,1000000,1000003] [Hc U 38 t,Hc V 56 j,Hc W 56 [s,aa,Z],ac,ab,y,z])∧∀(ad:Nat→Value) (af:Option Addr) (ag:Nat) (ah:Nat→Option Addr) (aj:Nat→Nat),W=W∧V=V∧V=V∧∃(ak al am:Option Addr) (an ao ap:Nat) (aq:Nat→Option Addr) (ar:Nat→Nat),(Wa [Ws af n ag,Ws (Ad X 0) m m,Ws (Ad Y 0) m m])=(Wa [Ws ak n an,Ws al m ao,Ws am m ap])∧SelS [Hc U 38 t,Hc V 56 [Cs 5 af n ag,aa,Z],Hc W 56 [Cs 5 af n ag,aa,Z],ac,ab,Hr true af 149 2 n ag [fun au=>Cs 6 (ah au) 11 (aj au),fun au=>h],Ho true (symRows true 3 x ah aj)] [5,3,4,6] [Hr true ak 149 2 n an [fun au=>Cs 3 (aq au) 11 (ar au),fun au=>h],Hr true al 3 1 m ao o,Hr true am 3 1 m ap o,Ho true (symRows true 3 x aq ar)]) (Hr true (Ad X 0) 3 1 m m l)) (Hr true (Ad Y 0) 3 1 m m l)) (Cs 3 (Ad X 0) m m)) (Cs 4 (Ad Y 0) m m)) (Wa [Wn,N,S])) (Ws (Ad Q 0) u u)) (Hr true (Ad M 0) 3 1 u u l)) (Ws (Ad M 0) u u))∧((k*R)=(k*R)∧mkC 8 (k*R)∧∀ M:Nat,(fun N:Value=>(fun O:Ch=>True∧((k*R)=(k*R)∧mkC 8 (k*R)∧∀ P:Nat,(fun Q:Value=>(fun S:Value=>True∧∀ T:Nat,True∧T=T∧True∧∃ U V W X Y:Nat,(fun Z:SC=>(fun aa:SC=>(fun ab:Ch=>(fun ac:Ch=>([w,H,F,r,Wp T 0,d,w,p,g,b,w,q,E,c,r,r,Q,r,N,S,b,b,b,b,b,b,b,b,b,b,b,b,b,b]=[w,Wp U 0,Wp V 0,r,Wp W 0,d,w,p,g,b,w,q,E,c,r,r,Q,r,N,S,b,b,b,b,b,b,b,b,b,b,b,b,b,b]∧SelS [J,I,O,Hr true (Ad P 0) 3 1 u u l,Hc T 56 [Cz,Cs 3 (Ad P 0) u u,Cs 2 (Ad M 0) u u]] [0,1,4,3,2,1000000,1000003] [Hc U 38 t,Hc V 56 j,Hc W 56 [s,aa,Z],ac,ab,y,z])∧∀(ad:Nat→Value) (af:Option Addr) (ag:Nat) (ah:Nat→Option Addr) (aj:Nat→Nat),W=W∧V=V∧V=V∧∃(ak al am:Option Addr) (an ao ap:Nat) (aq:Nat→Option Addr) (ar:Nat→Nat),(Wa [Ws af n ag,Ws (Ad X 0) m m,Ws (Ad Y 0) m m])=(Wa [Ws ak n an,Ws al m ao,Ws am m ap])∧SelS [Hc U 38 t,Hc V 56 [Cs 5 af n ag,aa,Z],Hc W 56 [Cs 5 af n ag,aa,Z],ac,ab,Hr true af 149 2 n ag [fun au=>Cs 6 (ah au) 11 (aj au),fun au=>h],Ho true (symRows true 3 x ah aj)] [5,3,4,6] [Hr true ak 149 2 n an [fun au=>Cs 3 (aq au) 11 (ar au),fun au=>h],Hr true al 3 1 m ao o,Hr true am 3 1 m ap o,Ho true (symRows true 3 x aq ar)]) (Hr true (Ad X 0) 3 1 m m l)) (Hr true (Ad Y 0) 3 1 m m l)) (Cs 3 (Ad X 0) m m)) (Cs 4 (Ad Y 0) m m)) (Wa [Wn,Q,N])) (Ws (Ad P 0) u u))∧∀ P:Nat,True∧(k*R)=(k*R)∧mkC 8 (k*R)∧∀ Q:Nat,(fun S:Value=>(fun T:Value=>True∧P=P∧True∧∃ U V W X Y:Nat,(fun Z:SC=>(fun aa:SC=>(fun ab:Ch=>(fun ac:Ch=>([w,H,F,r,Wp P 0,d,w,p,g,b,w,q,E,c,r,r,S,r,N,T,b,b,b,b,b,b,b,b,b,b,b,b,b,b]=[w,Wp U 0,Wp V 0,r,Wp W 0,d,w,p,g,b,w,q,E,c,r,r,S,r,N,T,b,b,b,b,b,b,b,b,b,b,b,b,b,b]∧SelS [J,I,O,Hc P 56 [Cz,Cs 4 (Ad Q 0) u u,Cs 2 (Ad M 0) u u],Hr true (Ad Q 0) 3 1 u u l] [0,1,3,4,2,1000000,1000003] [Hc U 38 t,Hc V 56 j,Hc W 56 [s,aa,Z],ac,ab,y,z])∧∀(ad:Nat→Value) (af:Option Addr) (ag:Nat) (ah:Nat→Option Addr) (aj:Nat→Nat),W=W∧V=V∧V=V∧∃(ak al am:Option Addr) (an ao ap:Nat) (aq:Nat→Option Addr) (ar:Nat→Nat),(Wa [Ws af n ag,Ws (Ad X 0) m m,Ws (Ad Y 0) m m])=(Wa [Ws ak n an,Ws al m ao,Ws am m ap])∧SelS [Hc U 38 t,Hc V 56 [Cs 5 af n ag,aa,Z],Hc W 56 [Cs 5 af n ag,aa,Z],ac,ab,Hr true af 149 2 n ag [fun au=>Cs 6 (ah au) 11 (aj au),fun au=>h],Ho true (symRows true 3 x ah aj)] [5,3,4,6] [Hr true ak 149 2 n an [fun au=>Cs 3 (aq au) 11 (ar au),fun au=>h],Hr true al 3 1 m ao o,Hr true am 3 1 m ap o,Ho true (symRows true 3 x aq ar)]) (Hr true (Ad X 0) 3 1 m m l)) (Hr true (Ad Y 0) 3 1 m m l)) (Cs 3 (Ad X 0) m m)) (Cs 4 (Ad Y 0) m m)) (Wa [Wn,S,N])) (Ws (Ad Q 0) u u)) (Hr true (Ad M 0) 3 1 u u l)) (Ws (Ad M 0) u u))∧∀ M:Nat,True∧((k*R)=(k*R)∧mkC 8 (k*R)∧∀ N:Nat,(fun O:Value=>True∧(k*R)=(k*R)∧mkC 8 (k*R)∧∀ P:Nat,(fun Q:Value=>(fun S:Value=>True∧M=M∧True∧∃ T U V W X:Nat,(fun Y:SC=>(fun Z:SC=>(fun aa:Ch=>(fun ab:Ch=>([w,H,F,r,Wp M 0,d,w,p,g,b,w,q,E,c,r,r,O,r,Q,S,b,b,b,b,b,b,b,b,b,b,b,b,b,b]=[w,Wp T 0,Wp U 0,r,Wp V 0,d,w,p,g,b,w,q,E,c,r,r,O,r,Q,S,b,b,b,b,b,b,b,b,b,b,b,b,b,b]∧SelS [J,I,Hc M 56 [Cz,Cs 3 (Ad N 0) u u,Cs 4 (Ad P 0) u u],Hr true (Ad N 0) 3 1 u u l,Hr true (Ad P 0) 3 1 u u l] [0,1,2,3,4,1000000,1000003] [Hc T 38 t,Hc U 56 j,Hc V 56 [s,Z,Y],ab,aa,y,z])∧∀(ac:Nat→Value) (ad:Option Addr) (af:Nat) (ag:Nat→Option Addr) (ah:Nat→Nat),V=V∧U=U∧U=U∧∃(aj ak al:Option Addr) (am an ao:Nat) (ap:Nat→Option Addr) (aq:Nat→Nat),(Wa [Ws ad n af,Ws (Ad W 0) m m,Ws (Ad X 0) m m])=(Wa [Ws aj n am,Ws ak m an,Ws al m ao])∧SelS [Hc T 38 t,Hc U 56 [Cs 5 ad n af,Z,Y],Hc V 56 [Cs 5 ad n af,Z,Y],ab,aa,Hr true ad 149 2 n af [fun ar=>Cs 6 (ag ar) 11 (ah ar),fun ar=>h],Ho true (symRows true 3 x ag ah)] [5,3,4,6] [Hr true aj 149 2 n am [fun ar=>Cs 3 (ap ar) 11 (aq ar),fun ar=>h],Hr true ak 3 1 m an o,Hr true al 3 1 m ao o,Ho true (symRows true 3 x ap aq)]) (Hr true (Ad W 0) 3 1 m m l)) (Hr true (Ad X 0) 3 1 m m l)) (Cs 3 (Ad W 0) m m)) (Cs 4 (Ad X 0) m m)) (Wa [Wn,O,Q])) (Ws (Ad P 0) u u)) (Ws (Ad N 0) u u))∧(k*R)=(k*R)∧mkC 8 (k*R)∧∀ N:Nat,(fun O:Value=>True∧(k*R)=(k*R)∧mkC 8 (k*R)∧∀ P:Nat,(fun Q:Value=>(fun S:Value=>True∧M=M∧True∧∃ T U V W X:Nat,(fun Y:SC=>(fun Z:SC=>(fun aa:Ch=>(fun ab:Ch=>([w,H,F,r,Wp M 0,d,w,p,g,b,w,q,E,c,r,r,Q,r,O,S,b,b,b,b,b,b,b,b,b,b,b,b,b,b]=[w,Wp T 0,Wp U 0,r,Wp V 0,d,w,p,g,b,w,q,E,c,r,r,Q,r,O,S,b,b,b,b,b,b,b,b,b,b,b,b,b,b]∧SelS [J,I,Hc M 56 [Cz,Cs 4 (Ad P 0) u u,Cs 3 (Ad N 0) u u],Hr true (Ad N 0) 3 1 u u l,Hr true (Ad P 0) 3 1 u u l] [0,1,2,4,3,1000000,1000003] [Hc T 38 t,Hc U 56 j,Hc V 56 [s,Z,Y],ab,aa,y,z])∧∀(ac:Nat→Value) (ad:Option Addr) (af:Nat) (ag:Nat→Option Addr) (ah:Nat→Nat),V=V∧U=U∧U=U∧∃(aj ak al:Option Addr) (am an ao:Nat) (ap:Nat→Option Addr) (aq:Nat→Nat),(Wa [Ws ad n af,Ws (Ad W 0) m m,Ws (Ad X 0) m m])=(Wa [Ws aj n am,Ws ak m an,Ws al m ao])∧SelS [Hc T 38 t,Hc U 56 [Cs 5 ad n af,Z,Y],Hc V 56 [Cs 5 ad n af,Z,Y],ab,aa,Hr true ad 149 2 n af [fun ar=>Cs 6 (ag ar) 11 (ah ar),fun ar=>h],Ho true (symRows true 3 x ag ah)] [5,3,4,6] [Hr true aj 149 2 n am [fun ar=>Cs 3 (ap ar) 11 (aq ar),fun ar=>h],Hr true ak 3 1 m an o,Hr true al 3 1 m ao o,Ho true (symRows true 3 x ap aq)]) (Hr true (Ad W 0) 3 1 m m l)) (Hr true (Ad X 0) 3 1 m m l)) (Cs 3 (Ad W 0) m m)) (Cs 4 (Ad X 0) m m)) (Wa [Wn,Q,O])) (Ws (Ad P 0) u u)) (Ws (Ad N 0) u u))) (Hc C 38 t)) (Hc D 56 j)) (Wp C 0)) (Wp D 0)) (Wp C 2)) (Ho true (symRows true 3 (CD.mk 0 (fun z=>11) (fun z=>fun C=>(0:Int)) (fun z=>false)) (fun z=>(none:Option Addr)) (fun z=>0)))) (Hr true (none:Option Addr) 149 2 0 0 [fun y=>Cs 6 (none:Option Addr) 11 0,fun y=>h])) (CD.mk n (fun x=>11) (fun x=>fun y=>(0:Int)) (fun x=>false))) (Wa [Wi G,Wi B,c,Wi K])) (Int.toNat (k*R))) [Ci G,Ci B,Ci R,Ci K]) (Cs 5 (none:Option Addr) 0 0)) (Wi (k*R))) (Wi k)) (Wb (geoB G B R K))) [fun o=>Ci 0]) [fun l=>Cl 0]) (bankN G B R K)) [Cz,Cz,Cz]) (Cb false)) (Wb false)) (Wi 0)) (Wi R)) (Wu [])):=by kernel_rfl
theorem aiw_any (G B R K:Int)(n m:Nat)(w:World)(hg:geoB G B R K=true)(hn:(n:Int)=lineN G B R K)(hm:m=(bankN G B R K*R).toNat):Calls Tryz.prog 35 #[.agg #[.int .i64 G,.int .i64 B,.int .i64 R,.int .i64 K]] w fun e w'=>∃ (Oq Aq Hq:Option Addr) (Cq Dq Ee:Nat) (soq:Nat→Option Addr) (scq:Nat→Nat),e=.returned (arrV (newA n m) Oq Aq Hq Cq Dq Ee)∧HS ⟨w,fun _=>False⟩ (arrO 0 (newA n m) Oq Aq Hq Cq Dq Ee soq scq) w':=by
 have hb0:=geo_bank hg
 have hbk:bankN G B R K=G*B:=by simp [bankN,hg]
 rw [← hbk] at hb0
 have hR:=(geo_facts hg).2.2.1
 have hb:2≤bankN G B R K*R∧bankN G B R K*R≤128:=by
  have q1:1*2≤bankN G B R K*R:=Int.mul_le_mul hb0.1 hR.1 (by omega) (by omega)
  have q2:bankN G B R K*R≤8*16:=Int.mul_le_mul hb0.2 hR.2 (by omega) (by omega)
  omega
 have hn16:n≤1024:=by
  have hK:=(geo_facts hg).2.2.2
  have e:lineN G B R K=bankN G B R K*R*K:=line_row hg
  have q:bankN G B R K*R*K≤128*8:=Int.mul_le_mul hb.2 hK.2 (by omega) (by omega)
  omega
 refine fn_ok mixed (E:={tb:=[(39,sBank),(102,sGeo)],L:=[(6,sai G B R K n m)]}) ⟨sBank_I,sGeo_I,trivial⟩ Tryz.func35 (one_loop (by kernel_rfl) (by kernel_rfl) (sai_ok G B R K n m hn hn16 _)) (@Eq.mpr _ _ (aiw_T G B R K n m) ?_) (HS.rows (fun _=>False) [] (by simp)) (fun v ch' w' ⟨Oq,Aq,Hq,Cq,Dq,Ee,soq,scq,hv,hc⟩ hs=>⟨Oq,Aq,Hq,Cq,Dq,Ee,soq,scq,by rw [hv],hc.hs hs⟩)
 dsimp -zeta -proj -iota -eta -failIfUnchanged (etaStruct:=.none) only
 rw [hg]
 subst hm
 generalize hz:bankN G B R K*R=z at hb ⊢
 obtain ⟨hb1,hb2⟩:=hb
 repeat' (first
  | with_reducible exact rfl
  | exact True.intro
  | with_reducible assumption
  | (refine ⟨_,_,_,_,_,⟨rfl,?_⟩,?_⟩)
  | exact (by refine ⟨?_,rfl⟩;repeat' (first | exact True.intro | exact symRows_push | exact rfl | refine And.intro ?_ ?_ | (intro i hi;show _=_;with_reducible rfl) | (intro i hi;show _=_;rfl) | exact symRows_nil | (intro i hi;show _=_;simp only [SC.den];split <;> rfl)))
  | (intro h;exfalso;simp at h;done)
  | (show rng _;simp only [rng];omega)
  | (show mkC _ _;simp only [mkC];omega)
  | refine And.intro ?_ ?_
  | apply Exists.intro
  | (intro h;replace h:=of_decide_eq_true h;first | (exfalso;omega) | skip)
  | (intro h;replace h:=of_decide_eq_false h;first | (exfalso;omega) | skip)
  | (intro i hi;with_reducible exact rfl)
  | intro _
  | omega
  | exact rfl)
end Go.Proofs.YtbhfabaofhhkeaaGreat

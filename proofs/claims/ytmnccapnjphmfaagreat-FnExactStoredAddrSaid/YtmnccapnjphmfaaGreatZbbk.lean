/-
  FnExactStoredAddr: a part of the walk (merged and squeezed by program: SxKA SxCtB).
-/
import Derived.Test.YtmnccapnjphmfaaGreatZbbc
import Derived.Test.YtmnccapnjphmfaaGreatZbbf
import Derived.Test.YtmnccapnjphmfaaGreatZbbg
import Derived.Test.YtmnccapnjphmfaaGreatZbbi
import Derived.Test.YtmnccapnjphmfaaGreatZbbj
namespace Go.Proofs.YtmnccapnjphmfaaGreat
set_option linter.unusedVariables false
set_option linter.unusedSimpArgs false
open Go.RowKit
set_option maxRecDepth 100000
set_option maxHeartbeats 8000000
def arrOk (G B R K:Int)(x:AD):Bool:=geoB G B R K&&ieq (x.c.n:Int) (lineN G B R K)&&ieq (x.aN:Int) (bankN G B R K*R)&&ieq (x.hN:Int) (x.aN:Int)&&allB x.c.n (fun j=>symB (x.c.sn j) (x.c.sy j) 11)&&allB x.aN (fun j=>btw (x.ag j) 0 100000&&btw (x.hg j) 0 100000)
abbrev lenA (x:AD):Prop:=x.c.n≤9223372036854775807∧x.aN≤9223372036854775807∧x.hN≤9223372036854775807∧∀ i,i<x.c.n→x.c.sn i≤9223372036854775807
def akIH (x:AD)(O A H:Option Addr)(C D E:Nat)(so:Nat→Option Addr)(sc:Nat→Nat)(G B R K:Int)(bg ba:Nat)(i:SC)(g:Nat→Value):List SV:=[.a (.c (.val (g 0))),.a (.c (.val (g 1))),.a (.c (.ptr 4 bg 0)),.a (.c (.ptr 5 ba 0)),.a (.c (.val (g 4))),.a (.c (.val (g 5))),.a (.c (.val (g 6))),.a (.c (.val (g 7))),.a (.c (.val (g 8))),.a (.c (.val (g 9))),.a (.c (.val (g 10))),.a (.c (.val (g 11))),.a (.c (.val (g 12))),.a (.c (.val (g 13))),.a (.c (.val (g 14))),.a (.c (.val (g 15))),.a (.c (.val (g 16))),.a (.c (.val (g 17))),.a (.c (.val (g 18))),.a (.c (.val (g 19))),.a (.c (.val (g 20))),.a (.c (.val (g 21))),.a (.c (.val (g 22))),.a (.c (.val (g 23))),.a (.c (.val (g 24))),.a (.c (.val (g 25))),.a (.c (.val (g 26))),.a (.c (.val (g 27))),.a (.c (.val (g 28))),.a (.c (.val (g 29))),.a (.c (.val (g 30))),.a (.c (.val (g 31))),.a (.c (.val (g 32))),.a (.c (.val (g 33))),.a (.c (.val (g 34))),.a (.c (.val (g 35))),.a (.c (.val (g 36))),.a (.c (.val (g 37))),.a (.c (.val (g 38))),.a (.c (.val (g 39))),.a (.c (.sl 0 O x.c.n C)),.a (.c (.int (x.c.n:Int))),.a (.c i),.a (.c (.val (g 43))),.a (.c (.val (g 44))),.a (.c (.val (g 45))),.a (.c (.val (g 46))),.a (.c (.val (g 47))),.a (.c (.val (g 48))),.a (.c (.val (g 49))),.a (.c (.val (g 50))),.a (.c (.val (g 51))),.a (.c (.val (g 52))),.a (.c (.val (g 53))),.a (.c (.val (g 54))),.a (.c (.val (g 55))),.a (.c (.val (g 56))),.a (.c (.val (g 57))),.a (.c (.val (g 58))),.a (.c (.val (g 59))),.a (.c (.val (g 60))),.a (.c (.val (g 61))),.a (.c (.val (g 62))),.a (.c (.val (g 63))),.a (.c (.val (g 64))),.a (.c (.val (g 65))),.a (.c (.val (g 66))),.a (.c (.val (g 67))),.a (.c (.val (g 68))),.a (.c (.val (g 69))),.a (.c (.val (g 70))),.a (.c (.val (g 71))),.a (.c (.val (g 72))),.a (.c (.val (g 73)))]
def akIR (x:AD)(O A H:Option Addr)(C D E:Nat)(so:Nat→Option Addr)(sc:Nat→Nat)(G B R K:Int)(bg ba:Nat)(g:Nat→Value):List SV:=[.a (.c (.val (g 0))),.a (.c (.val (g 1))),.a (.c (.val (g 2))),.a (.c (.val (g 3))),.a (.c (.lit false)),.a (.c (.val (g 5))),.a (.c (.val (g 6))),.a (.c (.val (g 7))),.a (.c (.val (g 8))),.a (.c (.val (g 9))),.a (.c (.val (g 10))),.a (.c (.val (g 11))),.a (.c (.val (g 12))),.a (.c (.val (g 13))),.a (.c (.val (g 14))),.a (.c (.val (g 15))),.a (.c (.val (g 16))),.a (.c (.val (g 17))),.a (.c (.val (g 18))),.a (.c (.val (g 19))),.a (.c (.val (g 20))),.a (.c (.val (g 21))),.a (.c (.val (g 22))),.a (.c (.val (g 23))),.a (.c (.val (g 24))),.a (.c (.val (g 25))),.a (.c (.val (g 26))),.a (.c (.val (g 27))),.a (.c (.val (g 28))),.a (.c (.val (g 29))),.a (.c (.val (g 30))),.a (.c (.val (g 31))),.a (.c (.val (g 32))),.a (.c (.val (g 33))),.a (.c (.val (g 34))),.a (.c (.val (g 35))),.a (.c (.val (g 36))),.a (.c (.val (g 37))),.a (.c (.val (g 38))),.a (.c (.val (g 39))),.a (.c (.val (g 40))),.a (.c (.val (g 41))),.a (.c (.val (g 42))),.a (.c (.val (g 43))),.a (.c (.val (g 44))),.a (.c (.val (g 45))),.a (.c (.val (g 46))),.a (.c (.val (g 47))),.a (.c (.val (g 48))),.a (.c (.val (g 49))),.a (.c (.val (g 50))),.a (.c (.val (g 51))),.a (.c (.val (g 52))),.a (.c (.val (g 53))),.a (.c (.val (g 54))),.a (.c (.val (g 55))),.a (.c (.val (g 56))),.a (.c (.val (g 57))),.a (.c (.val (g 58))),.a (.c (.val (g 59))),.a (.c (.val (g 60))),.a (.c (.val (g 61))),.a (.c (.val (g 62))),.a (.c (.val (g 63))),.a (.c (.val (g 64))),.a (.c (.val (g 65))),.a (.c (.val (g 66))),.a (.c (.val (g 67))),.a (.c (.val (g 68))),.a (.c (.val (g 69))),.a (.c (.val (g 70))),.a (.c (.val (g 71))),.a (.c (.val (g 72))),.a (.c (.val (g 73)))]
def akIT (x:AD)(O A H:Option Addr)(C D E:Nat)(so:Nat→Option Addr)(sc:Nat→Nat)(G B R K:Int)(bg ba:Nat):List Ch:=[.row ⟨false,O,0,2,x.c.n,0,cellFld 3 x.c so sc⟩,.row ⟨false,A,0,1,x.aN,0,[fun i=>.int (x.ag i)]⟩,.row ⟨false,H,0,1,x.hN,0,[fun i=>.int (x.hg i)]⟩,.obj false (symRows false 0 x.c so (fun _=>0)),.cells bg 68 [.int G,.int B,.int R,.int K],.cells ba 85 [.sl 0 O x.c.n C,.sl 1 A x.aN D,.sl 2 H x.hN E]]
def akIP (x:AD)(O A H:Option Addr)(C D E:Nat)(so:Nat→Option Addr)(sc:Nat→Nat)(G B R K:Int)(bg ba:Nat)(j:Nat):Bool:=symB (x.c.sn j) (x.c.sy j) 11
def sakI (x:AD)(O A H:Option Addr)(C D E:Nat)(so:Nat→Option Addr)(sc:Nat→Nat)(G B R K:Int)(bg ba:Nat):LSm:=fun ts ch k =>
 (ts.map SV.den=(akIH x O A H C D E so sc G B R K bg ba (.il 0) (fun d=>(ts.getD d .undef).den)).map SV.den∧selC ch [0,1,2,3,4,5]=akIT x O A H C D E so sc G B R K bg ba) ∧
  (∀ g,allB x.c.n (akIP x O A H C D E so sc G B R K bg ba)=true→k (.exit 0) (akIH x O A H C D E so sc G B R K bg ba (.int (x.c.n:Int)) g) (akIT x O A H C D E so sc G B R K bg ba))∧(∀ g,allB x.c.n (akIP x O A H C D E so sc G B R K bg ba)=false→k .ret (akIR x O A H C D E so sc G B R K bg ba g) (akIT x O A H C D E so sc G B R K bg ba))
theorem akIB (x:AD)(O A H:Option Addr)(C D E:Nat)(so:Nat→Option Addr)(sc:Nat→Nat)(G B R K:Int)(bg ba:Nat)(j:Nat)(g:Nat→Value)(NX:List SV→List Ch→Prop)(kx:Exit→List SV→List Ch→Prop):(exCode Tryz.prog { tb:=[(136,sSym)] } 400 (theLoop Tryz.f64 0) (akIH x O A H C D E so sc G B R K bg ba (.int (j:Int)) g) (akIT x O A H C D E so sc G B R K bg ba) (loopK NX kx))=(
 (fun a:SV=>(fun b:SV=>(fun c:SV=>(fun d:List Row=>(fun h:SV=>(fun k:Ch=>(fun l:Ch=>(fun m:Ch=>(fun n:Ch=>(fun o:List SC=>(fun p:Bool=>(fun q:SV=>(fun r:Ch=>(fun s:Ch=>(p=true→O=O∧x.1.1=x.1.1∧(0≤((j:Nat):Int)∧((j:Nat):Int)<((x.1.1:Nat):Int))∧O=O∧j<x.1.1∧∀ t:Nat,(fun u:SV=>t=t∧t=t∧∃(v:Nat) (w:CD) (y:Nat→Option Addr) (z:Nat→Nat) (F:Nat),(fun I:Bool=>(fun J:Bool=>(fun L:SV=>(d=(symRows false v w y z)∧(so j)=(y F)∧(x.1.2 j)=(w.2 F)∧F<w.1)∧lenC (x.1.2 j)∧(J=true→kx Exit.ret [vV (g 0),vV (g 1),pV 4 bg 0,pV 5 ba 0,fV,vV (g 5),vV (g 6),u,vV (g 8),vV (g 9),vV (g 10),vV (g 11),vV (g 12),vV (g 13),vV (g 14),vV (g 15),vV (g 16),vV (g 17),vV (g 18),vV (g 19),vV (g 20),vV (g 21),vV (g 22),vV (g 23),vV (g 24),vV (g 25),vV (g 26),vV (g 27),vV (g 28),vV (g 29),vV (g 30),vV (g 31),vV (g 32),vV (g 33),vV (g 34),vV (g 35),vV (g 36),vV (g 37),vV (g 38),vV (g 39),a,b,iV ((j:Nat):Int),tV,rV 0 O 2 j 0,q,u,c,L,tV,vV (g 50),vV (g 51),vV (g 52),vV (g 53),vV (g 54),vV (g 55),vV (g 56),vV (g 57),vV (g 58),vV (g 59),vV (g 60),vV (g 61),vV (g 62),vV (g 63),vV (g 64),vV (g 65),vV (g 66),vV (g 67),vV (g 68),vV (g 69),vV (g 70),vV (g 71),vV (g 72),vV (g 73)] [s,n,m,l,k,r,Hc t 190 o])∧(J=false→rng (((j:Nat):Int)+(1:Int))∧NX [vV (g 0),vV (g 1),pV 4 bg 0,pV 5 ba 0,vV (g 4),vV (g 5),vV (g 6),u,vV (g 8),vV (g 9),vV (g 10),vV (g 11),vV (g 12),vV (g 13),vV (g 14),vV (g 15),vV (g 16),vV (g 17),vV (g 18),vV (g 19),vV (g 20),vV (g 21),vV (g 22),vV (g 23),vV (g 24),vV (g 25),vV (g 26),vV (g 27),vV (g 28),vV (g 29),vV (g 30),vV (g 31),vV (g 32),vV (g 33),vV (g 34),vV (g 35),vV (g 36),vV (g 37),vV (g 38),vV (g 39),a,b,h,tV,rV 0 O 2 j 0,q,u,c,L,fV,h,vV (g 51),vV (g 52),vV (g 53),vV (g 54),vV (g 55),vV (g 56),vV (g 57),vV (g 58),vV (g 59),vV (g 60),vV (g 61),vV (g 62),vV (g 63),vV (g 64),vV (g 65),vV (g 66),vV (g 67),vV (g 68),vV (g 69),vV (g 70),vV (g 71),vV (g 72),vV (g 73)] [s,n,m,l,k,r,Hc t 190 o])) (bV I)) (! I)) (symB (x.1.2 j) (w.3 F) (11:Int))) (pV 6 t 0))∧(p=false→kx (Exit.exit 0) [vV (g 0),vV (g 1),pV 4 bg 0,pV 5 ba 0,vV (g 4),vV (g 5),vV (g 6),vV (g 7),vV (g 8),vV (g 9),vV (g 10),vV (g 11),vV (g 12),vV (g 13),vV (g 14),vV (g 15),vV (g 16),vV (g 17),vV (g 18),vV (g 19),vV (g 20),vV (g 21),vV (g 22),vV (g 23),vV (g 24),vV (g 25),vV (g 26),vV (g 27),vV (g 28),vV (g 29),vV (g 30),vV (g 31),vV (g 32),vV (g 33),vV (g 34),vV (g 35),vV (g 36),vV (g 37),vV (g 38),vV (g 39),a,b,iV ((j:Nat):Int),fV,vV (g 44),vV (g 45),vV (g 46),vV (g 47),vV (g 48),vV (g 49),vV (g 50),vV (g 51),vV (g 52),vV (g 53),vV (g 54),vV (g 55),vV (g 56),vV (g 57),vV (g 58),vV (g 59),vV (g 60),vV (g 61),vV (g 62),vV (g 63),vV (g 64),vV (g 65),vV (g 66),vV (g 67),vV (g 68),vV (g 69),vV (g 70),vV (g 71),vV (g 72),vV (g 73)] [s,n,m,l,k,r])) (Hr false O 0 2 x.1.1 0 [fun s=>Cs 3 (so s) (x.1.2 s) (sc s),fun s=>Cb (x.1.4 s)])) (Hc ba 85 [Cs 0 O x.1.1 C,Cs 1 A x.2 D,Cs 2 H x.4 E])) (aV o)) (decide (((j:Nat):Int)<((x.1.1:Nat):Int)))) [Cs 3 (so j) (x.1.2 j) (sc j),Cb (x.1.4 j)]) (Hr false A 0 1 x.2 0 [fun n=>Ci (x.3 n)])) (Hr false H 0 1 x.4 0 [fun m=>Ci (x.5 m)])) (Ho false d)) (Hc bg 68 [Ci G,Ci B,Ci R,Ci K])) (iV (((j:Nat):Int)+(1:Int)))) (symRows false 0 x.1 so (fun d=>0))) (sV 3 (so j) (x.1.2 j) (sc j))) (iV ((x.1.1:Nat):Int))) (sV 0 O x.1.1 C)):=by kernel_rfl
theorem akI_ok (x:AD)(O A H:Option Addr)(C D E:Nat)(so:Nat→Option Addr)(sc:Nat→Nat)(G B R K:Int)(bg ba:Nat)(hl:lenA x)(X:Cx):LoopOK Tryz.prog X (theLoop Tryz.f64 0) (sakI x O A H C D E so sc G B R K bg ba):=by
 intro ts ch k a w hS hT hd hs
 obtain ⟨⟨h1,hch⟩,hk,hr⟩:=hS
 refine loop_ok mixed (E:={ tb:=[(136,sSym)] }) ⟨sSym_I,trivial⟩ (loopsOK_nil _ _ _) 400 x.c.n (fun j ts ch=>∃ g,allB j (akIP x O A H C D E so sc G B R K bg ba)=true∧ts=akIH x O A H C D E so sc G B R K bg ba (.int (j:Int)) g∧ch=akIT x O A H C D E so sc G B R K bg ba) ?_ ?_ hT hd hs
 ·rintro j _ _ ⟨g,hall,rfl,rfl⟩ hj
  refine (@Eq.mpr _ _ (akIB x O A H C D E so sc G B R K bg ba j g _ _) ?_)
  dsimp -zeta -proj -iota -eta -failIfUnchanged (etaStruct:=.none) only
  by_cases hlt:j<x.c.n
  ·have hn:=hl.1
   have hjn:(0:Int)≤(j:Int)∧(j:Int)<(x.c.n:Int):=⟨by omega,by omega⟩
   have hsj:=hl.2.2.2 j hlt
   cases hp:akIP x O A H C D E so sc G B R K bg ba j
   all_goals simp only [akIP] at hp
   all_goals
    repeat' (first
     | with_reducible exact rfl
     | exact True.intro
     | with_reducible assumption
     | (refine ⟨hlt,?_⟩;show Next _ _ _ _;refine Next.mk (fun g=>akIH x O A H C D E so sc G B R K bg ba (.int ((j+1:Nat):Int)) g) _ ⟨_,allB_succ hall (by simp only [akIP];exact hp),rfl,rfl⟩ rfl fun w hw=>hw.sel [0,1,2,3,4,5] (by simp))
     | (refine Next.mk (fun g=>akIR x O A H C D E so sc G B R K bg ba g) _ (hr _ (allB_no hlt (by simp only [akIP];exact hp))) rfl fun w hw=>hw.sel [0,1,2,3,4,5] (by simp))
     | refine And.intro ?_ ?_
     | (intro h;exfalso;simp at h;omega)
     | (intro h;exfalso;simp [h] at hp;done)
     | (refine ⟨_,_,_,_,_,⟨rfl,rfl,rfl,?_⟩,?_⟩)
     | (intro h;exfalso;rw [hp] at h;simp at h;done)
     | intro _
     | omega)
    all_goals (exfalso;simp_all;done)
  ·have hjn:x.c.n=j:=by omega
   subst hjn
   repeat' (first
    | with_reducible exact rfl
    | exact True.intro
    | (refine Next.mk (fun g=>akIH x O A H C D E so sc G B R K bg ba (.int (x.c.n:Int)) g) _ (hk _ hall) rfl fun w hw=>hw.sel [0,1,2,3,4,5] (by simp))
    | refine And.intro ?_ ?_
    | (intro h;exfalso;simp at h;done)
    | (intro h;exfalso;simp at h;omega)
    | intro _)
 ·refine Next.mk (fun g=>akIH x O A H C D E so sc G B R K bg ba (.int ((0:Nat):Int)) g) _ ⟨_,allB_zero _,rfl,rfl⟩ h1 fun w hw=>?_
  rw [← hch]
  exact hw.sel [0,1,2,3,4,5] (by simp)
def alIH (x:AD)(O A H:Option Addr)(C D E:Nat)(so:Nat→Option Addr)(sc:Nat→Nat)(G B R K:Int)(bg ba:Nat)(i:SC)(g:Nat→Value):List SV:=[.a (.c (.val (g 0))),.a (.c (.val (g 1))),.a (.c (.ptr 4 bg 0)),.a (.c (.ptr 5 ba 0)),.a (.c (.val (g 4))),.a (.c (.val (g 5))),.a (.c (.val (g 6))),.a (.c (.val (g 7))),.a (.c (.val (g 8))),.a (.c (.val (g 9))),.a (.c (.val (g 10))),.a (.c (.val (g 11))),.a (.c (.val (g 12))),.a (.c (.val (g 13))),.a (.c (.val (g 14))),.a (.c (.val (g 15))),.a (.c (.val (g 16))),.a (.c (.val (g 17))),.a (.c (.val (g 18))),.a (.c (.val (g 19))),.a (.c (.val (g 20))),.a (.c (.val (g 21))),.a (.c (.val (g 22))),.a (.c (.val (g 23))),.a (.c (.val (g 24))),.a (.c (.val (g 25))),.a (.c (.val (g 26))),.a (.c (.val (g 27))),.a (.c (.val (g 28))),.a (.c (.val (g 29))),.a (.c (.val (g 30))),.a (.c (.val (g 31))),.a (.c (.val (g 32))),.a (.c (.val (g 33))),.a (.c (.val (g 34))),.a (.c (.val (g 35))),.a (.c (.val (g 36))),.a (.c (.val (g 37))),.a (.c (.val (g 38))),.a (.c (.val (g 39))),.a (.c (.val (g 40))),.a (.c (.val (g 41))),.a (.c (.val (g 42))),.a (.c (.val (g 43))),.a (.c (.val (g 44))),.a (.c (.val (g 45))),.a (.c (.val (g 46))),.a (.c (.val (g 47))),.a (.c (.val (g 48))),.a (.c (.val (g 49))),.a (.c (.val (g 50))),.a (.c (.val (g 51))),.a (.c (.sl 1 A x.aN D)),.a (.c (.int (x.aN:Int))),.a (.c i),.a (.c (.val (g 55))),.a (.c (.val (g 56))),.a (.c (.val (g 57))),.a (.c (.val (g 58))),.a (.c (.val (g 59))),.a (.c (.val (g 60))),.a (.c (.val (g 61))),.a (.c (.val (g 62))),.a (.c (.val (g 63))),.a (.c (.val (g 64))),.a (.c (.val (g 65))),.a (.c (.val (g 66))),.a (.c (.val (g 67))),.a (.c (.val (g 68))),.a (.c (.val (g 69))),.a (.c (.val (g 70))),.a (.c (.val (g 71))),.a (.c (.val (g 72))),.a (.c (.val (g 73)))]
def alIR (x:AD)(O A H:Option Addr)(C D E:Nat)(so:Nat→Option Addr)(sc:Nat→Nat)(G B R K:Int)(bg ba:Nat)(g:Nat→Value):List SV:=[.a (.c (.val (g 0))),.a (.c (.val (g 1))),.a (.c (.val (g 2))),.a (.c (.val (g 3))),.a (.c (.lit false)),.a (.c (.val (g 5))),.a (.c (.val (g 6))),.a (.c (.val (g 7))),.a (.c (.val (g 8))),.a (.c (.val (g 9))),.a (.c (.val (g 10))),.a (.c (.val (g 11))),.a (.c (.val (g 12))),.a (.c (.val (g 13))),.a (.c (.val (g 14))),.a (.c (.val (g 15))),.a (.c (.val (g 16))),.a (.c (.val (g 17))),.a (.c (.val (g 18))),.a (.c (.val (g 19))),.a (.c (.val (g 20))),.a (.c (.val (g 21))),.a (.c (.val (g 22))),.a (.c (.val (g 23))),.a (.c (.val (g 24))),.a (.c (.val (g 25))),.a (.c (.val (g 26))),.a (.c (.val (g 27))),.a (.c (.val (g 28))),.a (.c (.val (g 29))),.a (.c (.val (g 30))),.a (.c (.val (g 31))),.a (.c (.val (g 32))),.a (.c (.val (g 33))),.a (.c (.val (g 34))),.a (.c (.val (g 35))),.a (.c (.val (g 36))),.a (.c (.val (g 37))),.a (.c (.val (g 38))),.a (.c (.val (g 39))),.a (.c (.val (g 40))),.a (.c (.val (g 41))),.a (.c (.val (g 42))),.a (.c (.val (g 43))),.a (.c (.val (g 44))),.a (.c (.val (g 45))),.a (.c (.val (g 46))),.a (.c (.val (g 47))),.a (.c (.val (g 48))),.a (.c (.val (g 49))),.a (.c (.val (g 50))),.a (.c (.val (g 51))),.a (.c (.val (g 52))),.a (.c (.val (g 53))),.a (.c (.val (g 54))),.a (.c (.val (g 55))),.a (.c (.val (g 56))),.a (.c (.val (g 57))),.a (.c (.val (g 58))),.a (.c (.val (g 59))),.a (.c (.val (g 60))),.a (.c (.val (g 61))),.a (.c (.val (g 62))),.a (.c (.val (g 63))),.a (.c (.val (g 64))),.a (.c (.val (g 65))),.a (.c (.val (g 66))),.a (.c (.val (g 67))),.a (.c (.val (g 68))),.a (.c (.val (g 69))),.a (.c (.val (g 70))),.a (.c (.val (g 71))),.a (.c (.val (g 72))),.a (.c (.val (g 73)))]
def alIT (x:AD)(O A H:Option Addr)(C D E:Nat)(so:Nat→Option Addr)(sc:Nat→Nat)(G B R K:Int)(bg ba:Nat):List Ch:=[.row ⟨false,O,0,2,x.c.n,0,cellFld 3 x.c so sc⟩,.row ⟨false,A,0,1,x.aN,0,[fun i=>.int (x.ag i)]⟩,.row ⟨false,H,0,1,x.hN,0,[fun i=>.int (x.hg i)]⟩,.obj false (symRows false 0 x.c so (fun _=>0)),.cells bg 68 [.int G,.int B,.int R,.int K],.cells ba 85 [.sl 0 O x.c.n C,.sl 1 A x.aN D,.sl 2 H x.hN E]]
def alIP (x:AD)(O A H:Option Addr)(C D E:Nat)(so:Nat→Option Addr)(sc:Nat→Nat)(G B R K:Int)(bg ba:Nat)(j:Nat):Bool:=btw (x.ag j) 0 100000&&btw (x.hg j) 0 100000
def salI (x:AD)(O A H:Option Addr)(C D E:Nat)(so:Nat→Option Addr)(sc:Nat→Nat)(G B R K:Int)(bg ba:Nat):LSm:=fun ts ch k =>
 (ts.map SV.den=(alIH x O A H C D E so sc G B R K bg ba (.il 0) (fun d=>(ts.getD d .undef).den)).map SV.den∧selC ch [0,1,2,3,4,5]=alIT x O A H C D E so sc G B R K bg ba) ∧
  (∀ g,allB x.aN (alIP x O A H C D E so sc G B R K bg ba)=true→k (.exit 2) (alIH x O A H C D E so sc G B R K bg ba (.int (x.aN:Int)) g) (alIT x O A H C D E so sc G B R K bg ba))∧(∀ g,allB x.aN (alIP x O A H C D E so sc G B R K bg ba)=false→k .ret (alIR x O A H C D E so sc G B R K bg ba g) (alIT x O A H C D E so sc G B R K bg ba))
theorem alIB (x:AD)(O A H:Option Addr)(C D E:Nat)(so:Nat→Option Addr)(sc:Nat→Nat)(G B R K:Int)(bg ba:Nat)(j:Nat)(g:Nat→Value)(NX:List SV→List Ch→Prop)(kx:Exit→List SV→List Ch→Prop):(exCode Tryz.prog { tb:=[(61,sBtw)] } 400 (theLoop Tryz.f64 1) (alIH x O A H C D E so sc G B R K bg ba (.int (j:Int)) g) (alIT x O A H C D E so sc G B R K bg ba) (loopK NX kx))=(
 (fun a:SV=>(fun b:SV=>(fun c:SV=>(fun d:SV=>(fun h:SV=>(fun k:SV=>(fun l:SV=>(fun m:SV=>(fun n:SV=>(fun o:SV=>(fun p:SV=>(fun q:SV=>(fun r:SV=>(fun s:SV=>(fun t:SV=>(fun u:SV=>(fun v:SV=>(fun w:SV=>(fun y:SV=>(fun z:SV=>(fun F:SV=>(fun I:SV=>(fun J:SV=>(fun L:SV=>(fun M:SV=>(fun N:SV=>(fun P:SV=>(fun Q:SV=>(fun S:SV=>(fun T:SV=>(fun U:SV=>(fun V:SV=>(fun W:SV=>(fun X:SV=>(fun Y:SV=>(fun Z:SV=>(fun aa:SV=>(fun ab:SV=>(fun ac:SV=>(fun ad:SV=>(fun af:SV=>(fun ag:SV=>(fun ah:SV=>(fun aj:SV=>(fun ak:SV=>(fun al:SV=>(fun am:SV=>(fun an:SV=>(fun ao:Bool=>(fun ap:Bool=>(fun aq:Bool=>(fun ar:Bool=>(fun au:SV=>(fun av:SV=>(fun aw:SV=>(fun ax:SV=>(fun ay:Bool=>(fun az:List Ch=>(ay=true→ba=ba∧A=A∧x.2=x.2∧(0≤((j:Nat):Int)∧((j:Nat):Int)<((x.2:Nat):Int))∧A=A∧j<x.2∧(ar=false→ba=ba∧H=H∧x.4=x.4∧(0≤((j:Nat):Int)∧((j:Nat):Int)<((x.4:Nat):Int))∧H=H∧j<x.4∧(aq=true→kx Exit.ret [vV (g 0),vV (g 1),aj,ah,fV,vV (g 5),vV (g 6),vV (g 7),al,vV (g 9),ag,af,ad,ac,ab,aa,Z,Y,X,W,V,U,T,S,Q,P,N,M,L,J,I,F,z,y,w,v,u,t,s,r,q,p,o,n,m,l,k,h,d,c,b,a,ak,am,al,tV,al,pV 5 ba 1,ak,al,rV 1 A 1 j 0,iV (x.3 j),av,ax,fV,pV 5 ba 2,sV 2 H x.4 E,al,rV 2 H 1 j 0,iV (x.5 j),au,aw,tV,vV (g 73)] az)∧(aq=false→rng (((j:Nat):Int)+(1:Int))∧NX [vV (g 0),vV (g 1),aj,ah,vV (g 4),vV (g 5),vV (g 6),vV (g 7),al,vV (g 9),ag,af,ad,ac,ab,aa,Z,Y,X,W,V,U,T,S,Q,P,N,M,L,J,I,F,z,y,w,v,u,t,s,r,q,p,o,n,m,l,k,h,d,c,b,a,ak,am,an,tV,al,pV 5 ba 1,ak,al,rV 1 A 1 j 0,iV (x.3 j),av,ax,fV,pV 5 ba 2,sV 2 H x.4 E,al,rV 2 H 1 j 0,iV (x.5 j),au,aw,fV,an] az))∧(ar=true→kx Exit.ret [vV (g 0),vV (g 1),aj,ah,fV,vV (g 5),vV (g 6),vV (g 7),al,vV (g 9),ag,af,ad,ac,ab,aa,Z,Y,X,W,V,U,T,S,Q,P,N,M,L,J,I,F,z,y,w,v,u,t,s,r,q,p,o,n,m,l,k,h,d,c,b,a,ak,am,al,tV,al,pV 5 ba 1,ak,al,rV 1 A 1 j 0,iV (x.3 j),av,ax,tV,xV,xV,xV,xV,xV,xV,xV,tV,vV (g 73)] az))∧(ay=false→kx (Exit.exit 2) [vV (g 0),vV (g 1),aj,ah,vV (g 4),vV (g 5),vV (g 6),vV (g 7),vV (g 8),vV (g 9),ag,af,ad,ac,ab,aa,Z,Y,X,W,V,U,T,S,Q,P,N,M,L,J,I,F,z,y,w,v,u,t,s,r,q,p,o,n,m,l,k,h,d,c,b,a,ak,am,al,fV,vV (g 56),vV (g 57),vV (g 58),vV (g 59),vV (g 60),vV (g 61),vV (g 62),vV (g 63),vV (g 64),vV (g 65),vV (g 66),vV (g 67),vV (g 68),vV (g 69),vV (g 70),vV (g 71),vV (g 72),vV (g 73)] az)) [Hr false O 0 2 x.1.1 0 [fun az=>Cs 3 (so az) (x.1.2 az) (sc az),fun az=>Cb (x.1.4 az)],Hr false A 0 1 x.2 0 [fun az=>Ci (x.3 az)],Hr false H 0 1 x.4 0 [fun az=>Ci (x.5 az)],Ho false (symRows false 0 x.1 so (fun az=>0)),Hc bg 68 [Ci G,Ci B,Ci R,Ci K],Hc ba 85 [Cs 0 O x.1.1 C,Cs 1 A x.2 D,Cs 2 H x.4 E]]) (decide (((j:Nat):Int)<((x.2:Nat):Int)))) (bV ar)) (bV aq)) (bV ap)) (bV ao)) (! ap)) (! ao)) (btw (x.3 j) (0:Int) (100000:Int))) (btw (x.5 j) (0:Int) (100000:Int))) (iV (((j:Nat):Int)+(1:Int)))) (iV ((x.2:Nat):Int))) (iV ((j:Nat):Int))) (sV 1 A x.2 D)) (pV 4 bg 0)) (pV 5 ba 0)) (vV (g 10))) (vV (g 11))) (vV (g 12))) (vV (g 13))) (vV (g 14))) (vV (g 15))) (vV (g 16))) (vV (g 17))) (vV (g 18))) (vV (g 19))) (vV (g 20))) (vV (g 21))) (vV (g 22))) (vV (g 23))) (vV (g 24))) (vV (g 25))) (vV (g 26))) (vV (g 27))) (vV (g 28))) (vV (g 29))) (vV (g 30))) (vV (g 31))) (vV (g 32))) (vV (g 33))) (vV (g 34))) (vV (g 35))) (vV (g 36))) (vV (g 37))) (vV (g 38))) (vV (g 39))) (vV (g 40))) (vV (g 41))) (vV (g 42))) (vV (g 43))) (vV (g 44))) (vV (g 45))) (vV (g 46))) (vV (g 47))) (vV (g 48))) (vV (g 49))) (vV (g 50))) (vV (g 51))):=by kernel_rfl
theorem alI_ok (x:AD)(O A H:Option Addr)(C D E:Nat)(so:Nat→Option Addr)(sc:Nat→Nat)(G B R K:Int)(bg ba:Nat)(hl:lenA x)(hh:x.hN=x.aN)(X:Cx):LoopOK Tryz.prog X (theLoop Tryz.f64 1) (salI x O A H C D E so sc G B R K bg ba):=by
 intro ts ch k a w hS hT hd hs
 obtain ⟨⟨h1,hch⟩,hk,hr⟩:=hS
 refine loop_ok mixed (E:={ tb:=[(61,sBtw)] }) ⟨sBtwI_ok,trivial⟩ (loopsOK_nil _ _ _) 400 x.aN (fun j ts ch=>∃ g,allB j (alIP x O A H C D E so sc G B R K bg ba)=true∧ts=alIH x O A H C D E so sc G B R K bg ba (.int (j:Int)) g∧ch=alIT x O A H C D E so sc G B R K bg ba) ?_ ?_ hT hd hs
 ·rintro j _ _ ⟨g,hall,rfl,rfl⟩ hj
  refine (@Eq.mpr _ _ (alIB x O A H C D E so sc G B R K bg ba j g _ _) ?_)
  dsimp -zeta -proj -iota -eta -failIfUnchanged (etaStruct:=.none) only
  by_cases hlt:j<x.aN
  ·have hn:=hl.2.1
   have hjn:(0:Int)≤(j:Int)∧(j:Int)<(x.aN:Int):=⟨by omega,by omega⟩
   have hjh:j<x.hN:=by omega
   have hjh2:(0:Int)≤(j:Int)∧(j:Int)<(x.hN:Int):=⟨by omega,by omega⟩
   cases hp1:btw (x.ag j) 0 100000 <;> cases hp2:btw (x.hg j) 0 100000
   all_goals
   cases hp:alIP x O A H C D E so sc G B R K bg ba j
   all_goals simp only [alIP] at hp
   all_goals
    repeat' (first
     | with_reducible exact rfl
     | exact True.intro
     | with_reducible assumption
     | (refine ⟨hlt,?_⟩;show Next _ _ _ _;refine Next.mk (fun g=>alIH x O A H C D E so sc G B R K bg ba (.int ((j+1:Nat):Int)) g) _ ⟨_,allB_succ hall (by simp only [alIP];exact hp),rfl,rfl⟩ rfl fun w hw=>hw.sel [0,1,2,3,4,5] (by simp))
     | (refine Next.mk (fun g=>alIR x O A H C D E so sc G B R K bg ba g) _ (hr _ (allB_no hlt (by simp only [alIP];exact hp))) rfl fun w hw=>hw.sel [0,1,2,3,4,5] (by simp))
     | refine And.intro ?_ ?_
     | (intro h;exfalso;simp at h;omega)
     | (intro h;exfalso;simp [h] at hp;done)
     | (intro h;exfalso;simp at h;done)
     | intro _
     | omega)
    all_goals (exfalso;simp_all;done)
  ·have hjn:x.aN=j:=by omega
   subst hjn
   repeat' (first
    | with_reducible exact rfl
    | exact True.intro
    | (refine Next.mk (fun g=>alIH x O A H C D E so sc G B R K bg ba (.int (x.aN:Int)) g) _ (hk _ hall) rfl fun w hw=>hw.sel [0,1,2,3,4,5] (by simp))
    | refine And.intro ?_ ?_
    | (intro h;exfalso;simp at h;done)
    | (intro h;exfalso;simp at h;omega)
    | intro _)
 ·refine Next.mk (fun g=>alIH x O A H C D E so sc G B R K bg ba (.int ((0:Nat):Int)) g) _ ⟨_,allB_zero _,rfl,rfl⟩ h1 fun w hw=>?_
  rw [← hch]
  exact hw.sel [0,1,2,3,4,5] (by simp)
def akSH (x:AD)(O A H:Option Addr)(C D E:Nat)(so:Nat→Option Addr)(sc:Nat→Nat)(G B R K:Int)(bg ba:Nat)(i:SC)(g:Nat→Value):List SV:=[.a (.c (.val (g 0))),.a (.c (.val (g 1))),.a (.c (.ptr 4 bg 0)),.a (.c (.ptr 5 ba 0)),.a (.c (.val (g 4))),.a (.c i),.a (.c (.val (g 6))),.a (.c (.val (g 7))),.a (.c (.val (g 8))),.a (.c (.val (g 9))),.a (.c (.val (g 10))),.a (.c (.val (g 11))),.a (.c (.val (g 12))),.a (.c (.val (g 13))),.a (.c (.val (g 14))),.a (.c (.val (g 15))),.a (.c (.val (g 16))),.a (.c (.val (g 17))),.a (.c (.val (g 18))),.a (.c (.val (g 19))),.a (.c (.val (g 20))),.a (.c (.val (g 21))),.a (.c (.val (g 22))),.a (.c (.val (g 23))),.a (.c (.val (g 24))),.a (.c (.val (g 25))),.a (.c (.val (g 26))),.a (.c (.val (g 27))),.a (.c (.val (g 28))),.a (.c (.val (g 29))),.a (.c (.val (g 30))),.a (.c (.val (g 31))),.a (.c (.val (g 32))),.a (.c (.val (g 33))),.a (.c (.val (g 34))),.a (.c (.val (g 35))),.a (.c (.val (g 36))),.a (.c (.val (g 37))),.a (.c (.val (g 38))),.a (.c (.val (g 39))),.a (.c (.val (g 40))),.a (.c (.val (g 41))),.a (.c (.val (g 42))),.a (.c (.val (g 43))),.a (.c (.val (g 44))),.a (.c (.val (g 45))),.a (.c (.val (g 46))),.a (.c (.val (g 47))),.a (.c (.val (g 48))),.a (.c (.val (g 49))),.a (.c (.val (g 50))),.a (.c (.val (g 51))),.a (.c (.val (g 52))),.a (.c (.val (g 53))),.a (.c (.val (g 54))),.a (.c (.val (g 55))),.a (.c (.val (g 56))),.a (.c (.val (g 57))),.a (.c (.val (g 58))),.a (.c (.val (g 59))),.a (.c (.val (g 60))),.a (.c (.val (g 61))),.a (.c (.val (g 62))),.a (.c (.val (g 63))),.a (.c (.val (g 64))),.a (.c (.val (g 65))),.a (.c (.val (g 66))),.a (.c (.val (g 67))),.a (.c (.val (g 68))),.a (.c (.val (g 69))),.a (.c (.val (g 70))),.a (.c (.val (g 71))),.a (.c (.val (g 72))),.a (.c (.val (g 73))),.a (.c (.val (g 74))),.a (.c (.val (g 75)))]
def akSR (x:AD)(O A H:Option Addr)(C D E:Nat)(so:Nat→Option Addr)(sc:Nat→Nat)(G B R K:Int)(bg ba:Nat)(g:Nat→Value):List SV:=[.a (.c (.val (g 0))),.a (.c (.val (g 1))),.a (.c (.val (g 2))),.a (.c (.val (g 3))),.a (.c (.lit false)),.a (.c (.val (g 5))),.a (.c (.val (g 6))),.a (.c (.val (g 7))),.a (.c (.val (g 8))),.a (.c (.val (g 9))),.a (.c (.val (g 10))),.a (.c (.val (g 11))),.a (.c (.val (g 12))),.a (.c (.val (g 13))),.a (.c (.val (g 14))),.a (.c (.val (g 15))),.a (.c (.val (g 16))),.a (.c (.val (g 17))),.a (.c (.val (g 18))),.a (.c (.val (g 19))),.a (.c (.val (g 20))),.a (.c (.val (g 21))),.a (.c (.val (g 22))),.a (.c (.val (g 23))),.a (.c (.val (g 24))),.a (.c (.val (g 25))),.a (.c (.val (g 26))),.a (.c (.val (g 27))),.a (.c (.val (g 28))),.a (.c (.val (g 29))),.a (.c (.val (g 30))),.a (.c (.val (g 31))),.a (.c (.val (g 32))),.a (.c (.val (g 33))),.a (.c (.val (g 34))),.a (.c (.val (g 35))),.a (.c (.val (g 36))),.a (.c (.val (g 37))),.a (.c (.val (g 38))),.a (.c (.val (g 39))),.a (.c (.val (g 40))),.a (.c (.val (g 41))),.a (.c (.val (g 42))),.a (.c (.val (g 43))),.a (.c (.val (g 44))),.a (.c (.val (g 45))),.a (.c (.val (g 46))),.a (.c (.val (g 47))),.a (.c (.val (g 48))),.a (.c (.val (g 49))),.a (.c (.val (g 50))),.a (.c (.val (g 51))),.a (.c (.val (g 52))),.a (.c (.val (g 53))),.a (.c (.val (g 54))),.a (.c (.val (g 55))),.a (.c (.val (g 56))),.a (.c (.val (g 57))),.a (.c (.val (g 58))),.a (.c (.val (g 59))),.a (.c (.val (g 60))),.a (.c (.val (g 61))),.a (.c (.val (g 62))),.a (.c (.val (g 63))),.a (.c (.val (g 64))),.a (.c (.val (g 65))),.a (.c (.val (g 66))),.a (.c (.val (g 67))),.a (.c (.val (g 68))),.a (.c (.val (g 69))),.a (.c (.val (g 70))),.a (.c (.val (g 71))),.a (.c (.val (g 72))),.a (.c (.val (g 73))),.a (.c (.val (g 74))),.a (.c (.val (g 75)))]
def akST (x:AD)(O A H:Option Addr)(C D E:Nat)(so:Nat→Option Addr)(sc:Nat→Nat)(G B R K:Int)(bg ba:Nat):List Ch:=[.row ⟨false,O,0,2,x.c.n,0,cellFld 3 x.c so sc⟩,.row ⟨false,A,0,1,x.aN,0,[fun i=>.int (x.ag i)]⟩,.row ⟨false,H,0,1,x.hN,0,[fun i=>.int (x.hg i)]⟩,.obj false (symRows false 0 x.c so (fun _=>0)),.cells bg 68 [.int G,.int B,.int R,.int K],.cells ba 85 [.sl 0 O x.c.n C,.sl 1 A x.aN D,.sl 2 H x.hN E]]
def akSP (x:AD)(O A H:Option Addr)(C D E:Nat)(so:Nat→Option Addr)(sc:Nat→Nat)(G B R K:Int)(bg ba:Nat)(j:Nat):Bool:=symB (x.c.sn j) (x.c.sy j) 11
def sakS (x:AD)(O A H:Option Addr)(C D E:Nat)(so:Nat→Option Addr)(sc:Nat→Nat)(G B R K:Int)(bg ba:Nat):LSm:=fun ts ch k =>
 (ts.map SV.den=(akSH x O A H C D E so sc G B R K bg ba (.il 0) (fun d=>(ts.getD d .undef).den)).map SV.den∧selC ch [0,1,2,3,4,5]=akST x O A H C D E so sc G B R K bg ba) ∧
  (∀ g,allB x.c.n (akSP x O A H C D E so sc G B R K bg ba)=true→k (.exit 0) (akSH x O A H C D E so sc G B R K bg ba (.int (x.c.n:Int)) g) (akST x O A H C D E so sc G B R K bg ba))∧(∀ g,allB x.c.n (akSP x O A H C D E so sc G B R K bg ba)=false→k .ret (akSR x O A H C D E so sc G B R K bg ba g) (akST x O A H C D E so sc G B R K bg ba))
theorem akSB (x:AD)(O A H:Option Addr)(C D E:Nat)(so:Nat→Option Addr)(sc:Nat→Nat)(G B R K:Int)(bg ba:Nat)(j:Nat)(g:Nat→Value)(NX:List SV→List Ch→Prop)(kx:Exit→List SV→List Ch→Prop):(exCode Tryz.prog { tb:=[(104,sSym)] } 400 (theLoop Tryz.f31 0) (akSH x O A H C D E so sc G B R K bg ba (.int (j:Int)) g) (akST x O A H C D E so sc G B R K bg ba) (loopK NX kx))=(
 (fun a:SV=>(fun b:SV=>(fun c:SV=>(fun d:SV=>(fun h:SV=>(fun k:SV=>(fun l:List Row=>(fun m:SV=>(fun n:Bool=>(fun o:List Ch=>ba=ba∧(n=true→ba=ba∧O=O∧x.1.1=x.1.1∧(0≤((j:Nat):Int)∧((j:Nat):Int)<((x.1.1:Nat):Int))∧O=O∧j<x.1.1∧O=O∧j<x.1.1∧∃(p:Nat) (q:CD) (r:Nat→Option Addr) (s:Nat→Nat) (t:Nat),(fun u:Bool=>(fun v:Bool=>(fun w:SV=>(l=(symRows false p q r s)∧(so j)=(r t)∧(x.1.2 j)=(q.2 t)∧t<q.1)∧lenC (x.1.2 j)∧(v=true→kx Exit.ret [vV (g 0),vV (g 1),pV 4 bg 0,a,fV,d,vV (g 6),vV (g 7),vV (g 8),vV (g 9),vV (g 10),vV (g 11),vV (g 12),vV (g 13),vV (g 14),vV (g 15),vV (g 16),vV (g 17),vV (g 18),vV (g 19),vV (g 20),vV (g 21),vV (g 22),vV (g 23),vV (g 24),vV (g 25),vV (g 26),vV (g 27),vV (g 28),vV (g 29),vV (g 30),vV (g 31),vV (g 32),vV (g 33),vV (g 34),vV (g 35),vV (g 36),vV (g 37),d,a,c,h,tV,vV (g 43),vV (g 44),a,c,d,b,b,k,w,tV,vV (g 53),vV (g 54),vV (g 55),vV (g 56),vV (g 57),vV (g 58),vV (g 59),vV (g 60),vV (g 61),vV (g 62),vV (g 63),vV (g 64),vV (g 65),vV (g 66),vV (g 67),vV (g 68),vV (g 69),vV (g 70),vV (g 71),vV (g 72),vV (g 73),vV (g 74),vV (g 75)] o)∧(v=false→rng (((j:Nat):Int)+(1:Int))∧NX [vV (g 0),vV (g 1),pV 4 bg 0,a,vV (g 4),m,vV (g 6),vV (g 7),vV (g 8),vV (g 9),vV (g 10),vV (g 11),vV (g 12),vV (g 13),vV (g 14),vV (g 15),vV (g 16),vV (g 17),vV (g 18),vV (g 19),vV (g 20),vV (g 21),vV (g 22),vV (g 23),vV (g 24),vV (g 25),vV (g 26),vV (g 27),vV (g 28),vV (g 29),vV (g 30),vV (g 31),vV (g 32),vV (g 33),vV (g 34),vV (g 35),vV (g 36),vV (g 37),d,a,c,h,tV,d,m,a,c,d,b,b,k,w,fV,vV (g 53),vV (g 54),vV (g 55),vV (g 56),vV (g 57),vV (g 58),vV (g 59),vV (g 60),vV (g 61),vV (g 62),vV (g 63),vV (g 64),vV (g 65),vV (g 66),vV (g 67),vV (g 68),vV (g 69),vV (g 70),vV (g 71),vV (g 72),vV (g 73),vV (g 74),vV (g 75)] o)) (bV u)) (! u)) (symB (x.1.2 j) (q.3 t) (11:Int)))∧(n=false→kx (Exit.exit 0) [vV (g 0),vV (g 1),pV 4 bg 0,a,vV (g 4),d,vV (g 6),vV (g 7),vV (g 8),vV (g 9),vV (g 10),vV (g 11),vV (g 12),vV (g 13),vV (g 14),vV (g 15),vV (g 16),vV (g 17),vV (g 18),vV (g 19),vV (g 20),vV (g 21),vV (g 22),vV (g 23),vV (g 24),vV (g 25),vV (g 26),vV (g 27),vV (g 28),vV (g 29),vV (g 30),vV (g 31),vV (g 32),vV (g 33),vV (g 34),vV (g 35),vV (g 36),vV (g 37),d,a,c,h,fV,vV (g 43),vV (g 44),vV (g 45),vV (g 46),vV (g 47),vV (g 48),vV (g 49),vV (g 50),vV (g 51),vV (g 52),vV (g 53),vV (g 54),vV (g 55),vV (g 56),vV (g 57),vV (g 58),vV (g 59),vV (g 60),vV (g 61),vV (g 62),vV (g 63),vV (g 64),vV (g 65),vV (g 66),vV (g 67),vV (g 68),vV (g 69),vV (g 70),vV (g 71),vV (g 72),vV (g 73),vV (g 74),vV (g 75)] o)) [Hr false O 0 2 x.1.1 0 [fun o=>Cs 3 (so o) (x.1.2 o) (sc o),fun o=>Cb (x.1.4 o)],Hr false A 0 1 x.2 0 [fun o=>Ci (x.3 o)],Hr false H 0 1 x.4 0 [fun o=>Ci (x.5 o)],Ho false l,Hc bg 68 [Ci G,Ci B,Ci R,Ci K],Hc ba 85 [Cs 0 O x.1.1 C,Cs 1 A x.2 D,Cs 2 H x.4 E]]) (decide (((j:Nat):Int)<((x.1.1:Nat):Int)))) (iV (((j:Nat):Int)+(1:Int)))) (symRows false 0 x.1 so (fun l=>0))) (sV 3 (so j) (x.1.2 j) (sc j))) (iV ((x.1.1:Nat):Int))) (iV ((j:Nat):Int))) (sV 0 O x.1.1 C)) (rV 0 O 2 j 0)) (pV 5 ba 0)):=by kernel_rfl
theorem akS_ok (x:AD)(O A H:Option Addr)(C D E:Nat)(so:Nat→Option Addr)(sc:Nat→Nat)(G B R K:Int)(bg ba:Nat)(hl:lenA x)(X:Cx):LoopOK Tryz.prog X (theLoop Tryz.f31 0) (sakS x O A H C D E so sc G B R K bg ba):=by
 intro ts ch k a w hS hT hd hs
 obtain ⟨⟨h1,hch⟩,hk,hr⟩:=hS
 refine loop_ok mixed (E:={ tb:=[(104,sSym)] }) ⟨sSym_S,trivial⟩ (loopsOK_nil _ _ _) 400 x.c.n (fun j ts ch=>∃ g,allB j (akSP x O A H C D E so sc G B R K bg ba)=true∧ts=akSH x O A H C D E so sc G B R K bg ba (.int (j:Int)) g∧ch=akST x O A H C D E so sc G B R K bg ba) ?_ ?_ hT hd hs
 ·rintro j _ _ ⟨g,hall,rfl,rfl⟩ hj
  refine (@Eq.mpr _ _ (akSB x O A H C D E so sc G B R K bg ba j g _ _) ?_)
  dsimp -zeta -proj -iota -eta -failIfUnchanged (etaStruct:=.none) only
  by_cases hlt:j<x.c.n
  ·have hn:=hl.1
   have hjn:(0:Int)≤(j:Int)∧(j:Int)<(x.c.n:Int):=⟨by omega,by omega⟩
   have hsj:=hl.2.2.2 j hlt
   cases hp:akSP x O A H C D E so sc G B R K bg ba j
   all_goals simp only [akSP] at hp
   all_goals
    repeat' (first
     | with_reducible exact rfl
     | exact True.intro
     | with_reducible assumption
     | (refine ⟨hlt,?_⟩;show Next _ _ _ _;refine Next.mk (fun g=>akSH x O A H C D E so sc G B R K bg ba (.int ((j+1:Nat):Int)) g) _ ⟨_,allB_succ hall (by simp only [akSP];exact hp),rfl,rfl⟩ rfl fun w hw=>hw.sel [0,1,2,3,4,5] (by simp))
     | (refine Next.mk (fun g=>akSR x O A H C D E so sc G B R K bg ba g) _ (hr _ (allB_no hlt (by simp only [akSP];exact hp))) rfl fun w hw=>hw.sel [0,1,2,3,4,5] (by simp))
     | refine And.intro ?_ ?_
     | (intro h;exfalso;simp at h;omega)
     | (intro h;exfalso;simp [h] at hp;done)
     | (refine ⟨_,_,_,_,_,⟨rfl,rfl,rfl,?_⟩,?_⟩)
     | (intro h;exfalso;rw [hp] at h;simp at h;done)
     | intro _
     | omega)
    all_goals (exfalso;simp_all;done)
  ·have hjn:x.c.n=j:=by omega
   subst hjn
   repeat' (first
    | with_reducible exact rfl
    | exact True.intro
    | (refine Next.mk (fun g=>akSH x O A H C D E so sc G B R K bg ba (.int (x.c.n:Int)) g) _ (hk _ hall) rfl fun w hw=>hw.sel [0,1,2,3,4,5] (by simp))
    | refine And.intro ?_ ?_
    | (intro h;exfalso;simp at h;done)
    | (intro h;exfalso;simp at h;omega)
    | intro _)
 ·refine Next.mk (fun g=>akSH x O A H C D E so sc G B R K bg ba (.int ((0:Nat):Int)) g) _ ⟨_,allB_zero _,rfl,rfl⟩ h1 fun w hw=>?_
  rw [← hch]
  exact hw.sel [0,1,2,3,4,5] (by simp)
def alSH (x:AD)(O A H:Option Addr)(C D E:Nat)(so:Nat→Option Addr)(sc:Nat→Nat)(G B R K:Int)(bg ba:Nat)(i:SC)(g:Nat→Value):List SV:=[.a (.c (.val (g 0))),.a (.c (.val (g 1))),.a (.c (.ptr 4 bg 0)),.a (.c (.ptr 5 ba 0)),.a (.c (.val (g 4))),.a (.c (.val (g 5))),.a (.c i),.a (.c (.val (g 7))),.a (.c (.val (g 8))),.a (.c (.val (g 9))),.a (.c (.val (g 10))),.a (.c (.val (g 11))),.a (.c (.val (g 12))),.a (.c (.val (g 13))),.a (.c (.val (g 14))),.a (.c (.val (g 15))),.a (.c (.val (g 16))),.a (.c (.val (g 17))),.a (.c (.val (g 18))),.a (.c (.val (g 19))),.a (.c (.val (g 20))),.a (.c (.val (g 21))),.a (.c (.val (g 22))),.a (.c (.val (g 23))),.a (.c (.val (g 24))),.a (.c (.val (g 25))),.a (.c (.val (g 26))),.a (.c (.val (g 27))),.a (.c (.val (g 28))),.a (.c (.val (g 29))),.a (.c (.val (g 30))),.a (.c (.val (g 31))),.a (.c (.val (g 32))),.a (.c (.val (g 33))),.a (.c (.val (g 34))),.a (.c (.val (g 35))),.a (.c (.val (g 36))),.a (.c (.val (g 37))),.a (.c (.val (g 38))),.a (.c (.val (g 39))),.a (.c (.val (g 40))),.a (.c (.val (g 41))),.a (.c (.val (g 42))),.a (.c (.val (g 43))),.a (.c (.val (g 44))),.a (.c (.val (g 45))),.a (.c (.val (g 46))),.a (.c (.val (g 47))),.a (.c (.val (g 48))),.a (.c (.val (g 49))),.a (.c (.val (g 50))),.a (.c (.val (g 51))),.a (.c (.val (g 52))),.a (.c (.val (g 53))),.a (.c (.val (g 54))),.a (.c (.val (g 55))),.a (.c (.val (g 56))),.a (.c (.val (g 57))),.a (.c (.val (g 58))),.a (.c (.val (g 59))),.a (.c (.val (g 60))),.a (.c (.val (g 61))),.a (.c (.val (g 62))),.a (.c (.val (g 63))),.a (.c (.val (g 64))),.a (.c (.val (g 65))),.a (.c (.val (g 66))),.a (.c (.val (g 67))),.a (.c (.val (g 68))),.a (.c (.val (g 69))),.a (.c (.val (g 70))),.a (.c (.val (g 71))),.a (.c (.val (g 72))),.a (.c (.val (g 73))),.a (.c (.val (g 74))),.a (.c (.val (g 75)))]
def alSR (x:AD)(O A H:Option Addr)(C D E:Nat)(so:Nat→Option Addr)(sc:Nat→Nat)(G B R K:Int)(bg ba:Nat)(g:Nat→Value):List SV:=[.a (.c (.val (g 0))),.a (.c (.val (g 1))),.a (.c (.val (g 2))),.a (.c (.val (g 3))),.a (.c (.lit false)),.a (.c (.val (g 5))),.a (.c (.val (g 6))),.a (.c (.val (g 7))),.a (.c (.val (g 8))),.a (.c (.val (g 9))),.a (.c (.val (g 10))),.a (.c (.val (g 11))),.a (.c (.val (g 12))),.a (.c (.val (g 13))),.a (.c (.val (g 14))),.a (.c (.val (g 15))),.a (.c (.val (g 16))),.a (.c (.val (g 17))),.a (.c (.val (g 18))),.a (.c (.val (g 19))),.a (.c (.val (g 20))),.a (.c (.val (g 21))),.a (.c (.val (g 22))),.a (.c (.val (g 23))),.a (.c (.val (g 24))),.a (.c (.val (g 25))),.a (.c (.val (g 26))),.a (.c (.val (g 27))),.a (.c (.val (g 28))),.a (.c (.val (g 29))),.a (.c (.val (g 30))),.a (.c (.val (g 31))),.a (.c (.val (g 32))),.a (.c (.val (g 33))),.a (.c (.val (g 34))),.a (.c (.val (g 35))),.a (.c (.val (g 36))),.a (.c (.val (g 37))),.a (.c (.val (g 38))),.a (.c (.val (g 39))),.a (.c (.val (g 40))),.a (.c (.val (g 41))),.a (.c (.val (g 42))),.a (.c (.val (g 43))),.a (.c (.val (g 44))),.a (.c (.val (g 45))),.a (.c (.val (g 46))),.a (.c (.val (g 47))),.a (.c (.val (g 48))),.a (.c (.val (g 49))),.a (.c (.val (g 50))),.a (.c (.val (g 51))),.a (.c (.val (g 52))),.a (.c (.val (g 53))),.a (.c (.val (g 54))),.a (.c (.val (g 55))),.a (.c (.val (g 56))),.a (.c (.val (g 57))),.a (.c (.val (g 58))),.a (.c (.val (g 59))),.a (.c (.val (g 60))),.a (.c (.val (g 61))),.a (.c (.val (g 62))),.a (.c (.val (g 63))),.a (.c (.val (g 64))),.a (.c (.val (g 65))),.a (.c (.val (g 66))),.a (.c (.val (g 67))),.a (.c (.val (g 68))),.a (.c (.val (g 69))),.a (.c (.val (g 70))),.a (.c (.val (g 71))),.a (.c (.val (g 72))),.a (.c (.val (g 73))),.a (.c (.val (g 74))),.a (.c (.val (g 75)))]
def alST (x:AD)(O A H:Option Addr)(C D E:Nat)(so:Nat→Option Addr)(sc:Nat→Nat)(G B R K:Int)(bg ba:Nat):List Ch:=[.row ⟨false,O,0,2,x.c.n,0,cellFld 3 x.c so sc⟩,.row ⟨false,A,0,1,x.aN,0,[fun i=>.int (x.ag i)]⟩,.row ⟨false,H,0,1,x.hN,0,[fun i=>.int (x.hg i)]⟩,.obj false (symRows false 0 x.c so (fun _=>0)),.cells bg 68 [.int G,.int B,.int R,.int K],.cells ba 85 [.sl 0 O x.c.n C,.sl 1 A x.aN D,.sl 2 H x.hN E]]
def alSP (x:AD)(O A H:Option Addr)(C D E:Nat)(so:Nat→Option Addr)(sc:Nat→Nat)(G B R K:Int)(bg ba:Nat)(j:Nat):Bool:=btw (x.ag j) 0 100000&&btw (x.hg j) 0 100000
def salS (x:AD)(O A H:Option Addr)(C D E:Nat)(so:Nat→Option Addr)(sc:Nat→Nat)(G B R K:Int)(bg ba:Nat):LSm:=fun ts ch k =>
 (ts.map SV.den=(alSH x O A H C D E so sc G B R K bg ba (.il 0) (fun d=>(ts.getD d .undef).den)).map SV.den∧selC ch [0,1,2,3,4,5]=alST x O A H C D E so sc G B R K bg ba) ∧
  (∀ g,allB x.aN (alSP x O A H C D E so sc G B R K bg ba)=true→k (.exit 2) (alSH x O A H C D E so sc G B R K bg ba (.int (x.aN:Int)) g) (alST x O A H C D E so sc G B R K bg ba))∧(∀ g,allB x.aN (alSP x O A H C D E so sc G B R K bg ba)=false→k .ret (alSR x O A H C D E so sc G B R K bg ba g) (alST x O A H C D E so sc G B R K bg ba))
theorem alSB (x:AD)(O A H:Option Addr)(C D E:Nat)(so:Nat→Option Addr)(sc:Nat→Nat)(G B R K:Int)(bg ba:Nat)(j:Nat)(g:Nat→Value)(NX:List SV→List Ch→Prop)(kx:Exit→List SV→List Ch→Prop):(exCode Tryz.prog { tb:=[(28,sBtw)] } 400 (theLoop Tryz.f31 1) (alSH x O A H C D E so sc G B R K bg ba (.int (j:Int)) g) (alST x O A H C D E so sc G B R K bg ba) (loopK NX kx))=(
 (fun a:SV=>(fun b:SV=>(fun c:SV=>(fun d:SV=>(fun h:SV=>(fun k:SV=>(fun l:SV=>(fun m:SV=>(fun n:SV=>(fun o:SV=>(fun p:SV=>(fun q:SV=>(fun r:SV=>(fun s:SV=>(fun t:SV=>(fun u:SV=>(fun v:SV=>(fun w:SV=>(fun y:SV=>(fun z:SV=>(fun F:SV=>(fun I:SV=>(fun J:SV=>(fun L:SV=>(fun M:SV=>(fun N:SV=>(fun P:SV=>(fun Q:SV=>(fun S:SV=>(fun T:SV=>(fun U:SV=>(fun V:SV=>(fun W:SV=>(fun X:SV=>(fun Y:SV=>(fun Z:SV=>(fun aa:SV=>(fun ab:SV=>(fun ac:SV=>(fun ad:SV=>(fun af:SV=>(fun ag:SV=>(fun ah:SV=>(fun aj:SV=>(fun ak:SV=>(fun al:SV=>(fun am:SV=>(fun an:SV=>(fun ao:SV=>(fun ap:SV=>(fun aq:Bool=>(fun ar:Bool=>(fun au:Bool=>(fun av:Bool=>(fun aw:SV=>(fun ax:SV=>(fun ay:SV=>(fun az:SV=>(fun aA:Bool=>(fun aB:List Ch=>ba=ba∧(aA=true→ba=ba∧A=A∧x.2=x.2∧(0≤((j:Nat):Int)∧((j:Nat):Int)<((x.2:Nat):Int))∧A=A∧j<x.2∧(av=false→ba=ba∧H=H∧x.4=x.4∧(0≤((j:Nat):Int)∧((j:Nat):Int)<((x.4:Nat):Int))∧H=H∧j<x.4∧(au=true→kx Exit.ret [vV (g 0),vV (g 1),al,ak,fV,vV (g 5),an,vV (g 7),vV (g 8),vV (g 9),aj,ah,ag,af,ad,ac,ab,aa,Z,Y,X,W,V,U,T,S,Q,P,N,M,L,J,I,F,z,y,w,v,u,t,s,r,q,p,o,n,m,l,k,h,d,c,b,an,a,am,ao,tV,vV (g 58),vV (g 59),a,am,an,rV 1 A 1 j 0,iV (x.3 j),ax,az,fV,pV 5 ba 2,sV 2 H x.4 E,an,rV 2 H 1 j 0,iV (x.5 j),aw,ay,tV] aB)∧(au=false→rng (((j:Nat):Int)+(1:Int))∧NX [vV (g 0),vV (g 1),al,ak,vV (g 4),vV (g 5),ap,vV (g 7),vV (g 8),vV (g 9),aj,ah,ag,af,ad,ac,ab,aa,Z,Y,X,W,V,U,T,S,Q,P,N,M,L,J,I,F,z,y,w,v,u,t,s,r,q,p,o,n,m,l,k,h,d,c,b,an,a,am,ao,tV,an,ap,a,am,an,rV 1 A 1 j 0,iV (x.3 j),ax,az,fV,pV 5 ba 2,sV 2 H x.4 E,an,rV 2 H 1 j 0,iV (x.5 j),aw,ay,fV] aB))∧(av=true→kx Exit.ret [vV (g 0),vV (g 1),al,ak,fV,vV (g 5),an,vV (g 7),vV (g 8),vV (g 9),aj,ah,ag,af,ad,ac,ab,aa,Z,Y,X,W,V,U,T,S,Q,P,N,M,L,J,I,F,z,y,w,v,u,t,s,r,q,p,o,n,m,l,k,h,d,c,b,an,a,am,ao,tV,vV (g 58),vV (g 59),a,am,an,rV 1 A 1 j 0,iV (x.3 j),ax,az,tV,xV,xV,xV,xV,xV,xV,xV,tV] aB))∧(aA=false→kx (Exit.exit 2) [vV (g 0),vV (g 1),al,ak,vV (g 4),vV (g 5),an,vV (g 7),vV (g 8),vV (g 9),aj,ah,ag,af,ad,ac,ab,aa,Z,Y,X,W,V,U,T,S,Q,P,N,M,L,J,I,F,z,y,w,v,u,t,s,r,q,p,o,n,m,l,k,h,d,c,b,an,a,am,ao,fV,vV (g 58),vV (g 59),vV (g 60),vV (g 61),vV (g 62),vV (g 63),vV (g 64),vV (g 65),vV (g 66),vV (g 67),vV (g 68),vV (g 69),vV (g 70),vV (g 71),vV (g 72),vV (g 73),vV (g 74),vV (g 75)] aB)) [Hr false O 0 2 x.1.1 0 [fun aB=>Cs 3 (so aB) (x.1.2 aB) (sc aB),fun aB=>Cb (x.1.4 aB)],Hr false A 0 1 x.2 0 [fun aB=>Ci (x.3 aB)],Hr false H 0 1 x.4 0 [fun aB=>Ci (x.5 aB)],Ho false (symRows false 0 x.1 so (fun aB=>0)),Hc bg 68 [Ci G,Ci B,Ci R,Ci K],Hc ba 85 [Cs 0 O x.1.1 C,Cs 1 A x.2 D,Cs 2 H x.4 E]]) (decide (((j:Nat):Int)<((x.2:Nat):Int)))) (bV av)) (bV au)) (bV ar)) (bV aq)) (! ar)) (! aq)) (btw (x.3 j) (0:Int) (100000:Int))) (btw (x.5 j) (0:Int) (100000:Int))) (iV (((j:Nat):Int)+(1:Int)))) (iV ((x.2:Nat):Int))) (iV ((j:Nat):Int))) (sV 1 A x.2 D)) (pV 4 bg 0)) (pV 5 ba 0)) (vV (g 10))) (vV (g 11))) (vV (g 12))) (vV (g 13))) (vV (g 14))) (vV (g 15))) (vV (g 16))) (vV (g 17))) (vV (g 18))) (vV (g 19))) (vV (g 20))) (vV (g 21))) (vV (g 22))) (vV (g 23))) (vV (g 24))) (vV (g 25))) (vV (g 26))) (vV (g 27))) (vV (g 28))) (vV (g 29))) (vV (g 30))) (vV (g 31))) (vV (g 32))) (vV (g 33))) (vV (g 34))) (vV (g 35))) (vV (g 36))) (vV (g 37))) (vV (g 38))) (vV (g 39))) (vV (g 40))) (vV (g 41))) (vV (g 42))) (vV (g 43))) (vV (g 44))) (vV (g 45))) (vV (g 46))) (vV (g 47))) (vV (g 48))) (vV (g 49))) (vV (g 50))) (vV (g 51))) (vV (g 52))) (pV 5 ba 1)):=by kernel_rfl
theorem alS_ok (x:AD)(O A H:Option Addr)(C D E:Nat)(so:Nat→Option Addr)(sc:Nat→Nat)(G B R K:Int)(bg ba:Nat)(hl:lenA x)(hh:x.hN=x.aN)(X:Cx):LoopOK Tryz.prog X (theLoop Tryz.f31 1) (salS x O A H C D E so sc G B R K bg ba):=by
 intro ts ch k a w hS hT hd hs
 obtain ⟨⟨h1,hch⟩,hk,hr⟩:=hS
 refine loop_ok mixed (E:={ tb:=[(28,sBtw)] }) ⟨sBtwS_ok,trivial⟩ (loopsOK_nil _ _ _) 400 x.aN (fun j ts ch=>∃ g,allB j (alSP x O A H C D E so sc G B R K bg ba)=true∧ts=alSH x O A H C D E so sc G B R K bg ba (.int (j:Int)) g∧ch=alST x O A H C D E so sc G B R K bg ba) ?_ ?_ hT hd hs
 ·rintro j _ _ ⟨g,hall,rfl,rfl⟩ hj
  refine (@Eq.mpr _ _ (alSB x O A H C D E so sc G B R K bg ba j g _ _) ?_)
  dsimp -zeta -proj -iota -eta -failIfUnchanged (etaStruct:=.none) only
  by_cases hlt:j<x.aN
  ·have hn:=hl.2.1
   have hjn:(0:Int)≤(j:Int)∧(j:Int)<(x.aN:Int):=⟨by omega,by omega⟩
   have hjh:j<x.hN:=by omega
   have hjh2:(0:Int)≤(j:Int)∧(j:Int)<(x.hN:Int):=⟨by omega,by omega⟩
   cases hp1:btw (x.ag j) 0 100000 <;> cases hp2:btw (x.hg j) 0 100000
   all_goals
   cases hp:alSP x O A H C D E so sc G B R K bg ba j
   all_goals simp only [alSP] at hp
   all_goals
    repeat' (first
     | with_reducible exact rfl
     | exact True.intro
     | with_reducible assumption
     | (refine ⟨hlt,?_⟩;show Next _ _ _ _;refine Next.mk (fun g=>alSH x O A H C D E so sc G B R K bg ba (.int ((j+1:Nat):Int)) g) _ ⟨_,allB_succ hall (by simp only [alSP];exact hp),rfl,rfl⟩ rfl fun w hw=>hw.sel [0,1,2,3,4,5] (by simp))
     | (refine Next.mk (fun g=>alSR x O A H C D E so sc G B R K bg ba g) _ (hr _ (allB_no hlt (by simp only [alSP];exact hp))) rfl fun w hw=>hw.sel [0,1,2,3,4,5] (by simp))
     | refine And.intro ?_ ?_
     | (intro h;exfalso;simp at h;omega)
     | (intro h;exfalso;simp [h] at hp;done)
     | (intro h;exfalso;simp at h;done)
     | intro _
     | omega)
    all_goals (exfalso;simp_all;done)
  ·have hjn:x.aN=j:=by omega
   subst hjn
   repeat' (first
    | with_reducible exact rfl
    | exact True.intro
    | (refine Next.mk (fun g=>alSH x O A H C D E so sc G B R K bg ba (.int (x.aN:Int)) g) _ (hk _ hall) rfl fun w hw=>hw.sel [0,1,2,3,4,5] (by simp))
    | refine And.intro ?_ ?_
    | (intro h;exfalso;simp at h;done)
    | (intro h;exfalso;simp at h;omega)
    | intro _)
 ·refine Next.mk (fun g=>alSH x O A H C D E so sc G B R K bg ba (.int ((0:Nat):Int)) g) _ ⟨_,allB_zero _,rfl,rfl⟩ h1 fun w hw=>?_
  rw [← hch]
  exact hw.sel [0,1,2,3,4,5] (by simp)
def sakkI (x:AD)(O A H:Option Addr)(C D E:Nat)(so:Nat→Option Addr)(sc:Nat→Nat)(G B R K:Int):LSm:=fun ts ch kk=>lenA x∧∃ bg ba,sakI x O A H C D E so sc G B R K bg ba ts ch kk
def sallI (x:AD)(O A H:Option Addr)(C D E:Nat)(so:Nat→Option Addr)(sc:Nat→Nat)(G B R K:Int):LSm:=fun ts ch kk=>(lenA x∧x.hN=x.aN)∧∃ bg ba,salI x O A H C D E so sc G B R K bg ba ts ch kk
theorem akkI_ok (x:AD)(O A H:Option Addr)(C D E:Nat)(so:Nat→Option Addr)(sc:Nat→Nat)(G B R K:Int)(X:Cx):LoopOK Tryz.prog X (theLoop Tryz.f64 0) (sakkI x O A H C D E so sc G B R K):=by
 rintro ts ch kk a w ⟨h1,bg,ba,hS⟩ hT hd hs
 exact akI_ok x O A H C D E so sc G B R K bg ba h1 X ts ch kk a w hS hT hd hs
theorem allI_ok (x:AD)(O A H:Option Addr)(C D E:Nat)(so:Nat→Option Addr)(sc:Nat→Nat)(G B R K:Int)(X:Cx):LoopOK Tryz.prog X (theLoop Tryz.f64 1) (sallI x O A H C D E so sc G B R K):=by
 rintro ts ch kk a w ⟨⟨h1,h2⟩,bg,ba,hS⟩ hT hd hs
 exact alI_ok x O A H C D E so sc G B R K bg ba h1 h2 X ts ch kk a w hS hT hd hs
theorem arrokI_T (x:AD)(O A H:Option Addr)(C D E:Nat)(so:Nat→Option Addr)(sc:Nat→Nat)(G B R K:Int):(exFn Tryz.prog { tb:=[(132,sGeo),(133,sBank),(68,sLine)],L:=[(5,sakkI x O A H C D E so sc G B R K),(11,sallI x O A H C D E so sc G B R K)] } 400 Tryz.f64 ([.a (.agg [.int G,.int B,.int R,.int K]),.a (arrS 0 x O A H C D E)]) (arrR 0 x O A H so sc) (fun v _=>v.den=.bool (arrOk G B R K x)))=(
 (fun b:Value=>(fun c:Value=>(fun d:Value=>(fun g:Value=>(fun h:Int=>(fun j:Int=>(fun k:Bool=>(fun l:Value=>(fun m:Value=>(fun n:Value=>(fun o:Value=>(fun p:List SC=>(fun q:Value=>(fun r:Bool=>(fun s:Ch=>(fun t:Bool=>(fun u:Bool=>(fun w:Ch=>(fun y:Ch=>(fun z:Value=>(fun F:Value=>(fun I:List SC=>(fun J:Value=>(fun M:Value=>(fun N:Ch=>∀ P Q:Nat,(fun S:Value=>P=P∧P=P∧True∧rng (j*R)∧P=P∧True∧(k=false→Q=Q∧P=P∧True∧(r=false→Q=Q∧(u=false→Q=Q∧(t=true→c=l)∧(t=false→Q=Q∧lenA x∧∃ T U:Nat,(fun V:Bool=>([q,F,Wp P 0,S,c,o,b,b,b,q,Wi j,Wp P 2,Wi R,o,q,Wb (geoB G B R K),Wb k,c,S,g,n,q,Wi h,z,z,c,Wp Q 1,d,m,o,M,M,c,Wp Q 2,Ws H x.4 E,Wi ((x.4:Nat):Int),o,J,c,S,g,n,Wi 0,b,b,b,b,b,b,b,b,b,b,b,b,b,b,b,b,b,b,b,b,b,b,b,b,b,b,b,b,b,b,b]=[q,F,Wp T 0,Wp U 0,c,o,b,b,b,q,Wi j,Wp P 2,Wi R,o,q,Wb (geoB G B R K),Wb k,c,S,g,n,q,Wi h,z,z,c,Wp Q 1,d,m,o,M,M,c,Wp Q 2,Ws H x.4 E,Wi ((x.4:Nat):Int),o,J,c,S,g,n,Wi 0,b,b,b,b,b,b,b,b,b,b,b,b,b,b,b,b,b,b,b,b,b,b,b,b,b,b,b,b,b,b,b]∧[N,y,w,s,Hc P 68 p,Hc Q 85 I]=[N,y,w,s,Hc T 68 p,Hc U 85 I])∧(∀ W:Nat→Value,V=true→U=U∧(lenA x∧x.4=x.2)∧∃ X Y:Nat,(fun Z:Bool=>([W 0,W 1,Wp T 0,Wp U 0,W 4,W 5,W 6,W 7,W 8,W 9,W 10,W 11,W 12,W 13,W 14,W 15,W 16,W 17,W 18,W 19,W 20,W 21,W 22,W 23,W 24,W 25,W 26,W 27,W 28,W 29,W 30,W 31,W 32,W 33,W 34,W 35,W 36,W 37,W 38,W 39,g,n,n,W 43,W 44,W 45,W 46,W 47,W 48,W 49,W 50,Wp U 1,d,m,Wi 0,W 55,W 56,W 57,W 58,W 59,W 60,W 61,W 62,W 63,W 64,W 65,W 66,W 67,W 68,W 69,W 70,W 71,W 72,W 73]=[W 0,W 1,Wp X 0,Wp Y 0,W 4,W 5,W 6,W 7,W 8,W 9,W 10,W 11,W 12,W 13,W 14,W 15,W 16,W 17,W 18,W 19,W 20,W 21,W 22,W 23,W 24,W 25,W 26,W 27,W 28,W 29,W 30,W 31,W 32,W 33,W 34,W 35,W 36,W 37,W 38,W 39,g,n,n,W 43,W 44,W 45,W 46,W 47,W 48,W 49,W 50,Wp U 1,d,m,Wi 0,W 55,W 56,W 57,W 58,W 59,W 60,W 61,W 62,W 63,W 64,W 65,W 66,W 67,W 68,W 69,W 70,W 71,W 72,W 73]∧[N,y,w,s,Hc T 68 p,Hc U 85 I]=[N,y,w,s,Hc X 68 p,Hc Y 85 I])∧(∀ aa:Nat→Value,Z=true→(Wb true)=l)∧∀ aa:Nat→Value,Z=false→c=l) (allB x.2 (alIP x O A H C D E so sc G B R K X Y)))∧∀ W:Nat→Value,V=false→c=l) (allB x.1.1 (akIP x O A H C D E so sc G B R K T U))))∧(u=true→c=l))∧(r=true→c=l))∧(k=true→c=l)) (Wp Q 0)) (Hr false O 0 2 x.1.1 0 [fun N=>Cs 3 (so N) (x.1.2 N) (sc N),fun N=>Cb (x.1.4 N)])) (Wb u)) (Wb t)) [Cs 0 O x.1.1 C,Cs 1 A x.2 D,Cs 2 H x.4 E]) (Wa [g,d,Ws H x.4 E])) (Wb r)) (Hr false A 0 1 x.2 0 [fun y=>Ci (x.3 y)])) (Hr false H 0 1 x.4 0 [fun w=>Ci (x.5 w)])) (((x.2:Nat):Int) != (j*R))) (((x.4:Nat):Int) != (j*R))) (Ho false (symRows false 0 x.1 so (fun s=>0)))) (((x.1.1:Nat):Int) != h)) (Wa [Wi G,Wi B,Wi R,Wi K])) [Ci G,Ci B,Ci R,Ci K]) (Wi (j*R))) (Wi ((x.1.1:Nat):Int))) (Wi ((x.2:Nat):Int))) (Wb (arrOk G B R K x))) (! (geoB G B R K))) (bankN G B R K)) (lineN G B R K)) (Ws O x.1.1 C)) (Ws A x.2 D)) (Wb false)) (Wu [])):=by kernel_rfl
theorem arrokI_any (x:AD)(O A H:Option Addr)(C D E:Nat)(so:Nat→Option Addr)(sc:Nat→Nat)(G B R K:Int)(w:World)(hA:SeenA w x O A H so sc)(hl:lenA x):Calls Tryz.prog 64 #[.agg #[.int .i64 G,.int .i64 B,.int .i64 R,.int .i64 K],arrV x O A H C D E] w fun e w'=>e=.returned (.bool (arrOk G B R K x))∧Below w.heap.size w w':=by
 refine fn_ok mixed (E:={ tb:=[(132,sGeo),(133,sBank),(68,sLine)],L:=[(5,sakkI x O A H C D E so sc G B R K),(11,sallI x O A H C D E so sc G B R K)] }) ⟨sGeo_I,sBank_I,sLine_I,trivial⟩ Tryz.func64 (two_loops (by kernel_rfl) (by decide) (akkI_ok x O A H C D E so sc G B R K _) (allI_ok x O A H C D E so sc G B R K _)) (@Eq.mpr _ _ (arrokI_T x O A H C D E so sc G B R K) ?_) (HS.seenAll (fun _=>False) _ (hA.all 0 seenC_nil)) (fun v ch' w' hv hs=>⟨by rw [hv],hs.below⟩)
 dsimp -zeta -proj -iota -eta -failIfUnchanged (etaStruct:=.none) only
 clear hA
 have l1:=hl.1
 have l2:=hl.2.1
 have l3:=hl.2.2.1
 have eS:∀ bg ba,allB x.c.n (akIP x O A H C D E so sc G B R K bg ba)=allB x.c.n (fun j=>symB (x.c.sn j) (x.c.sy j) 11):=fun _ _=>rfl
 have eA:∀ bg ba,allB x.aN (alIP x O A H C D E so sc G B R K bg ba)=allB x.aN (fun j=>btw (x.ag j) 0 100000&&btw (x.hg j) 0 100000):=fun _ _=>rfl
 simp only [eS,eA]
 cases hg:geoB G B R K
 ·have hb:=(line_not hg).2
  have hok:arrOk G B R K x=false:=by simp [arrOk,hg]
  have hz:rng (imul (bankN G B R K) R):=by rw [hb];simp [imul,rng]
  repeat' (first
   | with_reducible exact rfl
   | exact True.intro
   | with_reducible assumption
   | (rw [hok];done)
   | refine And.intro ?_ ?_
   | apply Exists.intro
   | exact hl
   | (intro h;exfalso;simp at h;done)
   | (intro h;exfalso;simp [hg] at h;done)
   | (intro h;exfalso;simp [h1] at h;done)
   | (intro h;exfalso;simp [h2] at h;done)
   | (intro h;exfalso;simp [h3] at h;done)
   | (intro h;exfalso;simp [h3'] at h;done)
   | (intro h;exfalso;simp [bne,h1] at h;done)
   | (intro h;exfalso;simp only [bne,h2] at h;simp at h;done)
   | (intro h;exfalso;simp only [bne,h3] at h;simp at h;done)
   | (intro h;exfalso;simp only [bne,h3'] at h;simp at h;done)
   | (intro h;exfalso;rw [h4] at h;cases h;done)
   | (intro h;exfalso;rw [h5] at h;cases h;done)
   | intro _
   | omega
   | exact rfl)
 ·have hf:=geo_facts hg
  have hr:=geo_bank hg
  have hq:=geo_row hg
  have hb:bankN G B R K=G*B:=by simp [bankN,hg]
  have hz:rng (imul (bankN G B R K) R):=by rw [hb];exact ⟨by show _≤G*B*R;omega,by show G*B*R≤_;omega⟩
  cases h1:((x.c.n:Int) == lineN G B R K)
  ·have hok:arrOk G B R K x=false:=by simp [arrOk,hg,ieq,h1]
   repeat' (first
    | with_reducible exact rfl
    | exact True.intro
    | with_reducible assumption
    | (rw [hok];done)
    | refine And.intro ?_ ?_
    | apply Exists.intro
    | exact hl
    | (intro h;exfalso;simp at h;done)
    | (intro h;exfalso;simp [hg] at h;done)
    | (intro h;exfalso;simp [h1] at h;done)
    | (intro h;exfalso;simp [h2] at h;done)
    | (intro h;exfalso;simp [h3] at h;done)
    | (intro h;exfalso;simp [h3'] at h;done)
    | (intro h;exfalso;simp [bne,h1] at h;done)
    | (intro h;exfalso;simp only [bne,h2] at h;simp at h;done)
    | (intro h;exfalso;simp only [bne,h3] at h;simp at h;done)
    | (intro h;exfalso;simp only [bne,h3'] at h;simp at h;done)
    | (intro h;exfalso;rw [h4] at h;cases h;done)
    | (intro h;exfalso;rw [h5] at h;cases h;done)
    | intro _
    | omega
    | exact rfl)
  ·cases h2:((x.aN:Int) == bankN G B R K*R)
   ·have hok:arrOk G B R K x=false:=by simp [arrOk,hg,ieq,h2]
    repeat' (first
     | with_reducible exact rfl
     | exact True.intro
     | with_reducible assumption
     | (rw [hok];done)
     | refine And.intro ?_ ?_
     | apply Exists.intro
     | exact hl
     | (intro h;exfalso;simp at h;done)
     | (intro h;exfalso;simp [hg] at h;done)
     | (intro h;exfalso;simp [h1] at h;done)
     | (intro h;exfalso;simp [h2] at h;done)
     | (intro h;exfalso;simp [h3] at h;done)
     | (intro h;exfalso;simp [h3'] at h;done)
     | (intro h;exfalso;simp [bne,h1] at h;done)
     | (intro h;exfalso;simp only [bne,h2] at h;simp at h;done)
     | (intro h;exfalso;simp only [bne,h3] at h;simp at h;done)
     | (intro h;exfalso;simp only [bne,h3'] at h;simp at h;done)
     | (intro h;exfalso;rw [h4] at h;cases h;done)
     | (intro h;exfalso;rw [h5] at h;cases h;done)
     | intro _
     | omega
     | exact rfl)
   ·cases h3:((x.hN:Int) == (x.aN:Int))
    ·have hok:arrOk G B R K x=false:=by simp [arrOk,hg,ieq,h3]
     have h2':=eq_of_beq h2
     have h3':((x.hN:Int) == bankN G B R K*R)=false:=by rw [← h2'];exact h3
     repeat' (first
      | with_reducible exact rfl
      | exact True.intro
      | with_reducible assumption
      | (rw [hok];done)
      | refine And.intro ?_ ?_
      | apply Exists.intro
      | exact hl
      | (intro h;exfalso;simp at h;done)
      | (intro h;exfalso;simp [hg] at h;done)
      | (intro h;exfalso;simp [h1] at h;done)
      | (intro h;exfalso;simp [h2] at h;done)
      | (intro h;exfalso;simp [h3] at h;done)
      | (intro h;exfalso;simp [h3'] at h;done)
      | (intro h;exfalso;simp [bne,h1] at h;done)
      | (intro h;exfalso;simp only [bne,h2] at h;simp at h;done)
      | (intro h;exfalso;simp only [bne,h3] at h;simp at h;done)
      | (intro h;exfalso;simp only [bne,h3'] at h;simp at h;done)
      | (intro h;exfalso;rw [h4] at h;cases h;done)
      | (intro h;exfalso;rw [h5] at h;cases h;done)
      | intro _
      | omega
      | exact rfl)
    ·have hh:x.hN=x.aN:=by have:=eq_of_beq h3;omega
     have h2':=eq_of_beq h2
     have h3':((x.hN:Int) == bankN G B R K*R)=true:=by rw [← h2'];exact h3
     cases h4:allB x.c.n (fun j=>symB (x.c.sn j) (x.c.sy j) 11)
     ·have hok:arrOk G B R K x=false:=by simp [arrOk,h4]
      repeat' (first
       | with_reducible exact rfl
       | exact True.intro
       | with_reducible assumption
       | (rw [hok];done)
       | refine And.intro ?_ ?_
       | apply Exists.intro
       | exact hl
       | (intro h;exfalso;simp at h;done)
       | (intro h;exfalso;simp [hg] at h;done)
       | (intro h;exfalso;simp [h1] at h;done)
       | (intro h;exfalso;simp [h2] at h;done)
       | (intro h;exfalso;simp [h3] at h;done)
       | (intro h;exfalso;simp [h3'] at h;done)
       | (intro h;exfalso;simp [bne,h1] at h;done)
       | (intro h;exfalso;simp only [bne,h2] at h;simp at h;done)
       | (intro h;exfalso;simp only [bne,h3] at h;simp at h;done)
       | (intro h;exfalso;simp only [bne,h3'] at h;simp at h;done)
       | (intro h;exfalso;rw [h4] at h;cases h;done)
       | (intro h;exfalso;rw [h5] at h;cases h;done)
       | intro _
       | omega
       | exact rfl)
     ·cases h5:allB x.aN (fun j=>btw (x.ag j) 0 100000&&btw (x.hg j) 0 100000)
      ·have hok:arrOk G B R K x=false:=by simp [arrOk,h5]
       repeat' (first
        | with_reducible exact rfl
        | exact True.intro
        | with_reducible assumption
        | (rw [hok];done)
        | refine And.intro ?_ ?_
        | apply Exists.intro
        | exact hl
        | (intro h;exfalso;simp at h;done)
        | (intro h;exfalso;simp [hg] at h;done)
        | (intro h;exfalso;simp [h1] at h;done)
        | (intro h;exfalso;simp [h2] at h;done)
        | (intro h;exfalso;simp [h3] at h;done)
        | (intro h;exfalso;simp [h3'] at h;done)
        | (intro h;exfalso;simp [bne,h1] at h;done)
        | (intro h;exfalso;simp only [bne,h2] at h;simp at h;done)
        | (intro h;exfalso;simp only [bne,h3] at h;simp at h;done)
        | (intro h;exfalso;simp only [bne,h3'] at h;simp at h;done)
        | (intro h;exfalso;rw [h4] at h;cases h;done)
        | (intro h;exfalso;rw [h5] at h;cases h;done)
        | intro _
        | omega
        | exact rfl)
      ·have hok:arrOk G B R K x=true:=by simp [arrOk,hg,ieq,h1,h2,h3,h4,h5]
       repeat' (first
        | with_reducible exact rfl
        | exact True.intro
        | with_reducible assumption
        | (rw [hok];done)
        | refine And.intro ?_ ?_
        | apply Exists.intro
        | exact hl
        | (intro h;exfalso;simp at h;done)
        | (intro h;exfalso;simp [hg] at h;done)
        | (intro h;exfalso;simp [h1] at h;done)
        | (intro h;exfalso;simp [h2] at h;done)
        | (intro h;exfalso;simp [h3] at h;done)
        | (intro h;exfalso;simp [h3'] at h;done)
        | (intro h;exfalso;simp [bne,h1] at h;done)
        | (intro h;exfalso;simp only [bne,h2] at h;simp at h;done)
        | (intro h;exfalso;simp only [bne,h3] at h;simp at h;done)
        | (intro h;exfalso;simp only [bne,h3'] at h;simp at h;done)
        | (intro h;exfalso;rw [h4] at h;cases h;done)
        | (intro h;exfalso;rw [h5] at h;cases h;done)
        | intro _
        | omega
        | exact rfl)
def sakkS (x:AD)(O A H:Option Addr)(C D E:Nat)(so:Nat→Option Addr)(sc:Nat→Nat)(G B R K:Int):LSm:=fun ts ch kk=>lenA x∧∃ bg ba,sakS x O A H C D E so sc G B R K bg ba ts ch kk
def sallS (x:AD)(O A H:Option Addr)(C D E:Nat)(so:Nat→Option Addr)(sc:Nat→Nat)(G B R K:Int):LSm:=fun ts ch kk=>(lenA x∧x.hN=x.aN)∧∃ bg ba,salS x O A H C D E so sc G B R K bg ba ts ch kk
theorem akkS_ok (x:AD)(O A H:Option Addr)(C D E:Nat)(so:Nat→Option Addr)(sc:Nat→Nat)(G B R K:Int)(X:Cx):LoopOK Tryz.prog X (theLoop Tryz.f31 0) (sakkS x O A H C D E so sc G B R K):=by
 rintro ts ch kk a w ⟨h1,bg,ba,hS⟩ hT hd hs
 exact akS_ok x O A H C D E so sc G B R K bg ba h1 X ts ch kk a w hS hT hd hs
theorem allS_ok (x:AD)(O A H:Option Addr)(C D E:Nat)(so:Nat→Option Addr)(sc:Nat→Nat)(G B R K:Int)(X:Cx):LoopOK Tryz.prog X (theLoop Tryz.f31 1) (sallS x O A H C D E so sc G B R K):=by
 rintro ts ch kk a w ⟨⟨h1,h2⟩,bg,ba,hS⟩ hT hd hs
 exact alS_ok x O A H C D E so sc G B R K bg ba h1 h2 X ts ch kk a w hS hT hd hs
theorem arrokS_T (x:AD)(O A H:Option Addr)(C D E:Nat)(so:Nat→Option Addr)(sc:Nat→Nat)(G B R K:Int):(exFn Tryz.prog { tb:=[(101,sGeo),(102,sBank),(36,sLine)],L:=[(4,sakkS x O A H C D E so sc G B R K),(9,sallS x O A H C D E so sc G B R K)] } 400 Tryz.f31 ([.a (.agg [.int G,.int B,.int R,.int K]),.a (arrS 0 x O A H C D E)]) (arrR 0 x O A H so sc) (fun v _=>v.den=.bool (arrOk G B R K x)))=(
 (fun b:Value=>(fun c:Value=>(fun d:Value=>(fun g:Int=>(fun h:Int=>(fun j:Bool=>(fun k:Value=>(fun l:Value=>(fun m:Value=>(fun n:List SC=>(fun o:Value=>(fun p:Bool=>(fun q:Bool=>(fun r:Ch=>(fun s:Bool=>(fun t:Ch=>(fun u:Ch=>(fun w:Value=>(fun y:Value=>(fun z:Value=>(fun F:List SC=>(fun I:Value=>(fun J:Ch=>∀ M N:Nat,M=M∧True∧(j=false→N=N∧M=M∧True∧(p=false→N=N∧M=M∧M=M∧True∧rng (h*R)∧(s=false→N=N∧N=N∧(q=true→c=k)∧(q=false→lenA x∧∃ P Q:Nat,(fun S:Bool=>([o,z,Wp M 0,Wp N 0,c,Wi 0,b,o,Wb (geoB G B R K),Wb j,c,Wp N 0,Ws O x.1.1 C,m,o,Wi g,w,w,c,Wp N 1,d,l,o,Wi h,Wp M 2,Wi R,Wi (h*R),I,I,c,Wp N 2,Ws H x.4 E,Wi ((x.4:Nat):Int),Wp N 1,d,l,y,c,b,b,b,b,b,b,b,b,b,b,b,b,b,b,b,b,b,b,b,b,b,b,b,b,b,b,b,b,b,b,b,b,b,b,b,b,b,b]=[o,z,Wp P 0,Wp Q 0,c,Wi 0,b,o,Wb (geoB G B R K),Wb j,c,Wp N 0,Ws O x.1.1 C,m,o,Wi g,w,w,c,Wp N 1,d,l,o,Wi h,Wp M 2,Wi R,Wi (h*R),I,I,c,Wp N 2,Ws H x.4 E,Wi ((x.4:Nat):Int),Wp N 1,d,l,y,c,b,b,b,b,b,b,b,b,b,b,b,b,b,b,b,b,b,b,b,b,b,b,b,b,b,b,b,b,b,b,b,b,b,b,b,b,b,b]∧[J,u,t,r,Hc M 68 n,Hc N 85 F]=[J,u,t,r,Hc P 68 n,Hc Q 85 F])∧(∀ T:Nat→Value,S=true→(lenA x∧x.4=x.2)∧∃ U V:Nat,(fun W:Bool=>([T 0,T 1,Wp P 0,Wp Q 0,T 4,m,Wi 0,T 7,T 8,T 9,T 10,T 11,T 12,T 13,T 14,T 15,T 16,T 17,T 18,T 19,T 20,T 21,T 22,T 23,T 24,T 25,T 26,T 27,T 28,T 29,T 30,T 31,T 32,T 33,T 34,T 35,T 36,T 37,T 38,T 39,T 40,T 41,T 42,T 43,T 44,T 45,T 46,T 47,T 48,T 49,T 50,T 51,T 52,T 53,T 54,T 55,T 56,T 57,T 58,T 59,T 60,T 61,T 62,T 63,T 64,T 65,T 66,T 67,T 68,T 69,T 70,T 71,T 72,T 73,T 74,T 75]=[T 0,T 1,Wp U 0,Wp V 0,T 4,m,Wi 0,T 7,T 8,T 9,T 10,T 11,T 12,T 13,T 14,T 15,T 16,T 17,T 18,T 19,T 20,T 21,T 22,T 23,T 24,T 25,T 26,T 27,T 28,T 29,T 30,T 31,T 32,T 33,T 34,T 35,T 36,T 37,T 38,T 39,T 40,T 41,T 42,T 43,T 44,T 45,T 46,T 47,T 48,T 49,T 50,T 51,T 52,T 53,T 54,T 55,T 56,T 57,T 58,T 59,T 60,T 61,T 62,T 63,T 64,T 65,T 66,T 67,T 68,T 69,T 70,T 71,T 72,T 73,T 74,T 75]∧[J,u,t,r,Hc P 68 n,Hc Q 85 F]=[J,u,t,r,Hc U 68 n,Hc V 85 F])∧(∀ X:Nat→Value,W=true→(Wb true)=k)∧∀ X:Nat→Value,W=false→c=k) (allB x.2 (alSP x O A H C D E so sc G B R K U V)))∧∀ T:Nat→Value,S=false→c=k) (allB x.1.1 (akSP x O A H C D E so sc G B R K P Q))))∧(s=true→c=k))∧(p=true→c=k))∧(j=true→c=k)) (Hr false O 0 2 x.1.1 0 [fun J=>Cs 3 (so J) (x.1.2 J) (sc J),fun J=>Cb (x.1.4 J)])) (Wb s)) [Cs 0 O x.1.1 C,Cs 1 A x.2 D,Cs 2 H x.4 E]) (Wa [Ws O x.1.1 C,d,Ws H x.4 E])) (Wb q)) (Wb p)) (Hr false A 0 1 x.2 0 [fun u=>Ci (x.3 u)])) (Hr false H 0 1 x.4 0 [fun t=>Ci (x.5 t)])) (((x.2:Nat):Int) != (h*R))) (Ho false (symRows false 0 x.1 so (fun r=>0)))) (((x.4:Nat):Int) != ((x.2:Nat):Int))) (((x.1.1:Nat):Int) != g)) (Wa [Wi G,Wi B,Wi R,Wi K])) [Ci G,Ci B,Ci R,Ci K]) (Wi ((x.1.1:Nat):Int))) (Wi ((x.2:Nat):Int))) (Wb (arrOk G B R K x))) (! (geoB G B R K))) (bankN G B R K)) (lineN G B R K)) (Ws A x.2 D)) (Wb false)) (Wu [])):=by kernel_rfl
theorem arrokS_any (x:AD)(O A H:Option Addr)(C D E:Nat)(so:Nat→Option Addr)(sc:Nat→Nat)(G B R K:Int)(w:World)(hA:SeenA w x O A H so sc)(hl:lenA x):Calls Tryz.prog 31 #[.agg #[.int .i64 G,.int .i64 B,.int .i64 R,.int .i64 K],arrV x O A H C D E] w fun e w'=>e=.returned (.bool (arrOk G B R K x))∧Below w.heap.size w w':=by
 refine fn_ok mixed (E:={ tb:=[(101,sGeo),(102,sBank),(36,sLine)],L:=[(4,sakkS x O A H C D E so sc G B R K),(9,sallS x O A H C D E so sc G B R K)] }) ⟨sGeo_S,sBank_S,sLine_S,trivial⟩ Tryz.func31 (two_loops (by kernel_rfl) (by decide) (akkS_ok x O A H C D E so sc G B R K _) (allS_ok x O A H C D E so sc G B R K _)) (@Eq.mpr _ _ (arrokS_T x O A H C D E so sc G B R K) ?_) (HS.seenAll (fun _=>False) _ (hA.all 0 seenC_nil)) (fun v ch' w' hv hs=>⟨by rw [hv],hs.below⟩)
 dsimp -zeta -proj -iota -eta -failIfUnchanged (etaStruct:=.none) only
 clear hA
 have l1:=hl.1
 have l2:=hl.2.1
 have l3:=hl.2.2.1
 have eS:∀ bg ba,allB x.c.n (akSP x O A H C D E so sc G B R K bg ba)=allB x.c.n (fun j=>symB (x.c.sn j) (x.c.sy j) 11):=fun _ _=>rfl
 have eA:∀ bg ba,allB x.aN (alSP x O A H C D E so sc G B R K bg ba)=allB x.aN (fun j=>btw (x.ag j) 0 100000&&btw (x.hg j) 0 100000):=fun _ _=>rfl
 simp only [eS,eA]
 cases hg:geoB G B R K
 ·have hb:=(line_not hg).2
  have hok:arrOk G B R K x=false:=by simp [arrOk,hg]
  have hz:rng (imul (bankN G B R K) R):=by rw [hb];simp [imul,rng]
  repeat' (first
   | with_reducible exact rfl
   | exact True.intro
   | with_reducible assumption
   | (rw [hok];done)
   | refine And.intro ?_ ?_
   | apply Exists.intro
   | exact hl
   | (intro h;exfalso;simp at h;done)
   | (intro h;exfalso;simp [hg] at h;done)
   | (intro h;exfalso;simp [h1] at h;done)
   | (intro h;exfalso;simp [h2] at h;done)
   | (intro h;exfalso;simp [h3] at h;done)
   | (intro h;exfalso;simp [h3'] at h;done)
   | (intro h;exfalso;simp [bne,h1] at h;done)
   | (intro h;exfalso;simp only [bne,h2] at h;simp at h;done)
   | (intro h;exfalso;simp only [bne,h3] at h;simp at h;done)
   | (intro h;exfalso;simp only [bne,h3'] at h;simp at h;done)
   | (intro h;exfalso;rw [h4] at h;cases h;done)
   | (intro h;exfalso;rw [h5] at h;cases h;done)
   | intro _
   | omega
   | exact rfl)
 ·have hf:=geo_facts hg
  have hr:=geo_bank hg
  have hq:=geo_row hg
  have hb:bankN G B R K=G*B:=by simp [bankN,hg]
  have hz:rng (imul (bankN G B R K) R):=by rw [hb];exact ⟨by show _≤G*B*R;omega,by show G*B*R≤_;omega⟩
  cases h1:((x.c.n:Int) == lineN G B R K)
  ·have hok:arrOk G B R K x=false:=by simp [arrOk,hg,ieq,h1]
   repeat' (first
    | with_reducible exact rfl
    | exact True.intro
    | with_reducible assumption
    | (rw [hok];done)
    | refine And.intro ?_ ?_
    | apply Exists.intro
    | exact hl
    | (intro h;exfalso;simp at h;done)
    | (intro h;exfalso;simp [hg] at h;done)
    | (intro h;exfalso;simp [h1] at h;done)
    | (intro h;exfalso;simp [h2] at h;done)
    | (intro h;exfalso;simp [h3] at h;done)
    | (intro h;exfalso;simp [h3'] at h;done)
    | (intro h;exfalso;simp [bne,h1] at h;done)
    | (intro h;exfalso;simp only [bne,h2] at h;simp at h;done)
    | (intro h;exfalso;simp only [bne,h3] at h;simp at h;done)
    | (intro h;exfalso;simp only [bne,h3'] at h;simp at h;done)
    | (intro h;exfalso;rw [h4] at h;cases h;done)
    | (intro h;exfalso;rw [h5] at h;cases h;done)
    | intro _
    | omega
    | exact rfl)
  ·cases h2:((x.aN:Int) == bankN G B R K*R)
   ·have hok:arrOk G B R K x=false:=by simp [arrOk,hg,ieq,h2]
    repeat' (first
     | with_reducible exact rfl
     | exact True.intro
     | with_reducible assumption
     | (rw [hok];done)
     | refine And.intro ?_ ?_
     | apply Exists.intro
     | exact hl
     | (intro h;exfalso;simp at h;done)
     | (intro h;exfalso;simp [hg] at h;done)
     | (intro h;exfalso;simp [h1] at h;done)
     | (intro h;exfalso;simp [h2] at h;done)
     | (intro h;exfalso;simp [h3] at h;done)
     | (intro h;exfalso;simp [h3'] at h;done)
     | (intro h;exfalso;simp [bne,h1] at h;done)
     | (intro h;exfalso;simp only [bne,h2] at h;simp at h;done)
     | (intro h;exfalso;simp only [bne,h3] at h;simp at h;done)
     | (intro h;exfalso;simp only [bne,h3'] at h;simp at h;done)
     | (intro h;exfalso;rw [h4] at h;cases h;done)
     | (intro h;exfalso;rw [h5] at h;cases h;done)
     | intro _
     | omega
     | exact rfl)
   ·cases h3:((x.hN:Int) == (x.aN:Int))
    ·have hok:arrOk G B R K x=false:=by simp [arrOk,hg,ieq,h3]
     have h2':=eq_of_beq h2
     have h3':((x.hN:Int) == bankN G B R K*R)=false:=by rw [← h2'];exact h3
     repeat' (first
      | with_reducible exact rfl
      | exact True.intro
      | with_reducible assumption
      | (rw [hok];done)
      | refine And.intro ?_ ?_
      | apply Exists.intro
      | exact hl
      | (intro h;exfalso;simp at h;done)
      | (intro h;exfalso;simp [hg] at h;done)
      | (intro h;exfalso;simp [h1] at h;done)
      | (intro h;exfalso;simp [h2] at h;done)
      | (intro h;exfalso;simp [h3] at h;done)
      | (intro h;exfalso;simp [h3'] at h;done)
      | (intro h;exfalso;simp [bne,h1] at h;done)
      | (intro h;exfalso;simp only [bne,h2] at h;simp at h;done)
      | (intro h;exfalso;simp only [bne,h3] at h;simp at h;done)
      | (intro h;exfalso;simp only [bne,h3'] at h;simp at h;done)
      | (intro h;exfalso;rw [h4] at h;cases h;done)
      | (intro h;exfalso;rw [h5] at h;cases h;done)
      | intro _
      | omega
      | exact rfl)
    ·have hh:x.hN=x.aN:=by have:=eq_of_beq h3;omega
     have h2':=eq_of_beq h2
     have h3':((x.hN:Int) == bankN G B R K*R)=true:=by rw [← h2'];exact h3
     cases h4:allB x.c.n (fun j=>symB (x.c.sn j) (x.c.sy j) 11)
     ·have hok:arrOk G B R K x=false:=by simp [arrOk,h4]
      repeat' (first
       | with_reducible exact rfl
       | exact True.intro
       | with_reducible assumption
       | (rw [hok];done)
       | refine And.intro ?_ ?_
       | apply Exists.intro
       | exact hl
       | (intro h;exfalso;simp at h;done)
       | (intro h;exfalso;simp [hg] at h;done)
       | (intro h;exfalso;simp [h1] at h;done)
       | (intro h;exfalso;simp [h2] at h;done)
       | (intro h;exfalso;simp [h3] at h;done)
       | (intro h;exfalso;simp [h3'] at h;done)
       | (intro h;exfalso;simp [bne,h1] at h;done)
       | (intro h;exfalso;simp only [bne,h2] at h;simp at h;done)
       | (intro h;exfalso;simp only [bne,h3] at h;simp at h;done)
       | (intro h;exfalso;simp only [bne,h3'] at h;simp at h;done)
       | (intro h;exfalso;rw [h4] at h;cases h;done)
       | (intro h;exfalso;rw [h5] at h;cases h;done)
       | intro _
       | omega
       | exact rfl)
     ·cases h5:allB x.aN (fun j=>btw (x.ag j) 0 100000&&btw (x.hg j) 0 100000)
      ·have hok:arrOk G B R K x=false:=by simp [arrOk,h5]
       repeat' (first
        | with_reducible exact rfl
        | exact True.intro
        | with_reducible assumption
        | (rw [hok];done)
        | refine And.intro ?_ ?_
        | apply Exists.intro
        | exact hl
        | (intro h;exfalso;simp at h;done)
        | (intro h;exfalso;simp [hg] at h;done)
        | (intro h;exfalso;simp [h1] at h;done)
        | (intro h;exfalso;simp [h2] at h;done)
        | (intro h;exfalso;simp [h3] at h;done)
        | (intro h;exfalso;simp [h3'] at h;done)
        | (intro h;exfalso;simp [bne,h1] at h;done)
        | (intro h;exfalso;simp only [bne,h2] at h;simp at h;done)
        | (intro h;exfalso;simp only [bne,h3] at h;simp at h;done)
        | (intro h;exfalso;simp only [bne,h3'] at h;simp at h;done)
        | (intro h;exfalso;rw [h4] at h;cases h;done)
        | (intro h;exfalso;rw [h5] at h;cases h;done)
        | intro _
        | omega
        | exact rfl)
      ·have hok:arrOk G B R K x=true:=by simp [arrOk,hg,ieq,h1,h2,h3,h4,h5]
       repeat' (first
        | with_reducible exact rfl
        | exact True.intro
        | with_reducible assumption
        | (rw [hok];done)
        | refine And.intro ?_ ?_
        | apply Exists.intro
        | exact hl
        | (intro h;exfalso;simp at h;done)
        | (intro h;exfalso;simp [hg] at h;done)
        | (intro h;exfalso;simp [h1] at h;done)
        | (intro h;exfalso;simp [h2] at h;done)
        | (intro h;exfalso;simp [h3] at h;done)
        | (intro h;exfalso;simp [h3'] at h;done)
        | (intro h;exfalso;simp [bne,h1] at h;done)
        | (intro h;exfalso;simp only [bne,h2] at h;simp at h;done)
        | (intro h;exfalso;simp only [bne,h3] at h;simp at h;done)
        | (intro h;exfalso;simp only [bne,h3'] at h;simp at h;done)
        | (intro h;exfalso;rw [h4] at h;cases h;done)
        | (intro h;exfalso;rw [h5] at h;cases h;done)
        | intro _
        | omega
        | exact rfl)
set_option maxHeartbeats 400000
def sArrOk:Sm:=fun args ch kk =>
 match args with
 | [.a (.agg [c0,c1,c2,c3]),.a c] =>
  match ints [c0,c1,c2,c3] with
  | some [G,B,R,K]=>rdA ch c fun x=>lenA x∧kk (.a (.c (.bool (arrOk G B R K x)))) ch []
  | _=>False
 | _=>False
theorem sArrOk_I:SmOK Tryz.prog 64 sArrOk:=by
 refine smB Tryz.call64 fun args ch kk w X h0 hs=>?_
 unfold sArrOk at h0
 split at h0
 ·rename_i c0 c1 c2 c3 c
  split at h0
  ·rename_i G B R K hi
   obtain ⟨e0,hi⟩:=ints_cons hi
   obtain ⟨e1,hi⟩:=ints_cons hi
   obtain ⟨e2,hi⟩:=ints_cons hi
   obtain ⟨e3,hi⟩:=ints_cons hi
   obtain ⟨x,O,A,H,C,D,E,so,sc,e,hA,hl,h1⟩:=rdA_ok h0 hs
   refine ⟨_,h1,?_⟩
   have e9:SA.den (.agg [c0,c1,c2,c3])=.agg #[.int .i64 G,.int .i64 B,.int .i64 R,.int .i64 K]:=by simp only [SA.den,List.map_cons,List.map_nil,e0,e1,e2,e3]
   simp only [List.map_cons,List.map_nil,den_a,e,e9]
   exact arrokI_any x O A H C D E so sc G B R K w hA hl
  ·exact h0.elim
 ·exact h0.elim
theorem sArrOk_S:SmOK Tryz.prog 31 sArrOk:=by
 refine smB Tryz.call31 fun args ch kk w X h0 hs=>?_
 unfold sArrOk at h0
 split at h0
 ·rename_i c0 c1 c2 c3 c
  split at h0
  ·rename_i G B R K hi
   obtain ⟨e0,hi⟩:=ints_cons hi
   obtain ⟨e1,hi⟩:=ints_cons hi
   obtain ⟨e2,hi⟩:=ints_cons hi
   obtain ⟨e3,hi⟩:=ints_cons hi
   obtain ⟨x,O,A,H,C,D,E,so,sc,e,hA,hl,h1⟩:=rdA_ok h0 hs
   refine ⟨_,h1,?_⟩
   have e9:SA.den (.agg [c0,c1,c2,c3])=.agg #[.int .i64 G,.int .i64 B,.int .i64 R,.int .i64 K]:=by simp only [SA.den,List.map_cons,List.map_nil,e0,e1,e2,e3]
   simp only [List.map_cons,List.map_nil,den_a,e,e9]
   exact arrokS_any x O A H C D E so sc G B R K w hA hl
  ·exact h0.elim
 ·exact h0.elim
end Go.Proofs.YtmnccapnjphmfaaGreat
namespace Go.Proofs.YtmnccapnjphmfaaGreat
set_option linter.unusedVariables false
set_option linter.unusedSimpArgs false
open Go.RowKit
set_option maxRecDepth 100000
set_option maxHeartbeats 8000000
def ctB (x:CtD):Bool:=(fitsP (cfgB (x.i 0) (x.i 1) (x.i 2) (x.i 3) (x.i 4) (x.i 5) (x.i 6) (x.i 7) (x.i 8) (x.i 9) (x.i 10) (x.i 11) (x.i 12) (x.i 13) (x.i 14) (x.i 15) (x.i 16) (x.i 17) (x.i 18) (x.i 19) (x.i 20) (x.i 21) (x.i 22) (x.i 23) (x.i 24) (x.i 25) (x.i 26) (x.b 0)) (polB (x.i 27) (x.i 28) (x.i 29) (x.i 30) (x.i 31) (x.n 0) (x.g 0 0) (x.i 32) (x.i 33)) (x.i 24) (x.i 23) (x.i 6) (x.i 5) (x.i 26) (x.i 29))&&(fitsP (cfgB (x.i 0) (x.i 1) (x.i 2) (x.i 3) (x.i 4) (x.i 5) (x.i 6) (x.i 7) (x.i 8) (x.i 9) (x.i 10) (x.i 11) (x.i 12) (x.i 13) (x.i 14) (x.i 15) (x.i 16) (x.i 17) (x.i 18) (x.i 19) (x.i 20) (x.i 21) (x.i 22) (x.i 23) (x.i 24) (x.i 25) (x.i 26) (x.b 0)) (polB (x.i 34) (x.i 35) (x.i 36) (x.i 37) (x.i 38) (x.n 1) (x.g 1 0) (x.i 39) (x.i 40)) (x.i 24) (x.i 23) (x.i 6) (x.i 5) (x.i 26) (x.i 36))&&(btw (x.i 41) 0 1000000)&&(rkB (x.n 2) (x.g 2) (x.h 2) (x.i 42) (x.i 0) (x.i 1) (x.i 2) (x.i 3))&&(rdyB (x.n 3) (x.g 3 0) (x.n 4) (x.g 4 0) (x.i 0) (x.i 1) (x.i 2) (x.i 3))&&(arrOk (x.i 0) (x.i 1) (x.i 2) (x.i 3) (⟨x.c,x.n 6,x.g 6 0,x.n 7,x.g 7 0⟩:AD))&&(sprB (x.n 8) (x.g 8 0) (x.i 43) (x.i 0) (x.i 1) (x.i 2) (x.i 3))&&(ieq (x.i 43) (x.i 22))&&(rfB (x.n 9) (x.g 9 0) (x.i 44))&&(bksB x)&&(quB (x.n 13) (x.g 13) (x.h 13) (lineN (ifZ (sprB (x.n 8) (x.g 8 0) (x.i 43) (x.i 0) (x.i 1) (x.i 2) (x.i 3)) (x.i 0)) (ifZ (sprB (x.n 8) (x.g 8 0) (x.i 43) (x.i 0) (x.i 1) (x.i 2) (x.i 3)) (x.i 1)) (ifZ (sprB (x.n 8) (x.g 8 0) (x.i 43) (x.i 0) (x.i 1) (x.i 2) (x.i 3)) (x.i 2-x.i 43)) (ifZ (sprB (x.n 8) (x.g 8 0) (x.i 43) (x.i 0) (x.i 1) (x.i 2) (x.i 3)) (x.i 3))))&&(shB (x.n 14) (x.g 14 0) (x.g 14 1))&&(ieq (x.n 14:Int) 4)&&(drB (x.i 45) (x.i 46))&&(powB (x.i 47) (x.i 48) (x.i 49))&&(ieq (x.i 47) (x.i 42))&&decide (x.i 48≤x.i 41)&&(btw (x.i 51) 1 100000)&&(btw (x.i 52) 1 (x.i 51))&&(btw (x.i 50) 0 ((lineN (x.i 0) (x.i 1) (x.i 2) (x.i 3))-1))&&(ersB (x.n 15) (x.g 15))&&decide ((x.n 16:Int)≤2000)&&decide ((x.n 17:Int)≤400)
end Go.Proofs.YtmnccapnjphmfaaGreat

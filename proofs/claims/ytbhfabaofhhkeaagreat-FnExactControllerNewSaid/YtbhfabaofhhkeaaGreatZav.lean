/-
  FnExactControllerNew: a part of the walk (merged and squeezed by program: SxNf).
-/
import Derived.Test.YtbhfabaofhhkeaaGreatZau
namespace Go.Proofs.YtbhfabaofhhkeaaGreat
set_option linter.unusedVariables false
set_option linter.unusedSimpArgs false
open Go.RowKit
set_option maxRecDepth 100000
set_option maxHeartbeats 8000000
def ReE:List Ch→List Ch→Prop
 | [],[]=>True
 | c::l,d::m=>(c=d∨ReS1 c d)∧ReE l m
 | _,_=>False
theorem ReE1.ok {c d:Ch}(h:c=d∨ReS1 c d){w:World}(hs:c.sat w):d.sat w∧(d.own=c.own∨∀ b,¬ d.at b)∧∀ b,d.at b→c.at b:=by
 rcases h with rfl | h
 ·exact ⟨hs,.inl rfl,fun _ h=>h⟩
 ·exact h.ok hs
theorem ReE.get:∀ {l m:List Ch},ReE l m→∀ (i:Nat) (d:Ch),m[i]?=some d→∃ c,l[i]?=some c∧(c=d∨ReS1 c d):=by
 intro l
 induction l with
 | nil=>intro m h i d hd;cases m with | nil=>simp at hd | cons _ _=>exact h.elim
 | cons c l ih =>
  intro m h i d hd
  cases m with
  | nil=>exact h.elim
  | cons e m =>
   cases i with
   | zero=>simp at hd;subst hd;exact ⟨c,rfl,h.1⟩
   | succ i=>simpa using ih h.2 i d (by simpa using hd)
theorem HS.reE {X:Cx}{l m:List Ch}{w:World}(h:HS X l w)(hr:ReE l m):HS X m w where
 fr:=h.fr
 sat:=fun i d hd=>by
  obtain ⟨c,hc,hcd⟩:=hr.get i d hd
  exact (ReE1.ok hcd (h.sat i c hc)).1
 dis:=fun i j ci cj b hij hi hj ho hai haj=>by
  obtain ⟨c,hc,hcd⟩:=hr.get i ci hi
  obtain ⟨c',hc',hcd'⟩:=hr.get j cj hj
  have h1:=ReE1.ok hcd (h.sat i c hc)
  have h2:=ReE1.ok hcd' (h.sat j c' hc')
  exact h.dis i j c c' b hij hc hc' ((h1.2.1.resolve_right fun q=>q b hai) ▸ ho) (h1.2.2 b hai) (h2.2.2 b haj)
 new:=fun i d b hd ho ha=>by
  obtain ⟨c,hc,hcd⟩:=hr.get i d hd
  have h1:=ReE1.ok hcd (h.sat i c hc)
  exact h.new i c b hc ((h1.2.1.resolve_right fun q=>q b ha) ▸ ho) (h1.2.2 b ha)
theorem ReE.hs {ch:List Ch}{l:List Nat}{m:List Ch}(h:ReE (selC ch l) m)(hn:nodupB l=true){X:Cx}{w:World}(hs:HS X ch w):HS X m w:=(hs.sel l (nodupB_ok hn)).reE h
def cellF (ch:List Ch)(i k:Nat):SC :=
 match ch[i]? with
 | some (.cells _ _ cs)=>cs.getD k .nil
 | _=>.nil
def pieceF (ch:List Ch)(k:Nat):Ch:=ch.getD k .dead
def zTK (j k:Nat):TK:=⟨j,fun _=>k,fun _ _=>-1,fun _=>k,fun _ _=>0,fun _=>0⟩
theorem zTK_R {j k:Nat}{uo:Nat→Option Addr}{uc:Nat→Nat}{a:Option Addr}:symRows true 3 (tkR (zTK j k)) uo uc ++ [⟨true,a,3,1,k,k,[fun i=>.int (-1)]⟩]=symRows true 3 (tkR (zTK (j+1) k)) (fun i=>if i<j then uo i else a) (fun i=>if i<j then uc i else k):=symRows_push (x:=tkR (zTK j k))
theorem zTK_Q {j k:Nat}{uo:Nat→Option Addr}{uc:Nat→Nat}{a:Option Addr}:symRows true 3 (tkQ (zTK j k)) uo uc ++ [⟨true,a,3,1,k,k,[fun i=>.int 0]⟩]=symRows true 3 (tkQ (zTK (j+1) k)) (fun i=>if i<j then uo i else a) (fun i=>if i<j then uc i else k):=symRows_push (x:=tkQ (zTK j k))
theorem HS.addNest {X:Cx}{ch:List Ch}{w:World}(h:HS X ch w):HS X (ch ++ [.obj true []]) w :=
 h.add (Below.refl _ _) _ ⟨fun r hr=>(by cases hr),fun _ i j p q b _ hp=>(by simp at hp)⟩ fun b hb=>by
  obtain ⟨r,hr,_⟩:=hb
  cases hr
theorem push_sp {j:Nat}:∀ i,ltN i (j+1)→(SC.int (if i<j then 0 else 0)).den=(SC.int 0).den:=fun i hi=>by
 split <;> rfl
theorem push_li {j:Nat}{z:Int}:∀ i,ltN i (j+1)→(SC.int (if i<j then z else z)).den=(SC.int z).den:=fun i hi=>by
 split <;> rfl
abbrev cnF (c:Nat→Int)(N k:Nat):Prop:=bankN (c 0) (c 1) (c 2) (c 3)=(N:Int)∧N≤8∧c 24=(k:Int)∧(1≤k∧k≤16)
def sScNI:Sm:=inlM Tryz.prog {tb:=[(106,sBtw)]} 300 Tryz.f41
theorem sScNI_ok:SmOK Tryz.prog 41 sScNI:=inlM_ok mixed (E:={tb:=[(106,sBtw)]}) ⟨sBtwI_ok,trivial⟩ Tryz.func41 Tryz.call41 (fun _ _ _=>loopsOK_nil _ _ _)
def sScNS:Sm:=inlM Tryz.prog {tb:=[(97,sBtw)]} 300 Tryz.f25
theorem sScNS_ok:SmOK Tryz.prog 25 sScNS:=inlM_ok mixed (E:={tb:=[(97,sBtw)]}) ⟨sBtwS_ok,trivial⟩ Tryz.func25 Tryz.call25 (fun _ _ _=>loopsOK_nil _ _ _)
def cnIH (c p:Nat→Int)(hb:Bool)(wo:Option Addr)(wn wc k:Nat)(bcf bpo bre bge bst:Nat)(F:Nat→SC)(R:Nat→Ch)(i:SC)(g:Nat→Value):List SV:=hdN [(2,.a (.c (.ptr 1 bcf 0))),(3,.a (.c (.ptr 2 bpo 0))),(4,.a (.c (.ptr 3 bre 0))),(5,.a (.c (.lit false))),(6,.a (.c (.ptr 4 bge 0))),(7,.a (.c (.ptr 5 bst 0))),(8,.a (.c i))] g 0 92
def cnIE (c p:Nat→Int)(hb:Bool)(wo:Option Addr)(wn wc k:Nat)(bcf bpo bre bge bst:Nat)(F:Nat→SC)(R:Nat→Ch):List Ch:=[R 0,.cells bcf 43 [.int (c 0),.int (c 1),.int (c 2),.int (c 3),.int (c 4),.int (c 5),.int (c 6),.int (c 7),.int (c 8),.int (c 9),.int (c 10),.int (c 11),.int (c 12),.int (c 13),.int (c 14),.int (c 15),.int (c 16),.int (c 17),.int (c 18),.int (c 19),.int (c 20),.int (c 21),.bool hb,.int (c 22),.int (c 23),.int (c 24),.int (c 25),.int (c 26)],.cells bpo 46 [.int (p 0),.int (p 1),.int (p 2),.int (p 3),.int (p 4),.sl 0 wo wn wc,.int (p 5),.int (p 6)],R 3,.cells bge 38 [.int (c 0),.int (c 1),.int (c 2),.int (c 3)],.cells bst 75 [F 0,F 1,F 2,F 3,F 4,F 5,F 6,F 7,F 8,F 9,F 10,F 11,F 12,F 13,F 14,F 15,F 16,F 17,F 18,F 19,F 20,F 21,F 22,F 23,F 24,F 25,F 26,F 27,F 28,F 29,F 30,F 31,F 32,F 33,F 34,F 35,F 36,F 37,F 38,F 39,F 40,F 41,F 42,F 43,F 44,F 45,F 46,F 47,F 48,F 49,F 50,F 51,F 52,F 53,F 54,F 55,F 56,F 57,.nil,.nil,F 60,F 61,F 62,F 63,F 64,F 65,F 66,F 67,F 68,F 69,F 70,F 71,F 72,F 73,F 74],R 6,R 7,R 8,R 9,R 10,R 11,R 12,R 13,R 14,R 15,R 16,R 17]
def cnIT (c p:Nat→Int)(hb:Bool)(wo:Option Addr)(wn wc k:Nat)(bcf bpo bre bge bst:Nat)(F:Nat→SC)(R:Nat→Ch)(j:Nat)(Ot:Option Addr)(Ct:Nat)(uo:Nat→Option Addr)(uc:Nat→Nat)(vo:Nat→Option Addr)(vc:Nat→Nat)(Og:Option Addr)(Cg:Nat):List Ch:=[R 0,.cells bcf 43 [.int (c 0),.int (c 1),.int (c 2),.int (c 3),.int (c 4),.int (c 5),.int (c 6),.int (c 7),.int (c 8),.int (c 9),.int (c 10),.int (c 11),.int (c 12),.int (c 13),.int (c 14),.int (c 15),.int (c 16),.int (c 17),.int (c 18),.int (c 19),.int (c 20),.int (c 21),.bool hb,.int (c 22),.int (c 23),.int (c 24),.int (c 25),.int (c 26)],.cells bpo 46 [.int (p 0),.int (p 1),.int (p 2),.int (p 3),.int (p 4),.sl 0 wo wn wc,.int (p 5),.int (p 6)],R 3,.cells bge 38 [.int (c 0),.int (c 1),.int (c 2),.int (c 3)],.cells bst 75 [F 0,F 1,F 2,F 3,F 4,F 5,F 6,F 7,F 8,F 9,F 10,F 11,F 12,F 13,F 14,F 15,F 16,F 17,F 18,F 19,F 20,F 21,F 22,F 23,F 24,F 25,F 26,F 27,F 28,F 29,F 30,F 31,F 32,F 33,F 34,F 35,F 36,F 37,F 38,F 39,F 40,F 41,F 42,F 43,F 44,F 45,F 46,F 47,F 48,F 49,F 50,F 51,F 52,F 53,F 54,F 55,F 56,F 57,.sl 18 Ot j Ct,.sl 21 Og j Cg,F 60,F 61,F 62,F 63,F 64,F 65,F 66,F 67,F 68,F 69,F 70,F 71,F 72,F 73,F 74],R 6,R 7,R 8,R 9,R 10,R 11,R 12,R 13,R 14,R 15,R 16,R 17,.row ⟨true,Ot,98,3,j,Ct,trkFld 19 20 (zTK j k) uo uc vo vc⟩,.obj true (symRows true 3 (tkR (zTK j k)) uo uc),.obj true (symRows true 3 (tkQ (zTK j k)) vo vc),.row ⟨true,Og,3,1,j,Cg,[fun i=>.int (p 2)]⟩]
theorem cnIB (c p:Nat→Int)(hb:Bool)(wo:Option Addr)(wn wc k:Nat)(bcf bpo bre bge bst:Nat)(F:Nat→SC)(R:Nat→Ch)(Ot:Option Addr)(Ct:Nat)(uo:Nat→Option Addr)(uc:Nat→Nat)(vo:Nat→Option Addr)(vc:Nat→Nat)(Og:Option Addr)(Cg:Nat)(j:Nat)(g:Nat→Value)(NX:List SV→List Ch→Prop)(kx:Exit→List SV→List Ch→Prop):(exCode Tryz.prog {tb:=[(42,sTrkNew k),(39,sBank)]} 400 (theLoop Tryz.f8 0) (cnIH c p hb wo wn wc k bcf bpo bre bge bst F R (.int (j:Int)) g) (cnIT c p hb wo wn wc k bcf bpo bre bge bst F R j Ot Ct uo uc vo vc Og Cg) (loopK NX kx))=(
 (fun a:SV=>(fun b:Int=>(fun d:SV=>(fun h:SV=>(fun l:List SC=>(fun m:SV=>(fun n:Ch=>(fun o:Bool=>(fun q:Ch=>(fun r:Ch=>(fun s:Ch=>(fun t:Ch=>bge=bge∧(o=true→bcf=bcf∧(isN (c 24) k 16∧is16 k)∧∀ u v w:Nat,(fun x:List SC=>(fun y:SV=>(fun z:SV=>w=w∧bst=bst∧w=w∧∀ B:Nat,(Ot=Ot∧j=j∧Ct=Ct∧B=B∧(∀ C:Nat,true=true)∧apC j 1 56)∧∀(C:Option Addr) (D:Nat),bst=bst∧bst=bst∧bpo=bpo∧∀ E:Nat,(Og=Og∧j=j∧Cg=Cg∧E=E∧(∀ G:Nat,true=true)∧apC j 1 8)∧∀(G:Option Addr) (H:Nat),bst=bst∧rng (((j:Nat):Int)+(1:Int))∧NX [vV (g 0),vV (g 1),pV 1 bcf 0,pV 2 bpo 0,pV 3 bre 0,fV,pV 4 bge 0,pV 5 bst 0,h,pV 24 w 0,tV,vV (g 11),vV (g 12),vV (g 13),vV (g 14),vV (g 15),vV (g 16),vV (g 17),vV (g 18),vV (g 19),vV (g 20),vV (g 21),vV (g 22),vV (g 23),vV (g 24),vV (g 25),vV (g 26),vV (g 27),vV (g 28),vV (g 29),vV (g 30),vV (g 31),vV (g 32),vV (g 33),vV (g 34),vV (g 35),vV (g 36),vV (g 37),vV (g 38),vV (g 39),vV (g 40),vV (g 41),vV (g 42),vV (g 43),vV (g 44),vV (g 45),vV (g 46),vV (g 47),vV (g 48),vV (g 49),vV (g 50),vV (g 51),vV (g 52),vV (g 53),vV (g 54),vV (g 55),vV (g 56),vV (g 57),vV (g 58),vV (g 59),vV (g 60),vV (g 61),vV (g 62),vV (g 63),vV (g 64),vV (g 65),a,m,d,tV,a,h,z,pV 1 bcf 25,iV (c 24),z,y,tV,pV 5 bst 58,sV 18 Ot j Ct,y,cV 25 B 1 1,sV 26 C (j+1) D,pV 5 bst 58,pV 5 bst 59,sV 21 Og j Cg,pV 2 bpo 2,iV (p 2),cV 27 E 1 1,sV 28 G (j+1) H,pV 5 bst 59,vV (g 91)] [R 0,t,s,R 3,n,Hc bst 75 [F 0,F 1,F 2,F 3,F 4,F 5,F 6,F 7,F 8,F 9,F 10,F 11,F 12,F 13,F 14,F 15,F 16,F 17,F 18,F 19,F 20,F 21,F 22,F 23,F 24,F 25,F 26,F 27,F 28,F 29,F 30,F 31,F 32,F 33,F 34,F 35,F 36,F 37,F 38,F 39,F 40,F 41,F 42,F 43,F 44,F 45,F 46,F 47,F 48,F 49,F 50,F 51,F 52,F 53,F 54,F 55,F 56,F 57,Cs 26 C (j+1) D,Cs 28 G (j+1) H,F 60,F 61,F 62,F 63,F 64,F 65,F 66,F 67,F 68,F 69,F 70,F 71,F 72,F 73,F 74],R 6,R 7,R 8,R 9,R 10,R 11,R 12,R 13,R 14,R 15,R 16,R 17,Hd,r,q,Hd,Hr true (Ad u 0) 3 1 k k [fun I=>Ci (-1)],Hr true (Ad v 0) 3 1 k k [fun I=>Cl 0],Hc w 98 x,Hc B 98 x,Hr true C 98 3 (j+1) D [fun I=>Cv (if I<j then (Ws (uo I) k (uc I)) else (Ws (Ad u 0) k k)),fun I=>Cv (if I<j then (Ws (vo I) k (vc I)) else (Ws (Ad v 0) k k)),fun I=>Ci (if I<j then (0:Int) else (0:Int))],Hc E 3 [Ci (p 2)],Hr true G 3 1 (j+1) H [fun I=>Ci (if I<j then (p 2) else (p 2))]]) (uV [Ag x,At])) (aV x)) [Cs 22 (Ad u 0) k k,Cs 23 (Ad v 0) k k,Cl 0])∧(o=false→kx (Exit.exit 0) [vV (g 0),vV (g 1),pV 1 bcf 0,pV 2 bpo 0,pV 3 bre 0,fV,pV 4 bge 0,pV 5 bst 0,a,vV (g 9),vV (g 10),vV (g 11),vV (g 12),vV (g 13),vV (g 14),vV (g 15),vV (g 16),vV (g 17),vV (g 18),vV (g 19),vV (g 20),vV (g 21),vV (g 22),vV (g 23),vV (g 24),vV (g 25),vV (g 26),vV (g 27),vV (g 28),vV (g 29),vV (g 30),vV (g 31),vV (g 32),vV (g 33),vV (g 34),vV (g 35),vV (g 36),vV (g 37),vV (g 38),vV (g 39),vV (g 40),vV (g 41),vV (g 42),vV (g 43),vV (g 44),vV (g 45),vV (g 46),vV (g 47),vV (g 48),vV (g 49),vV (g 50),vV (g 51),vV (g 52),vV (g 53),vV (g 54),vV (g 55),vV (g 56),vV (g 57),vV (g 58),vV (g 59),vV (g 60),vV (g 61),vV (g 62),vV (g 63),vV (g 64),vV (g 65),a,m,d,fV,vV (g 70),vV (g 71),vV (g 72),vV (g 73),vV (g 74),vV (g 75),vV (g 76),vV (g 77),vV (g 78),vV (g 79),vV (g 80),vV (g 81),vV (g 82),vV (g 83),vV (g 84),vV (g 85),vV (g 86),vV (g 87),vV (g 88),vV (g 89),vV (g 90),vV (g 91)] [R 0,t,s,R 3,n,Hc bst 75 [F 0,F 1,F 2,F 3,F 4,F 5,F 6,F 7,F 8,F 9,F 10,F 11,F 12,F 13,F 14,F 15,F 16,F 17,F 18,F 19,F 20,F 21,F 22,F 23,F 24,F 25,F 26,F 27,F 28,F 29,F 30,F 31,F 32,F 33,F 34,F 35,F 36,F 37,F 38,F 39,F 40,F 41,F 42,F 43,F 44,F 45,F 46,F 47,F 48,F 49,F 50,F 51,F 52,F 53,F 54,F 55,F 56,F 57,Cs 18 Ot j Ct,Cs 21 Og j Cg,F 60,F 61,F 62,F 63,F 64,F 65,F 66,F 67,F 68,F 69,F 70,F 71,F 72,F 73,F 74],R 6,R 7,R 8,R 9,R 10,R 11,R 12,R 13,R 14,R 15,R 16,R 17,Hr true Ot 98 3 j Ct [fun u=>Cs 19 (uo u) k (uc u),fun u=>Cs 20 (vo u) k (vc u),fun u=>Ci 0],r,q,Hr true Og 3 1 j Cg [fun u=>Ci (p 2)]])) (Hc bcf 43 [Ci (c 0),Ci (c 1),Ci (c 2),Ci (c 3),Ci (c 4),Ci (c 5),Ci (c 6),Ci (c 7),Ci (c 8),Ci (c 9),Ci (c 10),Ci (c 11),Ci (c 12),Ci (c 13),Ci (c 14),Ci (c 15),Ci (c 16),Ci (c 17),Ci (c 18),Ci (c 19),Ci (c 20),Ci (c 21),Cb hb,Ci (c 22),Ci (c 23),Ci (c 24),Ci (c 25),Ci (c 26)])) (Hc bpo 46 [Ci (p 0),Ci (p 1),Ci (p 2),Ci (p 3),Ci (p 4),Cs 0 wo wn wc,Ci (p 5),Ci (p 6)])) (Ho true (symRows true 3 (CD.mk j (fun r=>k) (fun r=>fun s=>((-1):Int)) (fun r=>false)) uo uc))) (Ho true (symRows true 3 (CD.mk j (fun q=>k) (fun q=>fun r=>(0:Int)) (fun q=>false)) vo vc))) (decide (((j:Nat):Int)<b))) (Hc bge 38 l)) (aV l)) [Ci (c 0),Ci (c 1),Ci (c 2),Ci (c 3)]) (iV (((j:Nat):Int)+(1:Int)))) (iV b)) (bankN (c 0) (c 1) (c 2) (c 3))) (iV ((j:Nat):Int))):=by kernel_rfl
def scnI (c p:Nat→Int)(hb:Bool)(wo:Option Addr)(wn wc k N:Nat):LSm:=fun ts ch kk=>∃ (bcf bpo bre bge bst:Nat),(ts.map SV.den=(cnIH c p hb wo wn wc k bcf bpo bre bge bst (cellF ch 5) (pieceF ch) (.il 0) (fun d=>(ts.getD d .undef).den)).map SV.den∧ch=cnIE c p hb wo wn wc k bcf bpo bre bge bst (cellF ch 5) (pieceF ch)) ∧
  ∀ (g:Nat→Value) (Ot:Option Addr) (Ct:Nat) (uo:Nat→Option Addr) (uc:Nat→Nat) (vo:Nat→Option Addr) (vc:Nat→Nat) (Og:Option Addr) (Cg:Nat),kk (.exit 0) (cnIH c p hb wo wn wc k bcf bpo bre bge bst (cellF ch 5) (pieceF ch) (.int (N:Int)) g) (cnIT c p hb wo wn wc k bcf bpo bre bge bst (cellF ch 5) (pieceF ch) N Ot Ct uo uc vo vc Og Cg)
theorem scnI_ok (c p:Nat→Int)(hb:Bool)(wo:Option Addr)(wn wc k N:Nat)(hN:bankN (c 0) (c 1) (c 2) (c 3)=(N:Int))(h8:N≤8)(hk:c 24=(k:Int))(hk16:1≤k∧k≤16)(X:Cx):LoopOK Tryz.prog X (theLoop Tryz.f8 0) (scnI c p hb wo wn wc k N):=by
 intro ts ch kk a w hS hT hd hs
 obtain ⟨bcf,bpo,bre,bge,bst,⟨h1,hch⟩,hkk⟩:=hS
 generalize cellF ch 5=F at h1 hch hkk
 generalize pieceF ch=R at h1 hch hkk
 refine loop_ok mixed (E:={tb:=[(42,sTrkNew k),(39,sBank)]}) ⟨sTrkNew_I k,sBank_I,trivial⟩ (loopsOK_nil _ _ _) 400 N (fun j ts ch=>∃ g Ot Ct uo uc vo vc Og Cg,ts=cnIH c p hb wo wn wc k bcf bpo bre bge bst F R (.int (j:Int)) g∧ch=cnIT c p hb wo wn wc k bcf bpo bre bge bst F R j Ot Ct uo uc vo vc Og Cg) ?_ ?_ hT hd hs
 ·rintro j _ _ ⟨g,Ot,Ct,uo,uc,vo,vc,Og,Cg,rfl,rfl⟩ hj
  refine @Eq.mpr _ _ (cnIB c p hb wo wn wc k bcf bpo bre bge bst F R Ot Ct uo uc vo vc Og Cg j g _ _) ?_
  dsimp -zeta -proj -iota -eta -failIfUnchanged (etaStruct:=.none) only
  have hi16:isN (c 24) k 16:=⟨hk,hk16.2⟩
  have hi17:is16 k:=hk16
  rw [hN]
  by_cases hlt:j<N
  ·repeat' (first
    | with_reducible exact rfl
    | exact True.intro
    | with_reducible assumption
    | (show Next _ _ _ _;rename_i br bd bx by' ao cp bz ag cg;refine Next.mk (fun g=>cnIH c p hb wo wn wc k bcf bpo bre bge bst F R (.int ((j+1:Nat):Int)) g) (cnIT c p hb wo wn wc k bcf bpo bre bge bst F R (j+1) ao cp (fun i=>if i<j then uo i else some ⟨br,0,none⟩) (fun i=>if i<j then uc i else k) (fun i=>if i<j then vo i else some ⟨bd,0,none⟩) (fun i=>if i<j then vc i else k) ag cg) ⟨_,_,_,_,_,_,_,_,_,rfl,rfl⟩ rfl fun w hw=>ReE.hs (l:=[0,1,2,3,4,5,6,7,8,9,10,11,12,13,14,15,16,17,26,19,20,28]) ?_ rfl (((hw.re 23 _ rfl [fun i=>.int 0] ⟨fun i hi=>rfl,trivial⟩).nestApp 19 22 rfl rfl rfl (by decide)).nestApp 20 23 rfl rfl rfl (by decide)))
    | refine And.intro ?_ ?_
    | (intro h;replace h:=of_decide_eq_true h;first | (exfalso;omega) | skip)
    | (intro h;replace h:=of_decide_eq_false h;first | (exfalso;omega) | skip)
    | (show rng _;simp only [rng];omega)
    | (intro i hi;rfl)
    | intro _
    | omega
    | (simp;omega))
   all_goals
    repeat' (show _;first
     | with_reducible exact True.intro
     | with_reducible exact .inl rfl
     | exact .inr ⟨rfl,zTK_R⟩
     | exact .inr ⟨rfl,zTK_Q⟩
     | exact .inr ⟨rfl,rfl,rfl⟩
     | exact .inr ⟨rfl,rfl,rfl,rfl,rfl,rfl,push_hd,push_hd,push_sp,trivial⟩
     | exact .inr ⟨rfl,rfl,rfl,rfl,rfl,rfl,push_li,trivial⟩
     | refine And.intro ?_ ?_
     | exact True.intro)
  ·have hjn:j=N:=by omega
   subst hjn
   repeat' (first
    | with_reducible exact rfl
    | exact True.intro
    | with_reducible assumption
    | (refine Next.mk (fun g=>cnIH c p hb wo wn wc k bcf bpo bre bge bst F R (.int (j:Int)) g) _ (hkk _ _ _ _ _ _ _ _ _) rfl fun w hw=>hw)
    | refine And.intro ?_ ?_
    | (intro h;replace h:=of_decide_eq_true h;first | (exfalso;omega) | skip)
    | (intro h;replace h:=of_decide_eq_false h;first | (exfalso;omega) | skip)
    | intro _
    | omega)
 ·subst hch
  exact Next.mk (fun g=>cnIH c p hb wo wn wc k bcf bpo bre bge bst F R (.int ((0:Nat):Int)) g) (cnIT c p hb wo wn wc k bcf bpo bre bge bst F R 0 none 0 (fun _=>none) (fun _=>0) (fun _=>none) (fun _=>0) none 0) ⟨_,_,_,_,_,_,_,_,_,rfl,rfl⟩ h1 fun w hw=>ReE.hs (l:=[0,1,2,3,4,5,6,7,8,9,10,11,12,13,14,15,16,17,18,19,20,21]) (by
   repeat' (show _;first
    | with_reducible exact True.intro
    | with_reducible exact .inl rfl
    | exact .inr ⟨rfl,rfl⟩
    | exact .inr ⟨rfl,rfl,rfl⟩
    | exact .inr ⟨rfl,rfl,rfl,rfl,rfl,rfl,fun i hi=>rfl,fun i hi=>rfl,fun i hi=>rfl,trivial⟩
    | exact .inr ⟨rfl,rfl,rfl,rfl,rfl,rfl,fun i hi=>rfl,trivial⟩
    | refine And.intro ?_ ?_
    | exact True.intro)) rfl ((((hw.addNil ⟨true,none,98,3,0,0,trkFld 19 20 (zTK 0 k) (fun _=>none) (fun _=>0) (fun _=>none) (fun _=>0)⟩ rfl rfl rfl rfl rfl).addNest).addNest).addNil ⟨true,none,3,1,0,0,[fun i=>.int (p 2)]⟩ rfl rfl rfl rfl rfl)
def scnIw (c p:Nat→Int)(hb:Bool)(wo:Option Addr)(wn wc k N:Nat):LSm:=fun ts ch kk=>cnF c N k∧scnI c p hb wo wn wc k N ts ch kk
theorem scnIw_ok (c p:Nat→Int)(hb:Bool)(wo:Option Addr)(wn wc k N:Nat)(X:Cx):LoopOK Tryz.prog X (theLoop Tryz.f8 0) (scnIw c p hb wo wn wc k N):=by
 rintro ts ch kk a w ⟨⟨h1,h2,h3,h4⟩,hS⟩ hT hd hs
 exact scnI_ok c p hb wo wn wc k N h1 h2 h3 h4 X ts ch kk a w hS hT hd hs
def cnSH (c p:Nat→Int)(hb:Bool)(wo:Option Addr)(wn wc k:Nat)(bcf bpo bre bst:Nat)(F:Nat→SC)(R:Nat→Ch)(i:SC)(g:Nat→Value):List SV:=hdN [(2,.a (.c (.ptr 1 bcf 0))),(3,.a (.c (.ptr 2 bpo 0))),(4,.a (.c (.ptr 3 bre 0))),(5,.a (.c (.lit false))),(6,.a (.c (.ptr 4 bst 0))),(7,.a (.c (.int (bankN (c 0) (c 1) (c 2) (c 3))))),(8,.a (.c i))] g 0 95
def cnSE (c p:Nat→Int)(hb:Bool)(wo:Option Addr)(wn wc k:Nat)(bcf bpo bre bst:Nat)(F:Nat→SC)(R:Nat→Ch):List Ch:=[R 0,.cells bcf 43 [.int (c 0),.int (c 1),.int (c 2),.int (c 3),.int (c 4),.int (c 5),.int (c 6),.int (c 7),.int (c 8),.int (c 9),.int (c 10),.int (c 11),.int (c 12),.int (c 13),.int (c 14),.int (c 15),.int (c 16),.int (c 17),.int (c 18),.int (c 19),.int (c 20),.int (c 21),.bool hb,.int (c 22),.int (c 23),.int (c 24),.int (c 25),.int (c 26)],.cells bpo 46 [.int (p 0),.int (p 1),.int (p 2),.int (p 3),.int (p 4),.sl 0 wo wn wc,.int (p 5),.int (p 6)],R 3,.cells bst 75 [F 0,F 1,F 2,F 3,F 4,F 5,F 6,F 7,F 8,F 9,F 10,F 11,F 12,F 13,F 14,F 15,F 16,F 17,F 18,F 19,F 20,F 21,F 22,F 23,F 24,F 25,F 26,F 27,F 28,F 29,F 30,F 31,F 32,F 33,F 34,F 35,F 36,F 37,F 38,F 39,F 40,F 41,F 42,F 43,F 44,F 45,F 46,F 47,F 48,F 49,F 50,F 51,F 52,F 53,F 54,F 55,F 56,F 57,.nil,.nil,F 60,F 61,F 62,F 63,F 64,F 65,F 66,F 67,F 68,F 69,F 70,F 71,F 72,F 73,F 74],R 5,R 6,R 7,R 8,R 9,R 10,R 11,R 12,R 13,R 14]
def cnST (c p:Nat→Int)(hb:Bool)(wo:Option Addr)(wn wc k:Nat)(bcf bpo bre bst:Nat)(F:Nat→SC)(R:Nat→Ch)(j:Nat)(Ot:Option Addr)(Ct:Nat)(uo:Nat→Option Addr)(uc:Nat→Nat)(vo:Nat→Option Addr)(vc:Nat→Nat)(Og:Option Addr)(Cg:Nat):List Ch:=[R 0,.cells bcf 43 [.int (c 0),.int (c 1),.int (c 2),.int (c 3),.int (c 4),.int (c 5),.int (c 6),.int (c 7),.int (c 8),.int (c 9),.int (c 10),.int (c 11),.int (c 12),.int (c 13),.int (c 14),.int (c 15),.int (c 16),.int (c 17),.int (c 18),.int (c 19),.int (c 20),.int (c 21),.bool hb,.int (c 22),.int (c 23),.int (c 24),.int (c 25),.int (c 26)],.cells bpo 46 [.int (p 0),.int (p 1),.int (p 2),.int (p 3),.int (p 4),.sl 0 wo wn wc,.int (p 5),.int (p 6)],R 3,.cells bst 75 [F 0,F 1,F 2,F 3,F 4,F 5,F 6,F 7,F 8,F 9,F 10,F 11,F 12,F 13,F 14,F 15,F 16,F 17,F 18,F 19,F 20,F 21,F 22,F 23,F 24,F 25,F 26,F 27,F 28,F 29,F 30,F 31,F 32,F 33,F 34,F 35,F 36,F 37,F 38,F 39,F 40,F 41,F 42,F 43,F 44,F 45,F 46,F 47,F 48,F 49,F 50,F 51,F 52,F 53,F 54,F 55,F 56,F 57,.sl 15 Ot j Ct,.sl 18 Og j Cg,F 60,F 61,F 62,F 63,F 64,F 65,F 66,F 67,F 68,F 69,F 70,F 71,F 72,F 73,F 74],R 5,R 6,R 7,R 8,R 9,R 10,R 11,R 12,R 13,R 14,.row ⟨true,Ot,98,3,j,Ct,trkFld 16 17 (zTK j k) uo uc vo vc⟩,.obj true (symRows true 3 (tkR (zTK j k)) uo uc),.obj true (symRows true 3 (tkQ (zTK j k)) vo vc),.row ⟨true,Og,3,1,j,Cg,[fun i=>.int (p 2)]⟩]
theorem cnSB (c p:Nat→Int)(hb:Bool)(wo:Option Addr)(wn wc k:Nat)(bcf bpo bre bst:Nat)(F:Nat→SC)(R:Nat→Ch)(Ot:Option Addr)(Ct:Nat)(uo:Nat→Option Addr)(uc:Nat→Nat)(vo:Nat→Option Addr)(vc:Nat→Nat)(Og:Option Addr)(Cg:Nat)(j:Nat)(g:Nat→Value)(NX:List SV→List Ch→Prop)(kx:Exit→List SV→List Ch→Prop):(exCode Tryz.prog {tb:=[(23,sTrkNew k)]} 400 (theLoop Tryz.f5 0) (cnSH c p hb wo wn wc k bcf bpo bre bst F R (.int (j:Int)) g) (cnST c p hb wo wn wc k bcf bpo bre bst F R j Ot Ct uo uc vo vc Og Cg) (loopK NX kx))=(
 (fun a:SV=>(fun b:Int=>(fun d:SV=>(fun h:SV=>(fun l:Bool=>(fun m:Ch=>(fun n:Ch=>(fun o:Ch=>(fun q:Ch=>(l=true→bcf=bcf∧(isN (c 24) k 16∧is16 k)∧∀ r s t:Nat,(fun u:List SC=>(fun v:SV=>(fun w:SV=>t=t∧bst=bst∧t=t∧∀ x:Nat,(Ot=Ot∧j=j∧Ct=Ct∧x=x∧(∀ y:Nat,true=true)∧apC j 1 56)∧∀(y:Option Addr) (z:Nat),bst=bst∧bst=bst∧bpo=bpo∧∀ B:Nat,(Og=Og∧j=j∧Cg=Cg∧B=B∧(∀ C:Nat,true=true)∧apC j 1 8)∧∀(C:Option Addr) (D:Nat),bst=bst∧rng (((j:Nat):Int)+(1:Int))∧NX [vV (g 0),vV (g 1),pV 1 bcf 0,pV 2 bpo 0,pV 3 bre 0,fV,pV 4 bst 0,h,d,pV 21 t 0,tV,vV (g 11),vV (g 12),vV (g 13),vV (g 14),vV (g 15),vV (g 16),vV (g 17),vV (g 18),vV (g 19),vV (g 20),vV (g 21),vV (g 22),vV (g 23),vV (g 24),vV (g 25),vV (g 26),vV (g 27),vV (g 28),vV (g 29),vV (g 30),vV (g 31),vV (g 32),vV (g 33),vV (g 34),vV (g 35),vV (g 36),vV (g 37),vV (g 38),vV (g 39),vV (g 40),vV (g 41),vV (g 42),vV (g 43),vV (g 44),vV (g 45),vV (g 46),vV (g 47),vV (g 48),vV (g 49),vV (g 50),vV (g 51),vV (g 52),vV (g 53),vV (g 54),vV (g 55),vV (g 56),vV (g 57),a,h,tV,a,d,w,pV 1 bcf 25,iV (c 24),w,v,tV,pV 4 bst 58,sV 15 Ot j Ct,v,cV 22 x 1 1,sV 23 y (j+1) z,pV 4 bst 58,pV 4 bst 59,sV 18 Og j Cg,pV 2 bpo 2,iV (p 2),cV 24 B 1 1,sV 25 C (j+1) D,pV 4 bst 59,vV (g 82),vV (g 83),vV (g 84),vV (g 85),vV (g 86),vV (g 87),vV (g 88),vV (g 89),vV (g 90),vV (g 91),vV (g 92),vV (g 93),vV (g 94)] [R 0,q,o,R 3,Hc bst 75 [F 0,F 1,F 2,F 3,F 4,F 5,F 6,F 7,F 8,F 9,F 10,F 11,F 12,F 13,F 14,F 15,F 16,F 17,F 18,F 19,F 20,F 21,F 22,F 23,F 24,F 25,F 26,F 27,F 28,F 29,F 30,F 31,F 32,F 33,F 34,F 35,F 36,F 37,F 38,F 39,F 40,F 41,F 42,F 43,F 44,F 45,F 46,F 47,F 48,F 49,F 50,F 51,F 52,F 53,F 54,F 55,F 56,F 57,Cs 23 y (j+1) z,Cs 25 C (j+1) D,F 60,F 61,F 62,F 63,F 64,F 65,F 66,F 67,F 68,F 69,F 70,F 71,F 72,F 73,F 74],R 5,R 6,R 7,R 8,R 9,R 10,R 11,R 12,R 13,R 14,Hd,n,m,Hd,Hr true (Ad r 0) 3 1 k k [fun E=>Ci (-1)],Hr true (Ad s 0) 3 1 k k [fun E=>Cl 0],Hc t 98 u,Hc x 98 u,Hr true y 98 3 (j+1) z [fun E=>Cv (if E<j then (Ws (uo E) k (uc E)) else (Ws (Ad r 0) k k)),fun E=>Cv (if E<j then (Ws (vo E) k (vc E)) else (Ws (Ad s 0) k k)),fun E=>Ci (if E<j then (0:Int) else (0:Int))],Hc B 3 [Ci (p 2)],Hr true C 3 1 (j+1) D [fun E=>Ci (if E<j then (p 2) else (p 2))]]) (uV [Ag u,At])) (aV u)) [Cs 19 (Ad r 0) k k,Cs 20 (Ad s 0) k k,Cl 0])∧(l=false→kx (Exit.exit 0) [vV (g 0),vV (g 1),pV 1 bcf 0,pV 2 bpo 0,pV 3 bre 0,fV,pV 4 bst 0,h,a,vV (g 9),vV (g 10),vV (g 11),vV (g 12),vV (g 13),vV (g 14),vV (g 15),vV (g 16),vV (g 17),vV (g 18),vV (g 19),vV (g 20),vV (g 21),vV (g 22),vV (g 23),vV (g 24),vV (g 25),vV (g 26),vV (g 27),vV (g 28),vV (g 29),vV (g 30),vV (g 31),vV (g 32),vV (g 33),vV (g 34),vV (g 35),vV (g 36),vV (g 37),vV (g 38),vV (g 39),vV (g 40),vV (g 41),vV (g 42),vV (g 43),vV (g 44),vV (g 45),vV (g 46),vV (g 47),vV (g 48),vV (g 49),vV (g 50),vV (g 51),vV (g 52),vV (g 53),vV (g 54),vV (g 55),vV (g 56),vV (g 57),a,h,fV,vV (g 61),vV (g 62),vV (g 63),vV (g 64),vV (g 65),vV (g 66),vV (g 67),vV (g 68),vV (g 69),vV (g 70),vV (g 71),vV (g 72),vV (g 73),vV (g 74),vV (g 75),vV (g 76),vV (g 77),vV (g 78),vV (g 79),vV (g 80),vV (g 81),vV (g 82),vV (g 83),vV (g 84),vV (g 85),vV (g 86),vV (g 87),vV (g 88),vV (g 89),vV (g 90),vV (g 91),vV (g 92),vV (g 93),vV (g 94)] [R 0,q,o,R 3,Hc bst 75 [F 0,F 1,F 2,F 3,F 4,F 5,F 6,F 7,F 8,F 9,F 10,F 11,F 12,F 13,F 14,F 15,F 16,F 17,F 18,F 19,F 20,F 21,F 22,F 23,F 24,F 25,F 26,F 27,F 28,F 29,F 30,F 31,F 32,F 33,F 34,F 35,F 36,F 37,F 38,F 39,F 40,F 41,F 42,F 43,F 44,F 45,F 46,F 47,F 48,F 49,F 50,F 51,F 52,F 53,F 54,F 55,F 56,F 57,Cs 15 Ot j Ct,Cs 18 Og j Cg,F 60,F 61,F 62,F 63,F 64,F 65,F 66,F 67,F 68,F 69,F 70,F 71,F 72,F 73,F 74],R 5,R 6,R 7,R 8,R 9,R 10,R 11,R 12,R 13,R 14,Hr true Ot 98 3 j Ct [fun r=>Cs 16 (uo r) k (uc r),fun r=>Cs 17 (vo r) k (vc r),fun r=>Ci 0],n,m,Hr true Og 3 1 j Cg [fun r=>Ci (p 2)]])) (Hc bcf 43 [Ci (c 0),Ci (c 1),Ci (c 2),Ci (c 3),Ci (c 4),Ci (c 5),Ci (c 6),Ci (c 7),Ci (c 8),Ci (c 9),Ci (c 10),Ci (c 11),Ci (c 12),Ci (c 13),Ci (c 14),Ci (c 15),Ci (c 16),Ci (c 17),Ci (c 18),Ci (c 19),Ci (c 20),Ci (c 21),Cb hb,Ci (c 22),Ci (c 23),Ci (c 24),Ci (c 25),Ci (c 26)])) (Hc bpo 46 [Ci (p 0),Ci (p 1),Ci (p 2),Ci (p 3),Ci (p 4),Cs 0 wo wn wc,Ci (p 5),Ci (p 6)])) (Ho true (symRows true 3 (CD.mk j (fun n=>k) (fun n=>fun o=>((-1):Int)) (fun n=>false)) uo uc))) (Ho true (symRows true 3 (CD.mk j (fun m=>k) (fun m=>fun n=>(0:Int)) (fun m=>false)) vo vc))) (decide (((j:Nat):Int)<b))) (iV b)) (iV (((j:Nat):Int)+(1:Int)))) (bankN (c 0) (c 1) (c 2) (c 3))) (iV ((j:Nat):Int))):=by kernel_rfl
def scnS (c p:Nat→Int)(hb:Bool)(wo:Option Addr)(wn wc k N:Nat):LSm:=fun ts ch kk=>∃ (bcf bpo bre bst:Nat),(ts.map SV.den=(cnSH c p hb wo wn wc k bcf bpo bre bst (cellF ch 4) (pieceF ch) (.il 0) (fun d=>(ts.getD d .undef).den)).map SV.den∧ch=cnSE c p hb wo wn wc k bcf bpo bre bst (cellF ch 4) (pieceF ch)) ∧
  ∀ (g:Nat→Value) (Ot:Option Addr) (Ct:Nat) (uo:Nat→Option Addr) (uc:Nat→Nat) (vo:Nat→Option Addr) (vc:Nat→Nat) (Og:Option Addr) (Cg:Nat),kk (.exit 0) (cnSH c p hb wo wn wc k bcf bpo bre bst (cellF ch 4) (pieceF ch) (.int (N:Int)) g) (cnST c p hb wo wn wc k bcf bpo bre bst (cellF ch 4) (pieceF ch) N Ot Ct uo uc vo vc Og Cg)
theorem scnS_ok (c p:Nat→Int)(hb:Bool)(wo:Option Addr)(wn wc k N:Nat)(hN:bankN (c 0) (c 1) (c 2) (c 3)=(N:Int))(h8:N≤8)(hk:c 24=(k:Int))(hk16:1≤k∧k≤16)(X:Cx):LoopOK Tryz.prog X (theLoop Tryz.f5 0) (scnS c p hb wo wn wc k N):=by
 intro ts ch kk a w hS hT hd hs
 obtain ⟨bcf,bpo,bre,bst,⟨h1,hch⟩,hkk⟩:=hS
 generalize cellF ch 4=F at h1 hch hkk
 generalize pieceF ch=R at h1 hch hkk
 refine loop_ok mixed (E:={tb:=[(23,sTrkNew k)]}) ⟨sTrkNew_S k,trivial⟩ (loopsOK_nil _ _ _) 400 N (fun j ts ch=>∃ g Ot Ct uo uc vo vc Og Cg,ts=cnSH c p hb wo wn wc k bcf bpo bre bst F R (.int (j:Int)) g∧ch=cnST c p hb wo wn wc k bcf bpo bre bst F R j Ot Ct uo uc vo vc Og Cg) ?_ ?_ hT hd hs
 ·rintro j _ _ ⟨g,Ot,Ct,uo,uc,vo,vc,Og,Cg,rfl,rfl⟩ hj
  refine @Eq.mpr _ _ (cnSB c p hb wo wn wc k bcf bpo bre bst F R Ot Ct uo uc vo vc Og Cg j g _ _) ?_
  dsimp -zeta -proj -iota -eta -failIfUnchanged (etaStruct:=.none) only
  have hi16:isN (c 24) k 16:=⟨hk,hk16.2⟩
  have hi17:is16 k:=hk16
  skip
  by_cases hlt:j<N
  ·repeat' (first
    | with_reducible exact rfl
    | exact True.intro
    | with_reducible assumption
    | (show Next _ _ _ _;rename_i br bd bx by' ao cp bz ag cg;refine Next.mk (fun g=>cnSH c p hb wo wn wc k bcf bpo bre bst F R (.int ((j+1:Nat):Int)) g) (cnST c p hb wo wn wc k bcf bpo bre bst F R (j+1) ao cp (fun i=>if i<j then uo i else some ⟨br,0,none⟩) (fun i=>if i<j then uc i else k) (fun i=>if i<j then vo i else some ⟨bd,0,none⟩) (fun i=>if i<j then vc i else k) ag cg) ⟨_,_,_,_,_,_,_,_,_,rfl,rfl⟩ rfl fun w hw=>ReE.hs (l:=[0,1,2,3,4,5,6,7,8,9,10,11,12,13,14,23,16,17,25]) ?_ rfl (((hw.re 20 _ rfl [fun i=>.int 0] ⟨fun i hi=>rfl,trivial⟩).nestApp 16 19 rfl rfl rfl (by decide)).nestApp 17 20 rfl rfl rfl (by decide)))
    | refine And.intro ?_ ?_
    | (intro h;replace h:=of_decide_eq_true h;first | (exfalso;omega) | skip)
    | (intro h;replace h:=of_decide_eq_false h;first | (exfalso;omega) | skip)
    | (show rng _;simp only [rng];omega)
    | (intro i hi;rfl)
    | intro _
    | omega
    | (simp;omega))
   all_goals
    repeat' (show _;first
     | with_reducible exact True.intro
     | with_reducible exact .inl rfl
     | exact .inr ⟨rfl,zTK_R⟩
     | exact .inr ⟨rfl,zTK_Q⟩
     | exact .inr ⟨rfl,rfl,rfl⟩
     | exact .inr ⟨rfl,rfl,rfl,rfl,rfl,rfl,push_hd,push_hd,push_sp,trivial⟩
     | exact .inr ⟨rfl,rfl,rfl,rfl,rfl,rfl,push_li,trivial⟩
     | refine And.intro ?_ ?_
     | exact True.intro)
  ·have hjn:j=N:=by omega
   subst hjn
   repeat' (first
    | with_reducible exact rfl
    | exact True.intro
    | with_reducible assumption
    | (refine Next.mk (fun g=>cnSH c p hb wo wn wc k bcf bpo bre bst F R (.int (j:Int)) g) _ (hkk _ _ _ _ _ _ _ _ _) rfl fun w hw=>hw)
    | refine And.intro ?_ ?_
    | (intro h;replace h:=of_decide_eq_true h;first | (exfalso;omega) | skip)
    | (intro h;replace h:=of_decide_eq_false h;first | (exfalso;omega) | skip)
    | intro _
    | omega)
 ·subst hch
  exact Next.mk (fun g=>cnSH c p hb wo wn wc k bcf bpo bre bst F R (.int ((0:Nat):Int)) g) (cnST c p hb wo wn wc k bcf bpo bre bst F R 0 none 0 (fun _=>none) (fun _=>0) (fun _=>none) (fun _=>0) none 0) ⟨_,_,_,_,_,_,_,_,_,rfl,rfl⟩ h1 fun w hw=>ReE.hs (l:=[0,1,2,3,4,5,6,7,8,9,10,11,12,13,14,15,16,17,18]) (by
   repeat' (show _;first
    | with_reducible exact True.intro
    | with_reducible exact .inl rfl
    | exact .inr ⟨rfl,rfl⟩
    | exact .inr ⟨rfl,rfl,rfl⟩
    | exact .inr ⟨rfl,rfl,rfl,rfl,rfl,rfl,fun i hi=>rfl,fun i hi=>rfl,fun i hi=>rfl,trivial⟩
    | exact .inr ⟨rfl,rfl,rfl,rfl,rfl,rfl,fun i hi=>rfl,trivial⟩
    | refine And.intro ?_ ?_
    | exact True.intro)) rfl ((((hw.addNil ⟨true,none,98,3,0,0,trkFld 16 17 (zTK 0 k) (fun _=>none) (fun _=>0) (fun _=>none) (fun _=>0)⟩ rfl rfl rfl rfl rfl).addNest).addNest).addNil ⟨true,none,3,1,0,0,[fun i=>.int (p 2)]⟩ rfl rfl rfl rfl rfl)
def scnSw (c p:Nat→Int)(hb:Bool)(wo:Option Addr)(wn wc k N:Nat):LSm:=fun ts ch kk=>cnF c N k∧scnS c p hb wo wn wc k N ts ch kk
theorem scnSw_ok (c p:Nat→Int)(hb:Bool)(wo:Option Addr)(wn wc k N:Nat)(X:Cx):LoopOK Tryz.prog X (theLoop Tryz.f5 0) (scnSw c p hb wo wn wc k N):=by
 rintro ts ch kk a w ⟨⟨h1,h2,h3,h4⟩,hS⟩ hT hd hs
 exact scnS_ok c p hb wo wn wc k N h1 h2 h3 h4 X ts ch kk a w hS hT hd hs
end Go.Proofs.YtbhfabaofhhkeaaGreat

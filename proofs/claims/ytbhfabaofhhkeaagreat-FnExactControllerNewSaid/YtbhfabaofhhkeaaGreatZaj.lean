/-
  FnExactControllerNew: a part of the walk (merged and squeezed by program: SxN1).
-/
import Derived.Test.YtbhfabaofhhkeaaGreatZah
namespace Go.Proofs.YtbhfabaofhhkeaaGreat
set_option linter.unusedVariables false
set_option linter.unusedSimpArgs false
open Go.RowKit
set_option maxRecDepth 100000
set_option maxHeartbeats 8000000
abbrev is16 (n:Nat):Prop:=1≤n∧n≤16
abbrev inZ2 (z:Int):Prop:=0≤z∧z<4294967296
theorem wrapU_id {z:Int}(h0:0≤z)(h1:z<4294967296):wrapU z=z:=by
 obtain ⟨n,rfl⟩:∃ n:Nat,z=(n:Int):=⟨z.toNat,by omega⟩
 simp [wrapU,IntKind.wrap,IntKind.bits,IntKind.signed]
 omega
theorem and_low {z:Int}(h0:0≤z)(h1:z<4294967296):bitsU .and z 4294967295=z:=by
 obtain ⟨n,rfl⟩:∃ n:Nat,z=(n:Int):=⟨z.toNat,by omega⟩
 have hn:n<2 ^ 32:=by omega
 have e:n &&& 4294967295=n:=by
  have:=Nat.and_two_pow_sub_one_eq_mod n 32
  rw [Nat.mod_eq_of_lt hn] at this
  exact this
 have b1:n % 2 ^ IntKind.u64.bits=n:=Nat.mod_eq_of_lt (by show n<2 ^ 64;omega)
 have b2:4294967295 % 2 ^ IntKind.u64.bits=4294967295:=rfl
 simp [bitsU,bits]
 rw [b1,b2,e]
 exact wrapU_id (by omega) h1
theorem mulA_T (y:Int):(exFn Tryz.prog {} 400 Tryz.f150 ([.a (.c (.ul 1)),.a (.c (.u64 y))]) ([]) (fun v _=>v.den=.tuple #[.int .u64 0,.int .u64 y]))=(
 ∀ b:Int,b=(bitsU BinOp.and (1:Int) (4294967295:Int))→∀ d:Int,d=((1:Int) / (4294967296:Int))→∀ g:Int,g=(bitsU BinOp.and y (4294967295:Int))→∀ h:Int,h=(y / (4294967296:Int))→∀ j:Int,j=(wrapU (b*g))→∀ k:Int,k=(wrapU (d*g))→∀ l:Int,l=(j / (4294967296:Int))→∀ m:Int,m=(wrapU (k+l))→∀ n:Int,n=(bitsU BinOp.and m (4294967295:Int))→∀ o:Int,o=(m / (4294967296:Int))→∀ p:Int,p=(wrapU (b*h))→∀ q:Int,q=(wrapU (n+p))→∀ r:Int,r=(wrapU (d*h))→∀ s:Int,s=(wrapU (r+o))→∀ t:Int,t=(q / (4294967296:Int))→∀ u:Int,u=(wrapU (s+t))→∀ w:Int,w=(wrapU ((1:Int)*y))→(Wu [Value.int IntKind.u64 u,Value.int IntKind.u64 w])=(Wu [Value.int IntKind.u64 (0:Int),Value.int IntKind.u64 y])):=by kernel_rfl
theorem mulA_any (y:Int)(w:World)(h0:0≤y)(h1:y<4294967296):Calls Tryz.prog 150 #[.int .u64 1,.int .u64 y] w fun e w'=>e=.returned (.tuple #[.int .u64 0,.int .u64 y])∧Below w.heap.size w w':=by
 refine fnB (tb:=[]) trivial Tryz.func150 (@Eq.mpr _ _ (mulA_T y) ?_) (HS.start w (fun _=>False)) (fun v ch' w' hk hs=>⟨by rw [hk],hs.below⟩)
 have e1:y / 4294967296=0:=Int.ediv_eq_zero_of_lt h0 h1
 have u0:wrapU 0=0:=wrapU_id (by omega) (by omega)
 have uy:wrapU y=y:=wrapU_id h0 h1
 have a0:bitsU .and 0 4294967295=0:=and_low (by omega) (by omega)
 have a1:bitsU .and 1 4294967295=1:=and_low (by omega) (by omega)
 have ay:bitsU .and y 4294967295=y:=and_low h0 h1
 have d1:(1:Int) / 4294967296=0:=by decide
 have d0:(0:Int) / 4294967296=0:=by decide
 intro z0 q0 z1 q1 z2 q2 z3 q3 z4 q4 z5 q5 z6 q6 z7 q7 z8 q8 z9 q9 z10 q10 z11 q11 z12 q12 z13 q13 z14 q14 z15 q15 z16 q16
 rw [a1] at q0
 rw [d1] at q1
 rw [ay] at q2
 rw [e1] at q3
 subst q0 q1 q2 q3
 rw [Int.one_mul,uy] at q4
 rw [Int.zero_mul,u0] at q5
 subst q4 q5
 rw [e1] at q6
 subst q6
 rw [Int.add_zero,u0] at q7
 subst q7
 rw [a0] at q8
 rw [d0] at q9
 rw [Int.mul_zero,u0] at q10
 subst q8 q9 q10
 rw [Int.add_zero,u0] at q11
 subst q11
 rw [Int.mul_zero,u0] at q12
 subst q12
 rw [Int.add_zero,u0] at q13
 rw [d0] at q14
 subst q13 q14
 rw [Int.add_zero,u0] at q15
 rw [Int.one_mul,uy] at q16
 subst q15 q16
 rfl
def sMulA:Sm:=fun args ch k =>
 match args with
 | [.a (.c x),.a (.c y)] =>
  match asU x,asU y with
  | some u,some z=>(u=1∧inZ2 z)∧k (.tup [.c (.ul 0),.c (.u64 z)]) ch []
  | _,_=>False
 | _=>False
theorem sMulA_ok:SmOK Tryz.prog 150 sMulA:=by
 refine smB Tryz.call150 fun args ch k w X h0 hs=>?_
 unfold sMulA at h0
 split at h0
 ·split at h0
  ·rename_i u z hu hz
   obtain ⟨⟨rfl,h1,h2⟩,h0⟩:=h0
   refine ⟨_,h0,?_⟩
   simp only [List.map_cons,List.map_nil,den_a,den_c,asU_den hz,asU_den hu]
   exact mulA_any z w h1 h2
  ·exact h0.elim
 ·exact h0.elim
def sMulB:Sm:=inlM Tryz.prog {tb:=[(150,sMulA)]} 300 Tryz.f140
theorem sMulB_ok:SmOK Tryz.prog 140 sMulB:=inlM_ok mixed (E:={tb:=[(150,sMulA)]}) ⟨sMulA_ok,trivial⟩ Tryz.func140 Tryz.call140 (fun _ _ _=>loopsOK_nil _ _ _)
def rpH (ao:Option Addr)(c0 k:Nat)(f:Nat→Int)(c:Nat)(i:SC)(g:Nat→Value):List SV:=hdN [(0,.a (.c (.sl 0 ao 1 c0))),(7,.a (.c (.sl 1 (some ⟨c,0,none⟩) k k))),(8,.a (.c i))] g 0 48
def srp (ao:Option Addr)(c0 k:Nat)(f:Nat→Int):LSm:=fun ts ch kk=>∃ c,(ts.map SV.den=(rpH ao c0 k f c (.il 1) (fun d=>(ts.getD d .undef).den)).map SV.den∧SelS ch [0,1] [.row ⟨false,ao,0,1,1,0,[fun i=>.int (f i)]⟩,.row ⟨true,some ⟨c,0,none⟩,3,1,k,k,[fun i=>.int (lowI i 1 (-1) 0)]⟩])∧∀ g,kk (.exit 0) (rpH ao c0 k f c (.int (k:Int)) g) [.row ⟨false,ao,0,1,1,0,[fun i=>.int (f i)]⟩,.row ⟨true,some ⟨c,0,none⟩,3,1,k,k,[fun i=>.int (-1)]⟩]
theorem rpB (ao:Option Addr)(c0 k:Nat)(f:Nat→Int)(c j:Nat)(g:Nat→Value)(NX:List SV→List Ch→Prop)(kx:Exit→List SV→List Ch→Prop):(exCode Tryz.prog {} 400 (theLoop Tryz.f108 0) (rpH ao c0 k f c (.int (j:Int)) g) ([.row ⟨false,ao,0,1,1,0,[fun i=>.int (f i)]⟩,.row ⟨true,some ⟨c,0,none⟩,3,1,k,k,[fun i=>.int (lowI i j (-1) 0)]⟩]) (loopK NX kx))=(
 (fun b:Option Addr=>(fun d:SV=>(fun h:SV=>(fun l:SV=>(fun m:SV=>(fun n:Ch=>(fun o:Bool=>(fun p:Prop=>(fun q:SV=>(fun r:Prop=>(fun s:List Ch=>(o=true→(r∧∀ t:Option Addr,vwC t b j (k-j)→True∧r∧∀ u:Option Addr,vwC u b 0 j→True∧((vwC u b 0 j∧(0+j)≤k)∧vwC t b j (k-j)∧p)∧True∧rng (((j:Nat):Int)+(((minN j (k-j)):Nat):Int))∧NX [sV 0 ao 1 c0,vV (g 1),vV (g 2),vV (g 3),vV (g 4),vV (g 5),vV (g 6),d,q,vV (g 9),vV (g 10),vV (g 11),vV (g 12),vV (g 13),vV (g 14),vV (g 15),vV (g 16),vV (g 17),vV (g 18),vV (g 19),vV (g 20),vV (g 21),vV (g 22),vV (g 23),vV (g 24),vV (g 25),vV (g 26),vV (g 27),vV (g 28),vV (g 29),vV (g 30),vV (g 31),vV (g 32),vV (g 33),l,d,h,tV,l,d,l,SV.a (SA.c (SC.vw 1 t j (k-j) (k-j))),d,l,SV.a (SA.c (SC.vw 1 u 0 j k)),m,q,vV (g 47)] s)∧r∧∀ t:Option Addr,vwC t b 0 j→True∧r∧∀ u:Option Addr,vwC u b j (k-j)→True∧((vwC t b 0 j∧(0+j)≤k)∧vwC u b j (k-j)∧p)∧True∧rng (((j:Nat):Int)+(((minN j (k-j)):Nat):Int))∧NX [sV 0 ao 1 c0,vV (g 1),vV (g 2),vV (g 3),vV (g 4),vV (g 5),vV (g 6),d,q,vV (g 9),vV (g 10),vV (g 11),vV (g 12),vV (g 13),vV (g 14),vV (g 15),vV (g 16),vV (g 17),vV (g 18),vV (g 19),vV (g 20),vV (g 21),vV (g 22),vV (g 23),vV (g 24),vV (g 25),vV (g 26),vV (g 27),vV (g 28),vV (g 29),vV (g 30),vV (g 31),vV (g 32),vV (g 33),l,d,h,tV,l,d,l,SV.a (SA.c (SC.vw 1 u j (k-j) (k-j))),d,l,SV.a (SA.c (SC.vw 1 t 0 j k)),m,q,vV (g 47)] s)∧(o=false→kx (Exit.exit 0) [sV 0 ao 1 c0,vV (g 1),vV (g 2),vV (g 3),vV (g 4),vV (g 5),vV (g 6),d,l,vV (g 9),vV (g 10),vV (g 11),vV (g 12),vV (g 13),vV (g 14),vV (g 15),vV (g 16),vV (g 17),vV (g 18),vV (g 19),vV (g 20),vV (g 21),vV (g 22),vV (g 23),vV (g 24),vV (g 25),vV (g 26),vV (g 27),vV (g 28),vV (g 29),vV (g 30),vV (g 31),vV (g 32),vV (g 33),l,d,h,fV,vV (g 38),vV (g 39),vV (g 40),vV (g 41),vV (g 42),vV (g 43),vV (g 44),vV (g 45),vV (g 46),vV (g 47)] [n,Hr true b 3 1 k k [fun t=>Ci (if t<j then ((-1):Int) else (0:Int))]])) [n,Hr true b 3 1 k k [fun s=>Ci (if s<j then (if s<j then ((-1):Int) else (0:Int)) else (if (s-j)<(minN j (k-j)) then (if ((s-j)+0)<j then ((-1):Int) else (0:Int)) else (if s<j then ((-1):Int) else (0:Int))))]]) (b=b∧k=k∧inSub0 ((j:Nat):Int) k∧k≤k)) (iV (((j:Nat):Int)+(((minN j (k-j)):Nat):Int)))) ((j+(k-j))≤k∧∀ p:Nat,true=true)) (decide (((j:Nat):Int)<((k:Nat):Int)))) (Hr false ao 0 1 1 0 [fun n=>Ci (f n)])) (iV (((minN j (k-j)):Nat):Int))) (iV ((j:Nat):Int))) (iV ((k:Nat):Int))) (sV 1 b k k)) (Ad c 0)):=by kernel_rfl
theorem min_or (m n:Nat):(minN m n=m∧m≤n)∨(minN m n=n∧n≤m):=by
 rcases Nat.le_total m n with h | h
 ·exact .inl ⟨Nat.min_eq_left h,h⟩
 ·exact .inr ⟨Nat.min_eq_right h,h⟩
theorem rp_ok (ao:Option Addr)(c0 k:Nat)(f:Nat→Int)(hk:1≤k∧k≤16)(X:Cx):LoopOK Tryz.prog X (theLoop Tryz.f108 0) (srp ao c0 k f):=by
 intro ts ch kk a w hS hT hd hs
 obtain ⟨c,⟨h1,hch⟩,hkk⟩:=hS
 refine loop_ok mixed (E:={}) trivial (loopsOK_nil _ _ _) 400 4 (fun r ts ch=>∃ g j,(1≤j∧j≤k∧(j=k∨j=2 ^ r))∧ts=rpH ao c0 k f c (.int (j:Int)) g∧ch=[.row ⟨false,ao,0,1,1,0,[fun i=>.int (f i)]⟩,.row ⟨true,some ⟨c,0,none⟩,3,1,k,k,[fun i=>.int (lowI i j (-1) 0)]⟩]) ?_ ?_ hT hd hs
 ·rintro r _ _ ⟨g,j,⟨j1,j2,j3⟩,rfl,rfl⟩ hr
  refine @Eq.mpr _ _ (rpB ao c0 k f c j g _ _) ?_
  dsimp -zeta -proj -iota -eta -failIfUnchanged (etaStruct:=.none) only
  clear h1
  by_cases hlt:j<k
  ·have hjr:j=2 ^ r:=by omega
   have hr4:r<4:=by
    rcases Nat.lt_or_ge r 4 with h | h
    ·exact h
    ·have:r=4:=by omega
     subst this
     omega
   have hm:=min_or j (k-j)
   obtain ⟨m,em⟩:∃ m,minN j (k-j)=m:=⟨_,rfl⟩
   rw [em] at hm
   simp only [em]
   have ej:(j:Int)+(m:Int)=((j+m:Nat):Int):=by simp
   simp only [ej]
   have hp:2 ^ (r+1)=2*2 ^ r:=by rw [Nat.pow_succ,Nat.mul_comm]
   have hi:1≤j+m∧j+m≤k∧(j+m=k∨j+m=2 ^ (r+1)):=by rw [hp];omega
   repeat' (first
    | with_reducible exact rfl
    | exact True.intro
    | with_reducible assumption
    | (refine ⟨hr4,?_⟩;show Next _ _ _ _;refine Next.mk (fun g=>rpH ao c0 k f c (.int ((j+m:Nat):Int)) g) [.row ⟨false,ao,0,1,1,0,[fun i=>.int (f i)]⟩,.row ⟨true,some ⟨c,0,none⟩,3,1,k,k,[fun i=>.int (lowI i (j+m) (-1) 0)]⟩] ⟨_,_,hi,rfl,rfl⟩ rfl (fun w hw=>hw.re 1 _ rfl [fun i=>.int (lowI i (j+m) (-1) 0)] ⟨fun i hi=>?_,trivial⟩))
    | (show inSub0 _ _;exact ⟨by omega,by omega⟩)
    | (show rng _;exact ⟨by omega,by omega⟩)
    | refine And.intro ?_ ?_
    | (refine fun (h:@Eq Bool _ _)=>?_;exfalso;first | (simp at h;done) | (simp at h;omega))
    | intro _
    | omega)
   all_goals
    simp only [SC.den,lowI]
    congr 1
    by_cases q1:i<j
    ·have q2:i<j+m:=by omega
     simp [q1,q2]
    ·by_cases q2:i-j<m
     ·have q3:i<j+m:=by omega
      have q4:i-j+0<j:=by omega
      simp [q1,q2,q3]
      omega
     ·have q3:¬ i<j+m:=by omega
      simp [q1,q2,q3]
  ·have hjk:k=j:=by omega
   subst hjk
   repeat' (first
    | with_reducible exact rfl
    | exact True.intro
    | (refine Next.mk (fun g=>rpH ao c0 k f c (.int (k:Int)) g) _ (hkk _) rfl (fun w hw=>hw.re 1 _ rfl [fun i=>.int (-1)] ⟨fun i hi=>?_,trivial⟩))
    | refine And.intro ?_ ?_
    | (refine fun (h:@Eq Bool _ _)=>?_;exfalso;first | (simp at h;done) | (simp at h;omega))
    | intro _)
   all_goals
    have hi':i<k:=hi
    simp [SC.den,lowI,hi']
 ·exact Next.mk (fun g=>rpH ao c0 k f c (.int ((1:Nat):Int)) g) _ ⟨_,1,⟨by omega,by omega,.inr rfl⟩,rfl,rfl⟩ h1 fun w hw=>hch.hs hw
theorem rep_T (ao:Option Addr)(c0 k:Nat)(f:Nat→Int):(exFn Tryz.prog {tb:=[(140,sMulB)],L:=[(8,srp ao c0 k f)]} 400 Tryz.f108 ([.a (.c (.sl 0 ao 1 c0)),.a (.c (.int (k:Int)))]) ([.row ⟨false,ao,0,1,1,0,[fun i=>.int (f i)]⟩]) (fun v ch=>∃ c,v.den=.slice (some ⟨c,0,none⟩) k k∧SelS ch [1] [.row ⟨true,some ⟨c,0,none⟩,3,1,k,k,[fun i=>.int (-1)]⟩]))=(
 (fun b:Value=>(fun d:Value=>(fun g:Value=>(fun h:Value=>(fun j:Bool=>(fun l:Value=>(fun m:Value=>(fun n:Bool=>(fun o:Ch=>(fun p:Nat=>(fun q:Bool=>(fun r:Value=>(fun s:Value=>(fun t:Value=>(n=true→False)∧(n=false→((wrapU (1:Int))=(1:Int)∧inZ2 (wrapU ((k:Nat):Int)))∧(j=false→(q=true→False)∧(q=false→(wrapI (wrapU ((k:Nat):Int)))=(wrapI (wrapU ((k:Nat):Int)))∧mkC 8 (wrapI (wrapU ((k:Nat):Int)))∧∀ u:Nat,(fun w:Value=>((ao=ao∧1=1)∧vwC (Ad u 0) (Ad u 0) 0 p∧(0+p)≤p∧∀ x:Nat,true=true)∧∃ x:Nat,([g,h,b,b,Wn,Value.int IntKind.u64 (0:Int),Value.int IntKind.u64 (wrapU ((k:Nat):Int)),w,s,h,d,b,t,g,Wi 1,Value.int IntKind.u64 (wrapU (1:Int)),h,Value.int IntKind.u64 (wrapU ((k:Nat):Int)),t,Value.int IntKind.u64 (0:Int),Value.int IntKind.u64 (wrapU ((k:Nat):Int)),Value.int IntKind.u64 (0:Int),l,d,Value.int IntKind.u64 (wrapU ((k:Nat):Int)),r,d,b,Value.int IntKind.u64 (wrapU ((k:Nat):Int)),m,w,w,g,s,b,b,b,b,b,b,b,b,b,b,b,b,b,b]=[g,h,b,b,Wn,Value.int IntKind.u64 (0:Int),Value.int IntKind.u64 (wrapU ((k:Nat):Int)),Ws (Ad x 0) k k,Wi 1,h,d,b,t,g,Wi 1,Value.int IntKind.u64 (wrapU (1:Int)),h,Value.int IntKind.u64 (wrapU ((k:Nat):Int)),t,Value.int IntKind.u64 (0:Int),Value.int IntKind.u64 (wrapU ((k:Nat):Int)),Value.int IntKind.u64 (0:Int),l,d,Value.int IntKind.u64 (wrapU ((k:Nat):Int)),r,d,b,Value.int IntKind.u64 (wrapU ((k:Nat):Int)),m,w,w,g,s,b,b,b,b,b,b,b,b,b,b,b,b,b,b]∧SelS [o,Hr true (Ad u 0) 3 1 p p [fun y=>Ci (if y<0 then (0:Int) else (if (y-0)<(minN 1 p) then (f (y-0)) else (0:Int)))]] [0,1] [o,Hr true (Ad x 0) 3 1 k k [fun y=>Ci (if y<1 then ((-1):Int) else (0:Int))]])∧∀ y:Nat→Value,∃ z:Nat,(Ws (Ad x 0) k k)=(Ws (Ad z 0) k k)∧SelS [o,Hr true (Ad x 0) 3 1 k k [fun B=>Ci (-1)]] [1] [Hr true (Ad z 0) 3 1 k k [fun B=>Ci (-1)]]) (Ws (Ad u 0) p p)))∧(j=true→False))) (Wu [Value.int IntKind.u64 (0:Int),Value.int IntKind.u64 (wrapU ((k:Nat):Int))])) (Wi (((minN 1 p):Nat):Int))) (Wb q)) (decide ((wrapU ((k:Nat):Int)) > (9223372036854775807:Int)))) (Int.toNat (wrapI (wrapU ((k:Nat):Int))))) (Hr false ao 0 1 1 0 [fun o=>Ci (f o)])) (decide (((k:Nat):Int)<(0:Int)))) (Wi (wrapI (wrapU ((k:Nat):Int))))) (Wb j)) (decide ((0:Int) > (0:Int)))) (Wi ((k:Nat):Int))) (Ws ao 1 c0)) (Wb false)) (Wu [])):=by kernel_rfl
theorem rep_any (ao:Option Addr)(c0 k:Nat)(f:Nat→Int)(w:World)(hk:1≤k∧k≤16)(hf:f 0=-1)(h0:Row.sat w ⟨false,ao,0,1,1,0,[fun i=>.int (f i)]⟩):Calls Tryz.prog 108 #[.slice ao 1 c0,.int .i64 k] w fun e w'=>∃ c,e=.returned (.slice (some ⟨c,0,none⟩) k k)∧HS ⟨w,fun _=>False⟩ [.row ⟨true,some ⟨c,0,none⟩,3,1,k,k,[fun i=>.int (-1)]⟩] w':=by
 refine fn_ok mixed (E:={tb:=[(140,sMulB)],L:=[(8,srp ao c0 k f)]}) ⟨sMulB_ok,trivial⟩ Tryz.func108 (one_loop (by kernel_rfl) (by kernel_rfl) (rp_ok ao c0 k f hk _)) (@Eq.mpr _ _ (rep_T ao c0 k f) ?_) (HS.rows (fun _=>False) [⟨false,ao,0,1,1,0,[fun i=>.int (f i)]⟩] (by simpa using h0)) (fun v ch' w' ⟨c,hv,hc⟩ hs=>⟨c,by rw [hv],hc.hs hs⟩)
 dsimp -zeta -proj -iota -eta -failIfUnchanged (etaStruct:=.none) only
 clear h0
 have u1:wrapU (1:Int)=1:=wrapU_id (by omega) (by omega)
 have uk:wrapU (k:Int)=k:=wrapU_id (by omega) (by omega)
 have ik:wrapI (k:Int)=k:=wrap_rng ⟨by omega,by omega⟩
 have mk:minN 1 k=1:=by rcases min_or 1 k with h | h <;> omega
 simp only [uk,ik,Int.toNat_natCast,mk]
 repeat' (first
  | with_reducible exact rfl
  | exact True.intro
  | with_reducible assumption
  | exact u1
  | (show inZ2 _;exact ⟨by omega,by omega⟩)
  | (show mkC _ _;exact ⟨by omega,by omega,by omega⟩)
  | (exact (by refine ⟨?_,rfl⟩;repeat' (first | exact True.intro | exact rfl | refine And.intro ?_ ?_ | (intro i hi;show _=_;with_reducible rfl) | (intro i hi;show _=_;rfl) | (intro i hi;show _=_;rcases i with _ | i <;> simp [SC.den,lowI,hf]))))
  | refine And.intro ?_ ?_
  | apply Exists.intro
  | (refine fun (h:@Eq Bool _ _)=>?_;exfalso;first | (simp at h;done) | (simp at h;omega))
  | intro _
  | omega
  | exact rfl)
def sRep:Sm:=fun args ch kk =>
 match args with
 | [.a (.c x),.a (.c y)] =>
  match asI y with
  | some z=>rdn ch x fun n f=>∃ k:Nat,(n=1∧f 0=-1∧z=(k:Int)∧is16 k)∧∀ c,kk (.a (.c (.sl ch.length (some ⟨c,0,none⟩) k k))) (ch ++ [.row ⟨true,some ⟨c,0,none⟩,3,1,k,k,[fun i=>.int (-1)]⟩]) []
  | none=>False
 | _=>False
theorem sRep_ok:SmOK Tryz.prog 108 sRep:=by
 refine smN Tryz.call108 fun args ch kk w X h0 hs=>?_
 unfold sRep at h0
 split at h0
 ·split at h0
  ·rename_i z hz
   obtain ⟨ao,n,c0,f,e,hr,k,⟨h5,hf,h6,h1,h2⟩,h7⟩:=rdn_ok h0 hs
   subst h5
   subst h6
   simp only [List.map_cons,List.map_nil,den_a,den_c,e,asI_den hz]
   exact Calls.mono (rep_any ao c0 k f w ⟨h1,h2⟩ hf hr) fun e w' ⟨c,he,hs'⟩=>⟨.a (.c (.sl ch.length (some ⟨c,0,none⟩) k k)),_,he,hs',rfl,h7 c⟩
  ·exact h0.elim
 ·exact h0.elim
end Go.Proofs.YtbhfabaofhhkeaaGreat

/-
  FnExactControllerNew: a part of the walk (merged and squeezed by program: SxLit SxN8 SxN9 SxNa).
-/
import Derived.Test.YtbhfabaofhhkeaaGreatZan
namespace Go.Proofs.YtbhfabaofhhkeaaGreat
set_option linter.unusedVariables false
set_option linter.unusedSimpArgs false
open Go.RowKit
theorem second_loop {P:Program}{X:Cx}{fn:Func}{k0 k1:Nat}{S1:LSm}(hl:(loopsF fn).map firstReg=[k0,k1])(hne:k0 ≠ k1)(h1:LoopOK P X (theLoop fn 1) S1) :
  ∀ c,fn.body=some c→LoopsOK P X [(k1,S1)] c:=by
 intro c hc
 refine loopsOK_of c fun b hb T hT=>?_
 have e:loopsF fn=loopsIn c:=by simp [loopsF,hc]
 rw [← e] at hb
 match hf:loopsF fn with
 | []=>rw [hf] at hb;cases hb
 | [d]=>rw [hf] at hl;simp at hl
 | d::d'::ds =>
  rw [hf] at hb hl
  simp only [List.map_cons,List.cons.injEq] at hl
  obtain ⟨hd,hd',hn⟩:=hl
  have hds:ds=[]:=by cases ds with
   | nil=>rfl
   | cons x xs=>simp at hn
  subst hds
  have ht':theLoop fn 1=d':=by simp [theLoop,hf]
  rw [ht'] at h1
  have hb':b=d∨b=d':=by simpa using hb
  have hq:Nat.beq k1 k0=false:=by
   cases h:Nat.beq k1 k0
   ·rfl
   ·exact absurd (Nat.eq_of_beq_eq_true h).symm hne
  rcases hb' with rfl | rfl
  ·simp only [lookL,hd,hq] at hT
   cases hT
  ·simp only [lookL,hd',Nat.beq_refl,Option.some.injEq] at hT
   subst hT
   exact h1
end Go.Proofs.YtbhfabaofhhkeaaGreat
namespace Go.Proofs.YtbhfabaofhhkeaaGreat
set_option linter.unusedVariables false
set_option linter.unusedSimpArgs false
open Go.RowKit
set_option maxRecDepth 100000
set_option maxHeartbeats 8000000
theorem sym_z {n:Nat}{f:Nat→Int}(hf:zr n f):symB n f (n:Int)=true:=by
 simp only [symB,Bool.and_eq_true]
 refine ⟨List.all_eq_true.2 fun j hj=>?_,beq_self_eq_true _⟩
 rw [hf j (List.mem_range.1 hj)]
 rfl
theorem syn_T (ao:Option Addr)(c0:Nat)(f:Nat→Int):(exFn Tryz.prog {tb:=[(145,sSym)],L:=[(8,ssy ao c0 f)]} 400 Tryz.f146 ([.a (.c (.sl 0 ao 11 c0))]) ([.row ⟨false,ao,0,1,11,0,[fun i=>.int (f i)]⟩]) (fun v_ ch=>∃ b,v_.den=.slice (some ⟨b,0,none⟩) 3 3∧SelS ch [1] [.cells b 3 [.il 0,.il 0,.il 0]]))=(
 (fun d:Value=>(fun g:Value=>(fun h:Value=>(fun j:Value=>(fun k:Value=>(fun l:Value=>(fun m:List SC=>(fun n:Ch=>∃ o:Nat→Int,(fun p:Bool=>(ao=ao∧11=11∧[fun q=>Ci (f q)]=[fun q=>Ci (o q)])∧lenC 11∧((! p)=true→∃ q:Nat,Wn=(Ws (Ad q 0) 3 3)∧SelS [n] [1] [Hc q 3 m])∧((! p)=false→∀ q:Nat,(fun r:Value=>∃ s:Nat,(fun t:Value=>(([l,d,Wn,r,j,d,d,l,Wb p,Wb false,r,r,Wi 3,j,k,j,l,Wi 11,j,d,d,d,d,d,d,d,d,d,d,d,d,d,d,d,d,d,d,d]=[l,d,Wn,t,j,d,d,l,Wb p,Wb false,r,t,Wi 3,j,k,j,l,Wi 11,j,d,d,d,d,d,d,d,d,d,d,d,d,d,d,d,d,d,d,d]∧[n,Hc q 3 m]=[n,Hc s 3 m])∧i3 (0:Int))∧∀ u:Nat→Value,∃ v:Nat,(fun w:Value=>(([l,u 1,u 2,t,h,u 5,u 6,u 7,u 8,u 9,u 10,t,Wi 3,h,k,h,l,Wi 11,j,u 19,u 20,u 21,u 22,u 23,u 24,u 25,u 26,u 27,u 28,u 29,u 30,u 31,u 32,u 33,u 34,u 35,h,u 37]=[l,u 1,u 2,w,h,u 5,u 6,u 7,u 8,u 9,u 10,w,Wi 3,h,k,h,l,Wi 11,j,u 19,u 20,u 21,u 22,u 23,u 24,u 25,u 26,u 27,u 28,u 29,u 30,u 31,u 32,u 33,u 34,u 35,h,u 37]∧[n,Hc s 3 m]=[n,Hc v 3 m])∧i3 (1:Int))∧∀ x:Nat→Value,∃ y:Nat,(fun z:Value=>(([l,x 1,x 2,w,g,x 5,x 6,x 7,x 8,x 9,x 10,w,Wi 3,g,k,g,l,Wi 11,j,x 19,x 20,x 21,x 22,x 23,x 24,x 25,x 26,x 27,x 28,x 29,x 30,x 31,x 32,x 33,x 34,x 35,g,x 37]=[l,x 1,x 2,z,g,x 5,x 6,x 7,x 8,x 9,x 10,z,Wi 3,g,k,g,l,Wi 11,j,x 19,x 20,x 21,x 22,x 23,x 24,x 25,x 26,x 27,x 28,x 29,x 30,x 31,x 32,x 33,x 34,x 35,g,x 37]∧[n,Hc v 3 m]=[n,Hc y 3 m])∧i3 (2:Int))∧∀ B:Nat→Value,∃ C:Nat,z=(Ws (Ad C 0) 3 3)∧SelS [n,Hc y 3 m] [1] [Hc C 3 m]) (Ws (Ad y 0) 3 3)) (Ws (Ad v 0) 3 3)) (Ws (Ad s 0) 3 3)) (Ws (Ad q 0) 3 3))) (symB 11 o (11:Int))) (Hr false ao 0 1 11 0 [fun n=>Ci (f n)])) [Cl 0,Cl 0,Cl 0]) (Ws ao 11 c0)) (Wb true)) (Wi 0)) (Wi 1)) (Wi 2)) (Wu [])):=by kernel_rfl
theorem syn_any (ao:Option Addr)(c0:Nat)(f:Nat→Int)(w:World)(hf:zr 11 f)(h0:Row.sat w ⟨false,ao,0,1,11,0,[fun i=>.int (f i)]⟩):Calls Tryz.prog 146 #[.slice ao 11 c0] w fun e w'=>∃ b,e=.returned (.slice (some ⟨b,0,none⟩) 3 3)∧HS ⟨w,fun _=>False⟩ [.cells b 3 [.il 0,.il 0,.il 0]] w':=by
 refine fn_ok mixed (E:={tb:=[(145,sSym)],L:=[(8,ssy ao c0 f)]}) ⟨sSym_I,trivial⟩ Tryz.func146 (second_loop (k0:=5) (by kernel_rfl) (by decide) (sy_ok ao c0 f hf _)) (@Eq.mpr _ _ (syn_T ao c0 f) ?_) (HS.rows (fun _=>False) [⟨false,ao,0,1,11,0,[fun i=>.int (f i)]⟩] (by simpa using h0)) (fun v ch' w' ⟨b,hv,hc⟩ hs=>⟨b,by rw [hv],hc.hs hs⟩)
 dsimp -zeta -proj -iota -eta -failIfUnchanged (etaStruct:=.none) only
 clear h0
 have hs:symB 11 f 11=true:=sym_z hf
 repeat' (first
  | with_reducible exact rfl
  | exact True.intro
  | with_reducible assumption
  | (show i3 _;first | exact .inl rfl | exact .inr (.inl rfl) | exact .inr (.inr rfl))
  | (show lenC _;show _≤_;omega)
  | ((with_reducible show SelS _ _ _);exact ⟨⟨⟨rfl,rfl,rfl⟩,trivial⟩,rfl⟩)
  | refine And.intro ?_ ?_
  | apply Exists.intro
  | (refine fun (h:@Eq Bool _ _)=>?_;exfalso;first | (simp [hs] at h;done) | (simp [hs] at h;omega))
  | intro _
  | omega
  | exact rfl)
def sSynZ:Sm:=fun args ch kk =>
 match args with
 | [.a (.c x)]=>rdn ch x fun n f=>(n=11∧zr 11 f)∧∀ b,kk (.a (.c (.slc ch.length b 3 3))) (ch ++ [.cells b 3 [.il 0,.il 0,.il 0]]) []
 | _=>False
theorem sSynZ_ok:SmOK Tryz.prog 146 sSynZ:=by
 refine smN Tryz.call146 fun args ch kk w X h0 hs=>?_
 unfold sSynZ at h0
 split at h0
 ·obtain ⟨ao,n,c0,f,e,hr,⟨h5,hf⟩,h7⟩:=rdn_ok h0 hs
  subst h5
  simp only [List.map_cons,List.map_nil,den_a,den_c,e]
  exact Calls.mono (syn_any ao c0 f w hf hr) fun e w' ⟨b,he,hs'⟩=>⟨.a (.c (.slc ch.length b 3 3)),_,he,hs',rfl,h7 b⟩
 ·exact h0.elim
end Go.Proofs.YtbhfabaofhhkeaaGreat
namespace Go.Proofs.YtbhfabaofhhkeaaGreat
set_option linter.unusedVariables false
set_option linter.unusedSimpArgs false
open Go.RowKit
set_option maxRecDepth 100000
set_option maxHeartbeats 8000000
theorem enc_T (ao:Option Addr)(c0:Nat)(f:Nat→Int):(exFn Tryz.prog {tb:=[(145,sSym),(146,sSynZ),(147,sInv4),(148,sGfZ)]} 400 Tryz.f138 ([.a (.c (.sl 0 ao 8 c0))]) ([.row ⟨false,ao,0,1,8,0,[fun i=>.int (f i)]⟩]) (fun v_ ch=>∃ (o:Option Addr) (cap:Nat),v_.den=.slice o 11 cap∧SelS ch [2] [.row ⟨true,o,3,1,11,cap,[fun i=>.int 0]⟩]))=(
 (fun b:Ch=>(fun d:Prop=>(fun g:Prop=>(fun h:Prop=>(fun j:Prop=>∃ k:Nat→Int,(ao=ao∧8=8∧[fun l=>Ci (f l)]=[fun l=>Ci (k l)])∧lenC 8∧((! (symB 8 k (8:Int)))=true→∃(l:Option Addr) (m:Nat),Wn=(Ws l 11 m)∧SelS [b] [2] [Hr true l 3 1 11 m [fun n=>Ci 0]])∧((! (symB 8 k (8:Int)))=false→∀ l:Nat,(l=l∧(ao=ao∧8=8)∧(∀ m:Nat,true=true)∧apC 3 8 8)∧∀(m:Option Addr) (n:Nat),∃ p:Nat→Int,(m=m∧11=11∧[fun q=>Ci (if q<3 then (litZ [(0:Int),(0:Int),(0:Int)] q) else (f (q-3)))]=[fun q=>Ci (p q)])∧(11=11∧zr 11 p)∧∀ q:Nat,q=q∧q=q∧q=q∧q=q∧(el2 (2:Int) (0:Int)∧zO (2:Int) (0:Int))∧h∧j∧m=m∧11=11∧g∧m=m∧1<11∧(el2 (3:Int) (0:Int)∧zO (3:Int) (0:Int))∧h∧j∧m=m∧11=11∧d∧m=m∧2<11∧q=q∧m=m∧11=11∧g∧m=m∧1<11∧m=m∧11=11∧d∧m=m∧2<11∧m=m∧11=11∧(0≤(0:Int)∧(0:Int)<((11:Nat):Int))∧m=m∧0<11∧True∧∃(r:Option Addr) (s:Nat),(Ws m 11 n)=(Ws r 11 s)∧SelS [b,Hd,Hr true m 3 1 11 n [fun t=>Ci (if t=0 then (bits BinOp.xor .i64 (bits BinOp.xor .i64 (0:Int) (0:Int)) (0:Int)) else (if t=2 then (0:Int) else (if t=1 then (0:Int) else (if t<3 then (litZ [(0:Int),(0:Int),(0:Int)] t) else (f (t-3))))))],Hc q 3 [Cl 0,Cl 0,Cl 0]] [2] [Hr true r 3 1 11 s [fun t=>Ci 0]])) (el2 (0:Int) (13:Int)∧zO (0:Int) (13:Int))) (el2 (5:Int) (0:Int)∧zO (5:Int) (0:Int))) (0≤(1:Int)∧(1:Int)<((11:Nat):Int))) (0≤(2:Int)∧(2:Int)<((11:Nat):Int))) (Hr false ao 0 1 8 0 [fun b=>Ci (f b)])):=by kernel_rfl
theorem enc_any (ao:Option Addr)(c0:Nat)(f:Nat→Int)(w:World)(hf:zr 8 f)(h0:Row.sat w ⟨false,ao,0,1,8,0,[fun i=>.int (f i)]⟩):Calls Tryz.prog 138 #[.slice ao 8 c0] w fun e w'=>∃ (o:Option Addr) (cap:Nat),e=.returned (.slice o 11 cap)∧HS ⟨w,fun _=>False⟩ [.row ⟨true,o,3,1,11,cap,[fun i=>.int 0]⟩] w':=by
 refine fnB (tb:=[(145,sSym),(146,sSynZ),(147,sInv4),(148,sGfZ)]) ⟨sSym_I,sSynZ_ok,sInv4_ok,sGfZ_ok,trivial⟩ Tryz.func138 (@Eq.mpr _ _ (enc_T ao c0 f) ?_) (HS.rows (fun _=>False) [⟨false,ao,0,1,8,0,[fun i=>.int (f i)]⟩] (by simpa using h0)) (fun v ch' w' ⟨o,cap,hv,hc⟩ hs=>⟨o,cap,by rw [hv],hc.hs hs⟩)
 dsimp -zeta -proj -iota -eta -failIfUnchanged (etaStruct:=.none) only
 clear h0
 have hs:symB 8 f 8=true:=sym_z hf
 have hz:zr 11 (fun i=>lowI i 3 (litZ [0,0,0] i) (f (i-3))):=fun i hi=>by
  show lowI i 3 (litZ [0,0,0] i) (f (i-3))=0
  simp only [lowI]
  split
  ·rename_i h3
   have:i=0∨i=1∨i=2:=by omega
   rcases this with rfl | rfl | rfl <;> rfl
  ·exact hf (i-3) (by omega)
 repeat' (first
  | with_reducible exact rfl
  | exact True.intro
  | with_reducible assumption
  | exact hz
  | (show lenC _;show _≤_;omega)
  | (show el2 _ _;exact ⟨⟨by omega,by omega⟩,⟨by omega,by omega⟩⟩)
  | (show zO _ _;first | exact .inl rfl | exact .inr rfl)
  | ((with_reducible show SelS _ _ _);refine ⟨⟨⟨rfl,rfl,rfl,rfl,rfl,rfl,fun i hi=>?_,trivial⟩,trivial⟩,rfl⟩)
  | refine And.intro ?_ ?_
  | apply Exists.intro
  | (refine fun (h:@Eq Bool _ _)=>?_;exfalso;first | (simp [hs] at h;done) | (simp [hs] at h;omega))
  | intro _
  | omega
  | exact rfl)
 all_goals
  rename_i i hi
  have hx:bits .xor .i64 (bits .xor .i64 (0:Int) 0) 0=0:=by rw [xor_00,xor_00]
  have h9:lowI i 3 (litZ [0,0,0] i) (f (i-3))=0:=hz i hi
  simp only [SC.den,hx]
  congr 1
  split
  ·rfl
  ·split
   ·rfl
   ·split
    ·rfl
    ·exact h9
def sEncZ:Sm:=fun args ch kk =>
 match args with
 | [.a (.c x)]=>rdn ch x fun n f=>(n=8∧zr 8 f)∧∀ (o:Option Addr) (cap:Nat),kk (.a (.c (.sl ch.length o 11 cap))) (ch ++ [.row ⟨true,o,3,1,11,cap,[fun i=>.int 0]⟩]) []
 | _=>False
theorem sEncZ_ok:SmOK Tryz.prog 138 sEncZ:=by
 refine smN Tryz.call138 fun args ch kk w X h0 hs=>?_
 unfold sEncZ at h0
 split at h0
 ·obtain ⟨ao,n,c0,f,e,hr,⟨h5,hf⟩,h7⟩:=rdn_ok h0 hs
  subst h5
  simp only [List.map_cons,List.map_nil,den_a,den_c,e]
  exact Calls.mono (enc_any ao c0 f w hf hr) fun e w' ⟨o,cap,he,hs'⟩=>⟨.a (.c (.sl ch.length o 11 cap)),_,he,hs',rfl,h7 o cap⟩
 ·exact h0.elim
end Go.Proofs.YtbhfabaofhhkeaaGreat
namespace Go.Proofs.YtbhfabaofhhkeaaGreat
set_option linter.unusedVariables false
set_option linter.unusedSimpArgs false
open Go.RowKit
set_option maxRecDepth 100000
set_option maxHeartbeats 8000000
def sIsW:Sm:=inlM Tryz.prog {tb:=[(106,sBtw)]} 300 Tryz.f137
theorem sIsW_ok:SmOK Tryz.prog 137 sIsW:=inlM_ok mixed (E:={tb:=[(106,sBtw)]}) ⟨sBtwI_ok,trivial⟩ Tryz.func137 Tryz.call137 (fun _ _ _=>loopsOK_nil _ _ _)
def sSow:Sm:=inlM Tryz.prog {tb:=[(137,sIsW)]} 300 Tryz.f139
theorem sSow_ok:SmOK Tryz.prog 139 sSow:=inlM_ok mixed (E:={tb:=[(137,sIsW)]}) ⟨sIsW_ok,trivial⟩ Tryz.func139 Tryz.call139 (fun _ _ _=>loopsOK_nil _ _ _)
theorem encl_T :(exFn Tryz.prog {tb:=[(137,sIsW),(139,sSow),(138,sEncZ)]} 400 Tryz.f104 ([.a (.c (.il 0))]) ([]) (fun v_ ch=>∃ (o:Option Addr) (cap:Nat),OutR v_ ch (.slice o 11 cap) [.row ⟨true,o,3,1,11,cap,[fun i=>.int 0]⟩]))=(
 (fun b:Prop=>(fun d:Bool=>(fun g:Prop=>(d=true→∃(h:Option Addr) (j:Nat),Wn=(Ws h 11 j)∧((true=true∧(none:Option Addr)=h∧0=11∧0=j∧true=true)∧True)∧true=true)∧(d=false→(d=true→(0=8∧zr 8 (fun h=>(0:Int)))∧g)∧(d=false→∀ h j:Nat,(h=h∧j=j∧b∧apC 0 1 8)∧∀(k:Option Addr) (l m:Nat),(k=k∧1=1∧l=l∧m=m∧b∧apC 1 1 8)∧∀(n:Option Addr) (p q:Nat),(n=n∧2=2∧p=p∧q=q∧b∧apC 2 1 8)∧∀(r:Option Addr) (s t:Nat),(r=r∧3=3∧s=s∧t=t∧b∧apC 3 1 8)∧∀(u:Option Addr) (v w:Nat),(u=u∧4=4∧v=v∧w=w∧b∧apC 4 1 8)∧∀(x:Option Addr) (y z:Nat),(x=x∧5=5∧y=y∧z=z∧b∧apC 5 1 8)∧∀(B:Option Addr) (C D:Nat),(B=B∧6=6∧C=C∧D=D∧b∧apC 6 1 8)∧∀(E:Option Addr) (F G:Nat),(E=E∧7=7∧F=F∧G=G∧b∧apC 7 1 8)∧∀(H:Option Addr) (I:Nat),∃ J:Nat→Int,(H=H∧8=8∧[fun K=>Ci (if K<7 then (if K<6 then (if K<5 then (if K<4 then (if K<3 then (if K<2 then (if K<1 then (0:Int) else (0:Int)) else (0:Int)) else (0:Int)) else (0:Int)) else (0:Int)) else (0:Int)) else (0:Int))]=[fun K=>Ci (J K)])∧(8=8∧zr 8 J)∧g))) (∀(g:Option Addr) (h:Nat),∃(j:Option Addr) (k:Nat),(Ws g 11 h)=(Ws j 11 k)∧((true=true∧g=j∧3=3∧1=1∧11=11∧h=k∧(∀ l:Nat,l<11→(Wi 0)=(Wi 0))∧True)∧True)∧true=true)) (! (btw (0:Int) (0:Int) (4294967295:Int)))) (∀ b:Nat,true=true)):=by kernel_rfl
theorem encl_any (w:World):Calls Tryz.prog 104 #[.int .i64 0] w fun e w'=>∃ (o:Option Addr) (cap:Nat),e=.returned (.slice o 11 cap)∧HS ⟨w,fun _=>False⟩ [.row ⟨true,o,3,1,11,cap,[fun i=>.int 0]⟩] w':=by
 refine fnB (tb:=[(137,sIsW),(139,sSow),(138,sEncZ)]) ⟨sIsW_ok,sSow_ok,sEncZ_ok,trivial⟩ Tryz.func104 (@Eq.mpr _ _ encl_T ?_) (HS.start w (fun _=>False)) (fun v ch' w' ⟨o,cap,hk⟩ hs=>⟨o,cap,by rw [hk.1],hk.hs hs⟩)
 have bw:btw 0 0 4294967295=true:=by simp [btw]
 repeat' (first
  | with_reducible exact rfl
  | exact True.intro
  | with_reducible assumption
  | (show zr 8 _;intro i hi;rcases (by omega:i=0∨i=1∨i=2∨i=3∨i=4∨i=5∨i=6∨i=7) with rfl | rfl | rfl | rfl | rfl | rfl | rfl | rfl <;> rfl)
  | (show apC _ _ _;show _≤_;omega)
  | refine And.intro ?_ ?_
  | apply Exists.intro
  | (refine fun (h:@Eq Bool _ _)=>?_;exfalso;first | (simp [bw] at h;done) | (simp [bw] at h;omega))
  | (intro i hi;exact rfl)
  | intro _
  | omega
  | exact rfl)
def sEncL:Sm:=fun args ch kk =>
 match args with
 | [.a (.c (.il (.ofNat .zero)))]=>∀ (o:Option Addr) (cap:Nat),kk (.a (.c (.sl ch.length o 11 cap))) (ch ++ [.row ⟨true,o,3,1,11,cap,[fun i=>.int 0]⟩]) []
 | _=>False
theorem sEncL_ok:SmOK Tryz.prog 104 sEncL:=by
 refine smN Tryz.call104 fun args ch kk w X h0 hs=>?_
 unfold sEncL at h0
 split at h0
 ·simp only [List.map_cons,List.map_nil,den_a,den_c]
  exact Calls.mono (encl_any w) fun e w' ⟨o,cap,he,hs'⟩=>⟨.a (.c (.sl ch.length o 11 cap)),_,he,hs',rfl,h0 o cap⟩
 ·exact h0.elim
end Go.Proofs.YtbhfabaofhhkeaaGreat

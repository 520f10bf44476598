/-
  FnExactStoredAddr: a part of the walk (merged and squeezed by program: SxSR).
-/
import Derived.Test.YtmnccapnjphmfaaGreatZbbd
import Derived.Test.YtmnccapnjphmfaaGreatZbbm
namespace Go.Proofs.YtmnccapnjphmfaaGreat
set_option linter.unusedVariables false
set_option linter.unusedSimpArgs false
open Go.RowKit
set_option maxRecDepth 100000
set_option maxHeartbeats 8000000
abbrev srC (n c:Nat)(f:Nat→Int)(sp G B R K bk rw_:Int):Prop:=sprB n f sp G B R K=true∧(0≤bk∧bk<bankN G B R K)∧(0≤rw_∧rw_<R-sp)∧n≤c∧n≤9223372036854775807∧rngC R
def srV (f:Nat→Int)(m bk rw_:Int):Int:=f (bk*m+rw_).toNat
theorem srow_T (ao:Option Addr)(n c:Nat)(f:Nat→Int)(sp G B R K:Int)(bk rw_:Int):(exFn Tryz.prog {tb:=[(69,sRgOk),(187,sRowI),(138,sBkR)]} 400 Tryz.f161 ([.a (.agg [.int G,.int B,.int R,.int K]),.a (.agg [.int sp,.sl 0 ao n c]),.a (.c (.int bk)),.a (.c (.int rw_))]) ([.row ⟨false,ao,0,1,n,0,[fun i=>.int (f i)]⟩]) (fun y_ _=>y_.den=.int .i64 (srV f (isub R sp) bk rw_)))=(
 (fun b:Nat=>∀ d g:Nat,d=d∧g=g∧∃ h:Nat→Int,(fun j:Bool=>(fun k:Bool=>(ao=ao∧n=n∧[fun l=>Ci (f l)]=[fun l=>Ci (h l)])∧(lenC n∧leC n n∧leC n c∧rngC R)∧∀ l:Nat,l=l∧(k=true→(Wi (-1))=(Wi (srV f (R-sp) bk rw_)))∧(k=false→d=d∧g=g∧∀ m o:Nat,m=m∧o=o∧rng (R-sp)∧o=o∧rng (bk*(R-sp))∧rng (bk+(1:Int))∧rng ((bk+(1:Int))*(R-sp))∧(ao=ao∧n=n∧inSub (bk*(R-sp)) ((bk+(1:Int))*(R-sp)) n∧n≤c)∧∀ p:Option Addr,p=p∧b=b∧(0≤rw_∧rw_<((b:Nat):Int))∧p=p∧(Int.toNat rw_)<b∧(Wi (f ((Int.toNat rw_)+(Int.toNat (bk*(R-sp))))))=(Wi (srV f (R-sp) bk rw_)))) (! (adOk (ifZ j G) (ifZ j B) (ifZ j (R-sp)) (ifZ j K) bk rw_ (0:Int)))) (sprB n h sp G B R K)) (Int.toNat (((bk+(1:Int))*(R-sp))-(bk*(R-sp))))):=by kernel_rfl
theorem srow_any (ao:Option Addr)(n c:Nat)(f:Nat→Int)(sp G B R K:Int)(bk rw_:Int)(w:World)(hc:srC n c f sp G B R K bk rw_)(h0:Row.sat w ⟨false,ao,0,1,n,0,[fun i=>.int (f i)]⟩):Calls Tryz.prog 161 #[.agg #[.int .i64 G,.int .i64 B,.int .i64 R,.int .i64 K],.agg #[.int .i64 sp,.slice ao n c],.int .i64 bk,.int .i64 rw_] w fun e w'=>e=.returned (.int .i64 (srV f (R-sp) bk rw_))∧Below w.heap.size w w':=by
 refine fn_ok mixed (E:={tb:=[(69,sRgOk),(187,sRowI),(138,sBkR)]}) ⟨sRgOk_I,sRowI_ok,sBkR_ok,trivial⟩ Tryz.func161 (fun _ _=>loopsOK_nil _ _ _) (@Eq.mpr _ _ (srow_T ao n c f sp G B R K bk rw_) ?_) (HS.rows (fun _=>False) [⟨false,ao,0,1,n,0,[fun i=>.int (f i)]⟩] (by simpa using h0)) (fun v ch' w' hv hs=>⟨by rw [hv],hs.below⟩)
 dsimp -zeta -proj -iota -eta -failIfUnchanged (etaStruct:=.none) only
 clear h0
 obtain ⟨hs,⟨b1,b2⟩,⟨r1,r2⟩,hcp,hn,hrR⟩:=hc
 have hk:spOk G B R K sp=true:=by
  have hs2:=hs
  simp only [sprB,Bool.and_eq_true] at hs2
  exact hs2.1.1
 obtain ⟨hg,hN,hM,⟨h8,hm2,hm16⟩,⟨hR1,hR2⟩,hsp1,hsp2⟩:=spOk_facts hk
 have hg2:geoB G B (R-sp) K=true:=by
  have hq:=hg
  simp only [geoB,Bool.and_eq_true] at hq ⊢
  refine ⟨⟨hq.1.1,?_⟩,hq.2⟩
  simp [btw]
  omega
 have hb2:bankN G B (R-sp) K=bankN G B R K:=by simp only [bankN,hg,hg2]
 have hnl:n=spN G B R K*spM R sp:=by
  have hs2:=hs
  simp only [sprB,Bool.and_eq_true] at hs2
  have:=eq_of_beq hs2.1.2
  rw [hN,hM,← Int.natCast_mul] at this
  omega
 have hK:=(geo_facts hg).2.2.2
 have had:adOk (ifZ (sprB n f sp G B R K) G) (ifZ (sprB n f sp G B R K) B) (ifZ (sprB n f sp G B R K) (R-sp)) (ifZ (sprB n f sp G B R K) K) bk rw_ 0=true:=by
  rw [hs]
  show adOk G B (R-sp) K bk rw_ 0=true
  have q1:btw bk 0 (bankN G B R K-1)=true:=by simp [btw];omega
  have q2:btw rw_ 0 (R-sp-1)=true:=by simp [btw];omega
  have q3:btw 0 0 (K-1)=true:=by simp [btw];omega
  simp only [adOk,hg2,hb2,q1,q2,q3,Bool.and_true]
 have m1:bk*(R-sp)+(R-sp)=(bk+1)*(R-sp):=by rw [Int.add_mul,Int.one_mul]
 have m2:(bk+1)*(R-sp)≤bankN G B R K*(R-sp):=Int.mul_le_mul_of_nonneg_right (by omega) (by omega)
 have m3:bankN G B R K*(R-sp)=(n:Int):=by rw [hN,hM,hnl];simp
 have m4:0≤bk*(R-sp):=Int.mul_nonneg b1 (by omega)
 have m5:(n:Int)≤8*16:=by rw [hnl];have:=Nat.mul_le_mul h8 hm16;omega
 have e1:srV f (R-sp) bk rw_=f (Int.toNat rw_+Int.toNat (bk*(R-sp))):=by
  simp only [srV]
  congr 1
  omega
 rw [m1.symm] at m2
 have m6:(bk+1)*(R-sp)=bk*(R-sp)+(R-sp):=m1.symm
 repeat' (first
  | with_reducible exact rfl
  | exact True.intro
  | with_reducible assumption
  | (show @Eq (List _) _ _;exact rfl)
  | (refine fun (h:@Eq Bool _ _)=>?_;exfalso;rw [had] at h;simp at h;done)
  | (rw [e1];done)
  | (show rng _;exact ⟨by omega,by omega⟩)
  | (show inSub _ _ _;exact ⟨by omega,by omega,by omega⟩)
  | (show inIdx _ _;exact ⟨by omega,by omega⟩)
  | refine And.intro ?_ ?_
  | apply Exists.intro
  | (refine fun (h:@Eq Bool _ _)=>?_;exfalso;first | (simp [hs] at h;done) | (simp [hs] at h;omega))
  | intro _
  | omega
  | exact rfl)
def sSrow:Sm:=fun args ch k =>
 match args with
 | [.a (.agg [c0,c1,c2,c3]),.a (.agg [y,x]),.a (.c z),.a (.c t)] =>
  match ints [c0,c1,c2,c3,y,z,t] with
  | some [G,B,R,K,sp,bk,rw_] =>
   match x with
   | .sl id ao n c=>rdn ch (.sl id ao n c) fun m f=>(leC m n∧srC n c f sp G B R K bk rw_)∧k (.a (.c (.int (srV f (isub R sp) bk rw_)))) ch []
   | _=>False
  | _=>False
 | _=>False
theorem sSrow_ok:SmOK Tryz.prog 161 sSrow:=by
 refine smB Tryz.call161 fun args ch k w X h0 hs=>?_
 unfold sSrow at h0
 split at h0
 ·split at h0
  ·rename_i G B R K sp bk rw_ hi
   split at h0
   ·rename_i id ao n c
    obtain ⟨e0,hi⟩:=ints_cons hi
    obtain ⟨e1,hi⟩:=ints_cons hi
    obtain ⟨e2,hi⟩:=ints_cons hi
    obtain ⟨e3,hi⟩:=ints_cons hi
    obtain ⟨e4,hi⟩:=ints_cons hi
    obtain ⟨e5,hi⟩:=ints_cons hi
    obtain ⟨e6,hi⟩:=ints_cons hi
    obtain ⟨ao',m,c',f,em,hr,⟨_,h1⟩,h0⟩:=rdn_ok h0 hs
    refine ⟨_,h0,?_⟩
    have em2:Value.slice ao n c=Value.slice ao' m c':=em
    injection em2 with ea en ec
    subst ea en ec
    simp only [List.map_cons,List.map_nil,den_a,den_c,SA.den,em,e0,e1,e2,e3,e4,e5,e6]
    exact srow_any ao n c f sp G B R K bk rw_ w h1 hr
   ·exact h0.elim
  ·exact h0.elim
 ·exact h0.elim
abbrev ctC (x:CtD)(q:Nat→Nat):Prop:=cap1Ct x∧rngC (x.i 2)∧(x.n 8≤q 8∧x.n 13≤q 13∧x.n 15≤q 15)
abbrev ctC2 (x:CtD)(q:Nat→Nat):Prop:=cap1Ct x∧rngC (x.i 2)∧(x.n 8≤q 8∧x.n 13≤q 13∧x.n 15≤q 15)∧ctB x=true
def stB (x:CtD)(line:Int):Bool:=ctB x&&btw line 0 (lineN (x.i 0) (x.i 1) (x.i 2-x.i 43) (x.i 3)-1)
def stK (x:CtD)(line:Int):Int:=ifZ (stB x line) (mlK (x.i 21) (x.b 0) (bankN (x.i 0) (x.i 1) (x.i 2-x.i 43) (x.i 3)) (x.i 2-x.i 43) (x.i 3) line)
def stR (x:CtD)(line:Int):Int:=ifZ (stB x line) (srV (x.g 8 0) (x.i 2-x.i 43) (mlK (x.i 21) (x.b 0) (bankN (x.i 0) (x.i 1) (x.i 2-x.i 43) (x.i 3)) (x.i 2-x.i 43) (x.i 3) line) (mlR (x.i 21) (bankN (x.i 0) (x.i 1) (x.i 2-x.i 43) (x.i 3)) (x.i 2-x.i 43) (x.i 3) line))
def stC (x:CtD)(line:Int):Int:=ifZ (stB x line) (mlC (x.i 21) (bankN (x.i 0) (x.i 1) (x.i 2-x.i 43) (x.i 3)) (x.i 3) line)
theorem ct_facts {x:CtD}(h:ctB x=true):sprB (x.n 8) (x.g 8 0) (x.i 43) (x.i 0) (x.i 1) (x.i 2) (x.i 3)=true∧x.i 43=x.i 22∧btw (x.i 21) 0 2=true:=by
 simp only [ctB,Bool.and_eq_true] at h
 have h1:=h.1.1.1.1.1.1.1.1.1.1.1.1.1.1.1.1.1.1.1.1.1.1
 have h7:=h.1.1.1.1.1.1.1.1.1.1.1.1.1.1.1.1.2
 have h8:=h.1.1.1.1.1.1.1.1.1.1.1.1.1.1.1.2
 simp only [fitsP,Bool.and_eq_true] at h1
 have hc:=h1.1.1.1
 simp only [cfgB,Bool.and_eq_true] at hc
 obtain ⟨⟨⟨⟨⟨⟨_,_⟩,ho⟩,_⟩,_⟩,_⟩,_⟩:=hc
 exact ⟨h7,eq_of_beq h8,ho⟩
theorem st_facts {x:CtD}(h:ctB x=true):geoB (x.i 0) (x.i 1) (x.i 2-x.i 43) (x.i 3)=true∧bankN (x.i 0) (x.i 1) (x.i 2-x.i 43) (x.i 3)=bankN (x.i 0) (x.i 1) (x.i 2) (x.i 3)∧(1≤bankN (x.i 0) (x.i 1) (x.i 2) (x.i 3)∧bankN (x.i 0) (x.i 1) (x.i 2) (x.i 3)≤8)∧(2≤x.i 2-x.i 43∧x.i 2-x.i 43≤16)∧(1≤x.i 3∧x.i 3≤8)∧((x.n 8:Int)=bankN (x.i 0) (x.i 1) (x.i 2) (x.i 3)*(x.i 2-x.i 43))∧(2≤x.i 2∧x.i 2≤16)∧(0≤x.i 43∧x.i 43≤2):=by
 obtain ⟨hs,_,_⟩:=ct_facts h
 have hs2:=hs
 simp only [sprB,Bool.and_eq_true] at hs2
 obtain ⟨hg,hN,hM,⟨h8,hm2,hm16⟩,hR,hsp⟩:=spOk_facts hs2.1.1
 have hg2:geoB (x.i 0) (x.i 1) (x.i 2-x.i 43) (x.i 3)=true:=by
  have hq:=hg
  simp only [geoB,Bool.and_eq_true] at hq ⊢
  refine ⟨⟨hq.1.1,?_⟩,hq.2⟩
  simp [btw]
  omega
 have hb:=geo_bank hg
 have hbk:bankN (x.i 0) (x.i 1) (x.i 2) (x.i 3)=x.i 0*x.i 1:=by simp [bankN,hg]
 rw [← hbk] at hb
 exact ⟨hg2,by simp only [bankN,hg,hg2],hb,by omega,(geo_facts hg).2.2.2,eq_of_beq hs2.1.2,hR,hsp⟩
theorem st_in {x:CtD}{line:Int}(h:ctB x=true)(hl:btw line 0 (lineN (x.i 0) (x.i 1) (x.i 2-x.i 43) (x.i 3)-1)=true):(0≤mlK (x.i 21) (x.b 0) (bankN (x.i 0) (x.i 1) (x.i 2-x.i 43) (x.i 3)) (x.i 2-x.i 43) (x.i 3) line∧mlK (x.i 21) (x.b 0) (bankN (x.i 0) (x.i 1) (x.i 2-x.i 43) (x.i 3)) (x.i 2-x.i 43) (x.i 3) line<bankN (x.i 0) (x.i 1) (x.i 2) (x.i 3))∧(0≤mlR (x.i 21) (bankN (x.i 0) (x.i 1) (x.i 2-x.i 43) (x.i 3)) (x.i 2-x.i 43) (x.i 3) line∧mlR (x.i 21) (bankN (x.i 0) (x.i 1) (x.i 2-x.i 43) (x.i 3)) (x.i 2-x.i 43) (x.i 3) line<x.i 2-x.i 43):=by
 obtain ⟨hg2,hb2,hb,hM,hK,_,_,_⟩:=st_facts h
 have hz:=btw_facts' hl
 rw [line_row hg2,hb2] at hz
 rw [hb2]
 exact ml_in hb hM hK hz.1 (by have:=hz.2;show line<bankN (x.i 0) (x.i 1) (x.i 2) (x.i 3)*(x.i 2-x.i 43)*x.i 3;omega)
theorem sto_T (x:CtD)(o:Nat→Option Addr)(q:Nat→Nat)(so:Nat→Option Addr)(sc:Nat→Nat)(uo:Nat→Option Addr)(uc:Nat→Nat)(vo:Nat→Option Addr)(vc:Nat→Nat)(line:Int):(exFn Tryz.prog {tb:=[(69,sRgOk),(160,sMl),(161,sSrow)]} 400 Tryz.f93 ([.a (.agg (ctS 0 x o q)),.a (.c (.int line))]) (ctR 0 x o q so sc uo uc vo vc) (fun y_ _=>y_.den=.tuple #[.agg #[.int .i64 (ifZ (btw line 0 (isub (lineN (x.i 0) (x.i 1) (isub (x.i 2) (x.i 43)) (x.i 3)) 1)) (mlK (x.i 21) (x.b 0) (bankN (x.i 0) (x.i 1) (isub (x.i 2) (x.i 43)) (x.i 3)) (isub (x.i 2) (x.i 43)) (x.i 3) line)),.int .i64 (ifZ (btw line 0 (isub (lineN (x.i 0) (x.i 1) (isub (x.i 2) (x.i 43)) (x.i 3)) 1)) (srV (x.g 8 0) (isub (x.i 2) (x.i 43)) (mlK (x.i 21) (x.b 0) (bankN (x.i 0) (x.i 1) (isub (x.i 2) (x.i 43)) (x.i 3)) (isub (x.i 2) (x.i 43)) (x.i 3) line) (mlR (x.i 21) (bankN (x.i 0) (x.i 1) (isub (x.i 2) (x.i 43)) (x.i 3)) (isub (x.i 2) (x.i 43)) (x.i 3) line))),.int .i64 (ifZ (btw line 0 (isub (lineN (x.i 0) (x.i 1) (isub (x.i 2) (x.i 43)) (x.i 3)) 1)) (mlC (x.i 21) (bankN (x.i 0) (x.i 1) (isub (x.i 2) (x.i 43)) (x.i 3)) (x.i 3) line))],.bool (btw line 0 (isub (lineN (x.i 0) (x.i 1) (isub (x.i 2) (x.i 43)) (x.i 3)) 1))]))=(
 (fun d:Prop=>(fun h:List (Nat→SC)=>(fun j:Value=>(fun k:Int=>(fun l:Prop=>(fun m:Bool=>(fun n:Int=>(fun p:Value=>∀ r s:Nat,(fun t:Prop=>r=r∧∀ u:Nat,u=u∧u=u∧r=r∧r=r∧(∃ v:Nat→Int,(fun w:Bool=>(fun y:Int=>(fun z:Int=>(fun B:Int=>(fun C:Int=>(fun D:Int=>(fun E:Bool=>(fun F:Bool=>(fun G:Prop=>(fun H:Value=>(fun I:Int=>(fun J:Int=>(fun K:Value=>((o 8)=(o 8)∧(x.3 8)=(x.3 8)∧h=[fun L=>Ci (v L)])∧l∧True∧(True∧∀ L:Nat,True∧L=L∧True∧G∧(F=false→u=u∧r=r∧L=L∧L=L∧∃ M:Nat→Int,((o 8)=(o 8)∧(x.3 8)=(x.3 8)∧h=[fun N=>Ci (M N)])∧(d∧srC (x.3 8) (q 8) M (x.1 43) (x.1 0) (x.1 1) (x.1 2) (x.1 3) J I)∧L=L∧L=L∧s=s∧s=s∧(Wu [Wa [K,Wi (srV M ((x.1 2)-(x.1 43)) J I),H],Wb true])=p))∧∀ L:Nat,True∧True∧L=L∧True∧G∧(F=false→u=u∧r=r∧L=L∧L=L∧∃ M:Nat→Int,((o 8)=(o 8)∧(x.3 8)=(x.3 8)∧h=[fun N=>Ci (M N)])∧(d∧srC (x.3 8) (q 8) M (x.1 43) (x.1 0) (x.1 1) (x.1 2) (x.1 3) J I)∧L=L∧L=L∧s=s∧s=s∧(Wu [Wa [K,Wi (srV M ((x.1 2)-(x.1 43)) J I),H],Wb true])=p)) (Wi J)) (ifZ E (mlK (x.1 21) (x.2 0) D C B line))) (ifZ E (mlR (x.1 21) D C B line))) (Wi (ifZ E (mlC (x.1 21) D B line)))) (F=true→t)) (! E)) (mlB z y C B (x.1 21) line)) (bankN z y C B)) (ifZ w ((x.1 2)-(x.1 43)))) (ifZ w (x.1 3))) (ifZ w (x.1 0))) (ifZ w (x.1 1))) (sprB (x.3 8) v (x.1 43) (x.1 0) (x.1 1) (x.1 2) (x.1 3)))∧∀ v:Nat,True∧∃ w:Nat→Int,(fun y:Bool=>(fun z:Int=>(fun B:Int=>(fun C:Int=>(fun D:Int=>(fun E:Int=>(fun F:Bool=>(fun G:Bool=>(fun H:Int=>(fun I:Int=>((o 8)=(o 8)∧(x.3 8)=(x.3 8)∧h=[fun J=>Ci (w J)])∧l∧True∧True∧v=v∧True∧(G=true→t)∧(G=false→u=u∧r=r∧v=v∧v=v∧∃ J:Nat→Int,((o 8)=(o 8)∧(x.3 8)=(x.3 8)∧h=[fun K=>Ci (J K)])∧(d∧srC (x.3 8) (q 8) J (x.1 43) (x.1 0) (x.1 1) (x.1 2) (x.1 3) I H)∧v=v∧v=v∧s=s∧s=s∧(Wu [Wa [Wi I,Wi (srV J ((x.1 2)-(x.1 43)) I H),Wi (ifZ F (mlC (x.1 21) E C line))],Wb true])=p)) (ifZ F (mlK (x.1 21) (x.2 0) E D C line))) (ifZ F (mlR (x.1 21) E D C line))) (! F)) (mlB B z D C (x.1 21) line)) (bankN B z D C)) (ifZ y ((x.1 2)-(x.1 43)))) (ifZ y (x.1 3))) (ifZ y (x.1 0))) (ifZ y (x.1 1))) (sprB (x.3 8) w (x.1 43) (x.1 0) (x.1 1) (x.1 2) (x.1 3))) (s=s∧s=s∧j=p)) (Wu [Wa [Wi (ifZ m n),Wi (ifZ m (srV (x.4 8 0) ((x.1 2)-(x.1 43)) n (mlR (x.1 21) k ((x.1 2)-(x.1 43)) (x.1 3) line))),Wi (ifZ m (mlC (x.1 21) k (x.1 3) line))],Wb m])) (mlK (x.1 21) (x.2 0) k ((x.1 2)-(x.1 43)) (x.1 3) line)) (btw line (0:Int) ((lineN (x.1 0) (x.1 1) ((x.1 2)-(x.1 43)) (x.1 3))-(1:Int)))) (lenC (x.3 8)∧d∧leC (x.3 8) (q 8)∧rngC (x.1 2))) (bankN (x.1 0) (x.1 1) ((x.1 2)-(x.1 43)) (x.1 3))) (Wu [Wa [Wi 0,Wi 0,Wi 0],Wb false])) [fun h=>Ci (x.4 8 0 h)]) (leC (x.3 8) (x.3 8))):=by kernel_rfl
theorem sto_any (x:CtD)(o:Nat→Option Addr)(q:Nat→Nat)(so:Nat→Option Addr)(sc:Nat→Nat)(uo:Nat→Option Addr)(uc:Nat→Nat)(vo:Nat→Option Addr)(vc:Nat→Nat)(line:Int)(w:World)(hA:∀ c∈ctR 0 x o q so sc uo uc vo vc,c.own=false∧c.sat w)(hc1:cap1Ct x)(hR:rngC (x.i 2))(hq:x.n 8≤q 8∧x.n 13≤q 13∧x.n 15≤q 15)(hct:ctB x=true):Calls Tryz.prog 93 #[ctV x o q,.int .i64 line] w fun e w'=>e=.returned (.tuple #[.agg #[.int .i64 (ifZ (btw line 0 (lineN (x.i 0) (x.i 1) (x.i 2-x.i 43) (x.i 3)-1)) (mlK (x.i 21) (x.b 0) (bankN (x.i 0) (x.i 1) (x.i 2-x.i 43) (x.i 3)) (x.i 2-x.i 43) (x.i 3) line)),.int .i64 (ifZ (btw line 0 (lineN (x.i 0) (x.i 1) (x.i 2-x.i 43) (x.i 3)-1)) (srV (x.g 8 0) (x.i 2-x.i 43) (mlK (x.i 21) (x.b 0) (bankN (x.i 0) (x.i 1) (x.i 2-x.i 43) (x.i 3)) (x.i 2-x.i 43) (x.i 3) line) (mlR (x.i 21) (bankN (x.i 0) (x.i 1) (x.i 2-x.i 43) (x.i 3)) (x.i 2-x.i 43) (x.i 3) line))),.int .i64 (ifZ (btw line 0 (lineN (x.i 0) (x.i 1) (x.i 2-x.i 43) (x.i 3)-1)) (mlC (x.i 21) (bankN (x.i 0) (x.i 1) (x.i 2-x.i 43) (x.i 3)) (x.i 3) line))],.bool (btw line 0 (lineN (x.i 0) (x.i 1) (x.i 2-x.i 43) (x.i 3)-1))])∧Below w.heap.size w w':=by
 refine fnB (tb:=[(69,sRgOk),(160,sMl),(161,sSrow)]) ⟨sRgOk_I,sMl_ok_mlI,sSrow_ok,trivial⟩ Tryz.func93 (@Eq.mpr _ _ (sto_T x o q so sc uo uc vo vc line) ?_) (HS.seenAll (fun _=>False) _ hA) (fun v ch' w' hv hs=>⟨by rw [hv],hs.below⟩)
 dsimp -zeta -proj -iota -eta -failIfUnchanged (etaStruct:=.none) only
 clear hA
 have hn:=hc1.1
 have l8:lenC (x.n 8):=by have h:x.n 8≤2097152:=(capOf1Ct hc1).1.2.2.2.2.2.2.2.1;show _≤_;omega
 obtain ⟨q8,q13,q15⟩:=hq
 have e8:leC (x.n 8) (x.n 8):=Nat.le_refl _
 clear hn
 obtain ⟨hspr,h22,hod⟩:=ct_facts hct
 obtain ⟨hg2,hb2,⟨hb3,hb4⟩,⟨hM1,hM2⟩,⟨hK1,hK2⟩,hnl,⟨hR1,hR2⟩,⟨hs1,hs2⟩⟩:=st_facts hct
 have hlb:=line_bd (x.i 0) (x.i 1) (x.i 2-x.i 43) (x.i 3)
 obtain ⟨hlb1,hlb2⟩:=hlb
 have hml:mlB (x.i 0) (x.i 1) (x.i 2-x.i 43) (x.i 3) (x.i 21) line=btw line 0 (lineN (x.i 0) (x.i 1) (x.i 2-x.i 43) (x.i 3)-1):=by simp only [mlB,hg2,hod,Bool.true_and]
 have hml2:mlB (ifZ true (x.i 0)) (ifZ true (x.i 1)) (ifZ true (x.i 2-x.i 43)) (ifZ true (x.i 3)) (x.i 21) line=btw line 0 (lineN (x.i 0) (x.i 1) (x.i 2-x.i 43) (x.i 3)-1):=hml
 rcases bcase (btw line 0 (lineN (x.i 0) (x.i 1) (x.i 2-x.i 43) (x.i 3)-1)) with hl | hl
 ·repeat' (first
   | with_reducible exact rfl
   | exact True.intro
   | with_reducible assumption
   | (show @Eq (List _) _ _;exact rfl)
   | (with_reducible exact hR)
   | (show rng _;exact ⟨by omega,by omega⟩)
   | ((with_reducible show @Eq (List Ch) _ _) <;> exact rfl)
   | (simp only [hspr,hml2,hl] <;> exact rfl)
   | refine And.intro ?_ ?_
   | apply Exists.intro
   | (refine fun (h:@Eq Bool _ _)=>?_;exfalso;first | (simp [hspr,hml2,hl] at h;done) | (simp [hspr,hml2,hl] at h;omega))
   | intro _
   | omega
   | exact rfl)
 ·obtain ⟨⟨i1,i2⟩,i3,i4⟩:=st_in hct hl
  have hsr:srC (x.n 8) (q 8) (x.g 8 0) (x.i 43) (x.i 0) (x.i 1) (x.i 2) (x.i 3) (mlK (x.i 21) (x.b 0) (bankN (x.i 0) (x.i 1) (x.i 2-x.i 43) (x.i 3)) (x.i 2-x.i 43) (x.i 3) line) (mlR (x.i 21) (bankN (x.i 0) (x.i 1) (x.i 2-x.i 43) (x.i 3)) (x.i 2-x.i 43) (x.i 3) line):=⟨hspr,⟨i1,i2⟩,⟨i3,i4⟩,q8,l8,hR⟩
  repeat' (first
   | with_reducible exact rfl
   | exact True.intro
   | with_reducible assumption
   | (show @Eq (List _) _ _;exact rfl)
   | (with_reducible exact hR)
   | (show rng _;exact ⟨by omega,by omega⟩)
   | ((with_reducible show @Eq (List Ch) _ _) <;> exact rfl)
   | (simp only [hspr,hml2,hl];first | exact hsr | exact rfl)
   | refine And.intro ?_ ?_
   | apply Exists.intro
   | (refine fun (h:@Eq Bool _ _)=>?_;exfalso;first | (simp [hspr,hml2,hl] at h;done) | (simp [hspr,hml2,hl] at h;omega))
   | intro _
   | omega
   | exact rfl)
def sCkI (x:CtD)(o:Nat→Option Addr)(q:Nat→Nat)(so:Nat→Option Addr)(sc:Nat→Nat)(uo:Nat→Option Addr)(uc:Nat→Nat)(vo:Nat→Option Addr)(vc:Nat→Nat):Sm:=fun args ch k=>(args=[.a (.agg (ctS 0 x o q))]∧selC ch [0,1,2,3,4,5,6,7,8,9,10,11,12,13,14,15,16,17,18,19,20]=ctR 0 x o q so sc uo uc vo vc∧ctC x q)∧k (.a (.c (.bool (ctB x)))) ch []
theorem sCkI_ok (x:CtD)(o:Nat→Option Addr)(q:Nat→Nat)(so:Nat→Option Addr)(sc:Nat→Nat)(uo:Nat→Option Addr)(uc:Nat→Nat)(vo:Nat→Option Addr)(vc:Nat→Nat):SmOK Tryz.prog 8 (sCkI x o q so sc uo uc vo vc):=by
 refine smB Tryz.call8 fun args ch k w X h0 hs=>?_
 obtain ⟨⟨rfl,hc,⟨hc1,hR,hq⟩⟩,h0⟩:=h0
 refine ⟨_,h0,?_⟩
 have hs2:=hs.sel [0,1,2,3,4,5,6,7,8,9,10,11,12,13,14,15,16,17,18,19,20] (by simp)
 rw [hc] at hs2
 refine ctkI_any x o q so sc uo uc vo vc w (fun c hcm=>?_) hc1 hR hq
 obtain ⟨i,hi⟩:=List.getElem?_of_mem hcm
 refine ⟨?_,hs2.sat i c hi⟩
 simp only [ctR,List.mem_cons,List.not_mem_nil,or_false] at hcm
 rcases hcm with rfl | rfl | rfl | rfl | rfl | rfl | rfl | rfl | rfl | rfl | rfl | rfl | rfl | rfl | rfl | rfl | rfl | rfl | rfl | rfl | rfl <;> rfl
def sCkS (x:CtD)(o:Nat→Option Addr)(q:Nat→Nat)(so:Nat→Option Addr)(sc:Nat→Nat)(uo:Nat→Option Addr)(uc:Nat→Nat)(vo:Nat→Option Addr)(vc:Nat→Nat):Sm:=fun args ch k=>(args=[.a (.agg (ctS 0 x o q))]∧selC ch [0,1,2,3,4,5,6,7,8,9,10,11,12,13,14,15,16,17,18,19,20]=ctR 0 x o q so sc uo uc vo vc∧ctC x q)∧k (.a (.c (.bool (ctB x)))) ch []
theorem sCkS_ok (x:CtD)(o:Nat→Option Addr)(q:Nat→Nat)(so:Nat→Option Addr)(sc:Nat→Nat)(uo:Nat→Option Addr)(uc:Nat→Nat)(vo:Nat→Option Addr)(vc:Nat→Nat):SmOK Tryz.prog 6 (sCkS x o q so sc uo uc vo vc):=by
 refine smB Tryz.call6 fun args ch k w X h0 hs=>?_
 obtain ⟨⟨rfl,hc,⟨hc1,hR,hq⟩⟩,h0⟩:=h0
 refine ⟨_,h0,?_⟩
 have hs2:=hs.sel [0,1,2,3,4,5,6,7,8,9,10,11,12,13,14,15,16,17,18,19,20] (by simp)
 rw [hc] at hs2
 refine ctkS_any x o q so sc uo uc vo vc w (fun c hcm=>?_) hc1 hR hq
 obtain ⟨i,hi⟩:=List.getElem?_of_mem hcm
 refine ⟨?_,hs2.sat i c hi⟩
 simp only [ctR,List.mem_cons,List.not_mem_nil,or_false] at hcm
 rcases hcm with rfl | rfl | rfl | rfl | rfl | rfl | rfl | rfl | rfl | rfl | rfl | rfl | rfl | rfl | rfl | rfl | rfl | rfl | rfl | rfl | rfl <;> rfl
def sSto (x:CtD)(o:Nat→Option Addr)(q:Nat→Nat)(so:Nat→Option Addr)(sc:Nat→Nat)(uo:Nat→Option Addr)(uc:Nat→Nat)(vo:Nat→Option Addr)(vc:Nat→Nat)(line:Int):Sm:=fun args ch k=>(args=[.a (.agg (ctS 0 x o q)),.a (.c (.int line))]∧selC ch [0,1,2,3,4,5,6,7,8,9,10,11,12,13,14,15,16,17,18,19,20]=ctR 0 x o q so sc uo uc vo vc∧ctC2 x q)∧k (.tup [.agg [.int (ifZ (btw line 0 (isub (lineN (x.i 0) (x.i 1) (isub (x.i 2) (x.i 43)) (x.i 3)) 1)) (mlK (x.i 21) (x.b 0) (bankN (x.i 0) (x.i 1) (isub (x.i 2) (x.i 43)) (x.i 3)) (isub (x.i 2) (x.i 43)) (x.i 3) line)),.int (ifZ (btw line 0 (isub (lineN (x.i 0) (x.i 1) (isub (x.i 2) (x.i 43)) (x.i 3)) 1)) (srV (x.g 8 0) (isub (x.i 2) (x.i 43)) (mlK (x.i 21) (x.b 0) (bankN (x.i 0) (x.i 1) (isub (x.i 2) (x.i 43)) (x.i 3)) (isub (x.i 2) (x.i 43)) (x.i 3) line) (mlR (x.i 21) (bankN (x.i 0) (x.i 1) (isub (x.i 2) (x.i 43)) (x.i 3)) (isub (x.i 2) (x.i 43)) (x.i 3) line))),.int (ifZ (btw line 0 (isub (lineN (x.i 0) (x.i 1) (isub (x.i 2) (x.i 43)) (x.i 3)) 1)) (mlC (x.i 21) (bankN (x.i 0) (x.i 1) (isub (x.i 2) (x.i 43)) (x.i 3)) (x.i 3) line))],.c (.bool (btw line 0 (isub (lineN (x.i 0) (x.i 1) (isub (x.i 2) (x.i 43)) (x.i 3)) 1)))]) ch []
theorem sSto_ok (x:CtD)(o:Nat→Option Addr)(q:Nat→Nat)(so:Nat→Option Addr)(sc:Nat→Nat)(uo:Nat→Option Addr)(uc:Nat→Nat)(vo:Nat→Option Addr)(vc:Nat→Nat)(line:Int):SmOK Tryz.prog 93 (sSto x o q so sc uo uc vo vc line):=by
 refine smB Tryz.call93 fun args ch k w X h0 hs=>?_
 obtain ⟨⟨rfl,hc,⟨hc1,hR,hq,hct⟩⟩,h0⟩:=h0
 refine ⟨_,h0,?_⟩
 have hs2:=hs.sel [0,1,2,3,4,5,6,7,8,9,10,11,12,13,14,15,16,17,18,19,20] (by simp)
 rw [hc] at hs2
 refine sto_any x o q so sc uo uc vo vc line w (fun c hcm=>?_) hc1 hR hq hct
 obtain ⟨i,hi⟩:=List.getElem?_of_mem hcm
 refine ⟨?_,hs2.sat i c hi⟩
 simp only [ctR,List.mem_cons,List.not_mem_nil,or_false] at hcm
 rcases hcm with rfl | rfl | rfl | rfl | rfl | rfl | rfl | rfl | rfl | rfl | rfl | rfl | rfl | rfl | rfl | rfl | rfl | rfl | rfl | rfl | rfl <;> rfl
end Go.Proofs.YtmnccapnjphmfaaGreat

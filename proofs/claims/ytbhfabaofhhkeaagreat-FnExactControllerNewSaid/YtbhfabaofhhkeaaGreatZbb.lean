/-
  FnExactControllerNew: a part of the walk (merged and squeezed by program: SxLN).
-/
import Derived.Test.YtbhfabaofhhkeaaGreatZba
namespace Go.Proofs.YtbhfabaofhhkeaaGreat
set_option linter.unusedVariables false
set_option linter.unusedSimpArgs false
open Go.RowKit
set_option maxRecDepth 100000
set_option maxHeartbeats 8000000
theorem law_FnExactControllerNew_T (c:Nat→Int)(hb:Bool)(va:Value)(rsa:List Row)(pd:PolicyD)(xc:CtD)(ok:Bool):(exFn Tryz.prog {tb:=[(4,sSzPolicyO),(6,sToConfig),(7,sToPolX pd),(10,sEqPolicyO),(11,sMarkPolicyO),(9,sEqCtO),(12,sMarkCtN),(13,sHeldCtN),(5,sCtNewX c hb pd xc ok),(8,sCtNewX c hb pd xc ok)],O:=[(5,[8,0,1,2,3,4,5,6,7,9,10]),(7,[7,0,1,2,3,4,5,6,8,9]),(24,[8,0,1,2,3,4,5,6,7,9,10])]} 400 Tryz.f3 ([.a (.agg [.int (c 0),.int (c 1),.int (c 2),.int (c 3),.int (c 4),.int (c 5),.int (c 6),.int (c 7),.int (c 8),.int (c 9),.int (c 10),.int (c 11),.int (c 12),.int (c 13),.int (c 14),.int (c 15),.int (c 16),.int (c 17),.int (c 18),.int (c 19),.int (c 20),.int (c 21),.bool hb,.int (c 22),.int (c 23),.int (c 24),.int (c 25),.int (c 26)]),.a (.c (.obj 0 va))]) ([.obj false rsa]) (fun v _=>v.den=.bool true))=(
 (fun b:SV=>(fun d:SA=>(fun g:SC=>(fun h:SV=>(fun j:Value=>(fun k:Value=>(fun l:Ch=>(fun m:Prop=>(fun n:Prop=>(fun o:Prop=>(fun p:List SC=>(fun q:List Value=>(fun r:SV=>∀ s:Nat,(fun t:Ch=>wholeC true va 8∧∀ u:Nat,(fun w:Ch=>u=u∧∃ x:PolicyD,(isPolicy va x rsa∧lensPolicy x∧szK (1048576:Int))∧j=j∧∀ y:Int,szO y (1048576:Int)→cap1Policy x→((decide (y<(0:Int)))=true→j=j)∧((decide (y<(0:Int)))=false→(∀ z:Nat,s=s∧u=u∧m∧∀(B:Value) (C:List Row),(fun D:Ch=>isPolicy B pd C→(q=(cfgL c hb)∧isPolicy B pd C∧o)∧∀(E:Value) (F:List Row),(fun G:Ch=>(fun H:Ch=>isNewC E xc F→(z=z∧wholeC true E 75)∧u=u∧m∧∀(I:Value) (J:List Row),(fun K:SV=>(fun L:SC=>(fun M:Ch=>(fun N:Prop=>isPolicy I pd J→∀ P:Nat,(fun Q:Ch=>(P=P∧wholeC true I 8)∧(∀ R:Nat,s=s∧P=P∧N∧∀(S:Value) (T:List Row),(fun U:Ch=>isNewC S xc T→(R=R∧wholeC true S 75)∧R=R∧z=z∧∃ V:CtD,(isController S V T∧isController E V F∧capCt V)∧n∧((ok != ok)=false→P=P∧u=u∧m∧∀(W:Value) (X:List Row),(fun Y:Ch=>isPolicy W pd X→True∧∃ Z:PolicyD,(isPolicy I Z J∧isPolicy W Z X∧capPolicy Z)∧True∧P=P∧∃ aa:PolicyD,(fun ab:Bool=>(isPolicy I aa J∧capPolicy aa∧mrkC (1:Int))∧(endC (1:Int) (endPolicy (1:Int) aa) (16777216:Int)→∀ ac:List Row,(fun ad:Ch=>isPolicy I (markPolicyD (1:Int) aa) ac→(ab=false→R=R∧z=z∧∃ af:CtD,(isController S af T∧isController E af F∧capCt af)∧n∧((ok != ok)=false→R=R∧∃ ag:CtD,(fun ah:Int=>(isNewC S ag T∧capN ag∧k1C (1:Int))∧(posZ ah→∀ aj:List Row,(fun ak:Ch=>isNewC S (markX (1:Int) ag) aj→R=R∧∃ al:CtD,(fun am:Int=>(fun an:Bool=>(isNewC S (markX (1:Int) al) aj∧capN al∧k1C (1:Int))∧(an=true→k=j)∧(an=false→((am != ah)=true→k=j)∧((am != ah)=false→(∀ ao:Nat,s=s∧u=u∧m∧∀(ap:Value) (aq:List Row),isPolicy ap pd aq→(q=(cfgL c hb)∧isPolicy ap pd aq∧o)∧∀(ar:Value) (au:List Row),isNewC ar xc au→(ao=ao∧wholeC true ar 75)∧ao=ao∧z=z∧∃ av:CtD,(isController ar av au∧isController E av F∧capCt av)∧n∧((ok != ok)=false→R=R∧∃ aw:CtD,(fun ax:Int=>(fun ay:Bool=>(isNewC S (markX (1:Int) aw) aj∧capN aw∧k1C (1:Int))∧(ay=true→k=j)∧(ay=false→((ax != ah)=true→k=j)∧((ax != ah)=false→j=j))) (decide (ax<(0:Int)))) (endCt (1:Int) aw)))∧s=s∧u=u∧(True∧(m∧∀(ao:Value) (ap:List Row),(fun aq:Prop=>isPolicy ao pd ap→True∧(aq∧∀(ar:Value) (au:List Row),isNewC ar xc au→True∧∀ av:Nat,True∧(av=av∧wholeC true ar 75)∧True∧true=true∧∀ aw:List SV→List Ch→Prop,(∀ ax:Nat,s=s∧u=u∧m∧∀(ay:Value) (az:List Row),isPolicy ay pd az→(q=(cfgL c hb)∧isPolicy ay pd az∧o)∧∀(aA:Value) (aB:List Row),isNewC aA xc aB→(ax=ax∧wholeC true aA 75)∧aw [r,r,h,oV 12 ay,uV [Ao 13 aA,d],uV [Ao 13 aA,d],oV 13 aA,b,pV 11 ax 0,b] [l,t,w,H,D,G,ad,Q,U,ak,Y,Hw ax 75 true 75 (Co 13 aA),Ho true az,Ho true aB])→aw [r,r,h,oV 12 ao,uV [Ao 13 ar,d],uV [Ao 13 ar,d],oV 13 ar,b,pV 11 av 0,b] [l,t,w,H,D,G,ad,Q,U,ak,Y,Hw av 75 true 75 (Co 13 ar),Ho true ap,Ho true au])∧∀ ar:Nat,True∧aq∧∀(au:Value) (av:List Row),isNewC au xc av→True∧(ar=ar∧wholeC true au 75)∧True∧true=true∧∀ aw:List SV→List Ch→Prop,(∀ ax:Nat,s=s∧u=u∧m∧∀(ay:Value) (az:List Row),isPolicy ay pd az→(q=(cfgL c hb)∧isPolicy ay pd az∧o)∧∀(aA:Value) (aB:List Row),isNewC aA xc aB→(ax=ax∧wholeC true aA 75)∧aw [r,r,h,oV 12 ay,uV [Ao 13 aA,d],uV [Ao 13 aA,d],oV 13 aA,b,pV 11 ax 0,b] [l,t,w,H,D,G,ad,Q,U,ak,Y,Hw ax 75 true 75 (Co 13 aA),Ho true az,Ho true aB])→aw [r,r,h,oV 12 ao,uV [Ao 13 au,d],uV [Ao 13 au,d],oV 13 au,b,pV 11 ar 0,b] [l,t,w,H,D,G,ad,Q,U,ak,Y,Hw ar 75 true 75 (Co 13 au),Ho true ap,Ho true av]) (q=(cfgL c hb)∧isPolicy ao pd ap∧o))∧∀ ao:Nat,True∧m∧∀(ap:Value) (aq:List Row),isPolicy ap pd aq→True∧(q=(cfgL c hb)∧isPolicy ap pd aq∧o)∧∀(ar:Value) (au:List Row),isNewC ar xc au→True∧(ao=ao∧wholeC true ar 75)∧True∧true=true∧∀ av:List SV→List Ch→Prop,(∀ aw:Nat,s=s∧u=u∧m∧∀(ax:Value) (ay:List Row),isPolicy ax pd ay→(q=(cfgL c hb)∧isPolicy ax pd ay∧o)∧∀(az:Value) (aA:List Row),isNewC az xc aA→(aw=aw∧wholeC true az 75)∧av [r,r,h,oV 12 ax,uV [Ao 13 az,d],uV [Ao 13 az,d],oV 13 az,b,pV 11 aw 0,b] [l,t,w,H,D,G,ad,Q,U,ak,Y,Hw aw 75 true 75 (Co 13 az),Ho true ay,Ho true aA])→av [r,r,h,oV 12 ap,uV [Ao 13 ar,d],uV [Ao 13 ar,d],oV 13 ar,b,pV 11 ao 0,b] [l,t,w,H,D,G,ad,Q,U,ak,Y,Hw ao 75 true 75 (Co 13 ar),Ho true aq,Ho true au])∧∀ ao:Nat,True∧True∧m∧∀(ap:Value) (aq:List Row),isPolicy ap pd aq→True∧(q=(cfgL c hb)∧isPolicy ap pd aq∧o)∧∀(ar:Value) (au:List Row),isNewC ar xc au→True∧(ao=ao∧wholeC true ar 75)∧True∧true=true∧∀ av:List SV→List Ch→Prop,(∀ aw:Nat,s=s∧u=u∧m∧∀(ax:Value) (ay:List Row),isPolicy ax pd ay→(q=(cfgL c hb)∧isPolicy ax pd ay∧o)∧∀(az:Value) (aA:List Row),isNewC az xc aA→(aw=aw∧wholeC true az 75)∧av [r,r,h,oV 12 ax,uV [Ao 13 az,d],uV [Ao 13 az,d],oV 13 az,b,pV 11 aw 0,b] [l,t,w,H,D,G,ad,Q,U,ak,Y,Hw aw 75 true 75 (Co 13 az),Ho true ay,Ho true aA])→av [r,r,h,oV 12 ap,uV [Ao 13 ar,d],uV [Ao 13 ar,d],oV 13 ar,b,pV 11 ao 0,b] [l,t,w,H,D,G,ad,Q,U,ak,Y,Hw ao 75 true 75 (Co 13 ar),Ho true aq,Ho true au]))) (decide (am<(0:Int)))) (endCt (1:Int) al)) (Ho true aj))) (endCt (1:Int) ag)))∧(ab=true→k=j)) (Ho true ac))) (decide ((endPolicy (1:Int) aa)<(0:Int)))) (Ho true X))) (Hw R 75 true 75 (Co 9 S)))∧s=s∧P=P∧(True∧(N∧∀(R:Value) (S:List Row),isNewC R xc S→True∧∀ T:Nat,True∧(T=T∧wholeC true R 75)∧True∧true=true∧∀ U:List SV→List Ch→Prop,(∀ V:Nat,s=s∧P=P∧N∧∀(W:Value) (X:List Row),isNewC W xc X→(V=V∧wholeC true W 75)∧U [r,r,K,uV [Ao 9 W,d],uV [Ao 9 W,d],oV 9 W,b,pV 8 V 0,b] [l,t,w,H,D,G,M,Q,Hw V 75 true 75 (Co 9 W),Ho true X])→U [r,r,K,uV [Ao 9 R,d],uV [Ao 9 R,d],oV 9 R,b,pV 8 T 0,b] [l,t,w,H,D,G,M,Q,Hw T 75 true 75 (Co 9 R),Ho true S])∧∀ R:Nat,True∧N∧∀(S:Value) (T:List Row),isNewC S xc T→True∧(R=R∧wholeC true S 75)∧True∧true=true∧∀ U:List SV→List Ch→Prop,(∀ V:Nat,s=s∧P=P∧N∧∀(W:Value) (X:List Row),isNewC W xc X→(V=V∧wholeC true W 75)∧U [r,r,K,uV [Ao 9 W,d],uV [Ao 9 W,d],oV 9 W,b,pV 8 V 0,b] [l,t,w,H,D,G,M,Q,Hw V 75 true 75 (Co 9 W),Ho true X])→U [r,r,K,uV [Ao 9 S,d],uV [Ao 9 S,d],oV 9 S,b,pV 8 R 0,b] [l,t,w,H,D,G,M,Q,Hw R 75 true 75 (Co 9 S),Ho true T])∧∀ R:Nat,True∧True∧N∧∀(S:Value) (T:List Row),isNewC S xc T→True∧(R=R∧wholeC true S 75)∧True∧true=true∧∀ U:List SV→List Ch→Prop,(∀ V:Nat,s=s∧P=P∧N∧∀(W:Value) (X:List Row),isNewC W xc X→(V=V∧wholeC true W 75)∧U [r,r,K,uV [Ao 9 W,d],uV [Ao 9 W,d],oV 9 W,b,pV 8 V 0,b] [l,t,w,H,D,G,M,Q,Hw V 75 true 75 (Co 9 W),Ho true X])→U [r,r,K,uV [Ao 9 S,d],uV [Ao 9 S,d],oV 9 S,b,pV 8 R 0,b] [l,t,w,H,D,G,M,Q,Hw R 75 true 75 (Co 9 S),Ho true T]) (Hw P 46 true 8 L)) (q=(cfgL c hb)∧isPolicy I pd J∧o)) (Ho true J)) (Co 6 I)) (oV 6 I)) (Hw z 75 true 75 (Co 5 E))) (Ho true F)) (Ho true C))∧s=s∧u=u∧(True∧(m∧∀(z:Value) (B:List Row),(fun C:Prop=>isPolicy z pd B→True∧(C∧∀(D:Value) (E:List Row),isNewC D xc E→True∧∀ F:Nat,True∧(F=F∧wholeC true D 75)∧True∧true=true∧∀ G:List SV→List Ch→Prop,(∀ H:Nat,s=s∧u=u∧m∧∀(I:Value) (J:List Row),isPolicy I pd J→(q=(cfgL c hb)∧isPolicy I pd J∧o)∧∀(K:Value) (L:List Row),isNewC K xc L→(H=H∧wholeC true K 75)∧G [r,r,h,oV 4 I,uV [Ao 5 K,d],uV [Ao 5 K,d],oV 5 K,b,pV 3 H 0,b] [l,t,w,Hw H 75 true 75 (Co 5 K),Ho true J,Ho true L])→G [r,r,h,oV 4 z,uV [Ao 5 D,d],uV [Ao 5 D,d],oV 5 D,b,pV 3 F 0,b] [l,t,w,Hw F 75 true 75 (Co 5 D),Ho true B,Ho true E])∧∀ D:Nat,True∧C∧∀(E:Value) (F:List Row),isNewC E xc F→True∧(D=D∧wholeC true E 75)∧True∧true=true∧∀ G:List SV→List Ch→Prop,(∀ H:Nat,s=s∧u=u∧m∧∀(I:Value) (J:List Row),isPolicy I pd J→(q=(cfgL c hb)∧isPolicy I pd J∧o)∧∀(K:Value) (L:List Row),isNewC K xc L→(H=H∧wholeC true K 75)∧G [r,r,h,oV 4 I,uV [Ao 5 K,d],uV [Ao 5 K,d],oV 5 K,b,pV 3 H 0,b] [l,t,w,Hw H 75 true 75 (Co 5 K),Ho true J,Ho true L])→G [r,r,h,oV 4 z,uV [Ao 5 E,d],uV [Ao 5 E,d],oV 5 E,b,pV 3 D 0,b] [l,t,w,Hw D 75 true 75 (Co 5 E),Ho true B,Ho true F]) (q=(cfgL c hb)∧isPolicy z pd B∧o))∧∀ z:Nat,True∧m∧∀(B:Value) (C:List Row),isPolicy B pd C→True∧(q=(cfgL c hb)∧isPolicy B pd C∧o)∧∀(D:Value) (E:List Row),isNewC D xc E→True∧(z=z∧wholeC true D 75)∧True∧true=true∧∀ F:List SV→List Ch→Prop,(∀ G:Nat,s=s∧u=u∧m∧∀(H:Value) (I:List Row),isPolicy H pd I→(q=(cfgL c hb)∧isPolicy H pd I∧o)∧∀(J:Value) (K:List Row),isNewC J xc K→(G=G∧wholeC true J 75)∧F [r,r,h,oV 4 H,uV [Ao 5 J,d],uV [Ao 5 J,d],oV 5 J,b,pV 3 G 0,b] [l,t,w,Hw G 75 true 75 (Co 5 J),Ho true I,Ho true K])→F [r,r,h,oV 4 B,uV [Ao 5 D,d],uV [Ao 5 D,d],oV 5 D,b,pV 3 z 0,b] [l,t,w,Hw z 75 true 75 (Co 5 D),Ho true C,Ho true E])∧∀ z:Nat,True∧True∧m∧∀(B:Value) (C:List Row),isPolicy B pd C→True∧(q=(cfgL c hb)∧isPolicy B pd C∧o)∧∀(D:Value) (E:List Row),isNewC D xc E→True∧(z=z∧wholeC true D 75)∧True∧true=true∧∀ F:List SV→List Ch→Prop,(∀ G:Nat,s=s∧u=u∧m∧∀(H:Value) (I:List Row),isPolicy H pd I→(q=(cfgL c hb)∧isPolicy H pd I∧o)∧∀(J:Value) (K:List Row),isNewC J xc K→(G=G∧wholeC true J 75)∧F [r,r,h,oV 4 H,uV [Ao 5 J,d],uV [Ao 5 J,d],oV 5 J,b,pV 3 G 0,b] [l,t,w,Hw G 75 true 75 (Co 5 J),Ho true I,Ho true K])→F [r,r,h,oV 4 B,uV [Ao 5 D,d],uV [Ao 5 D,d],oV 5 D,b,pV 3 z 0,b] [l,t,w,Hw z 75 true 75 (Co 5 D),Ho true C,Ho true E])) (Hw u 36 true 8 g)) (Hc s 31 p)) (aV p)) [Wi (c 0),Wi (c 1),Wi (c 2),Wi (c 3),Wi (c 4),Wi (c 5),Wi (c 6),Wi (c 7),Wi (c 8),Wi (c 9),Wi (c 10),Wi (c 11),Wi (c 12),Wi (c 13),Wi (c 14),Wi (c 15),Wi (c 16),Wi (c 17),Wi (c 18),Wi (c 19),Wi (c 20),Wi (c 21),Wb hb,Wi (c 22),Wi (c 23),Wi (c 24),Wi (c 25),Wi (c 26)]) [Ci (c 0),Ci (c 1),Ci (c 2),Ci (c 3),Ci (c 4),Ci (c 5),Ci (c 6),Ci (c 7),Ci (c 8),Ci (c 9),Ci (c 10),Ci (c 11),Ci (c 12),Ci (c 13),Ci (c 14),Ci (c 15),Ci (c 16),Ci (c 17),Ci (c 18),Ci (c 19),Ci (c 20),Ci (c 21),Cb hb,Ci (c 22),Ci (c 23),Ci (c 24),Ci (c 25),Ci (c 26)]) (newP c hb pd xc ok∧rngC (c 2)∧capPolicy pd)) ((ok != ok)=true→k=j)) (isPolicy va pd rsa∧capPolicy pd)) (Ho false rsa)) (Wb false)) (Wb true)) (oV 0 va)) (Co 0 va)) (Ab ok)) (bV ok)):=by kernel_rfl
theorem law_FnExactControllerNew_any (c:Nat→Int)(hb:Bool)(va:Value)(rsa:List Row)(W:World)(pd:PolicyD)(hx0:isPolicy va pd rsa)(hw0:∀ r∈rsa,r.own=false∧r.sat W)(hn0:pd.WeightsN≤9223372036854775807)(hR:rngC (c 2)):Calls Tryz.prog 3 #[.agg (cfgL c hb).toArray,va] W fun e W'=>e=.returned (.bool true)∧Below W.heap.size W W':=by
 obtain ⟨xc,ok,hnp⟩:=newP_ex c hb pd
 have hcapN:=newP_cap hnp
 have hb1:k1C 1:=⟨by omega,by omega⟩
 refine fn_ok mixed (E:={tb:=[(4,sSzPolicyO),(6,sToConfig),(7,sToPolX pd),(10,sEqPolicyO),(11,sMarkPolicyO),(9,sEqCtO),(12,sMarkCtN),(13,sHeldCtN),(5,sCtNewX c hb pd xc ok),(8,sCtNewX c hb pd xc ok)],O:=[(5,[8,0,1,2,3,4,5,6,7,9,10]),(7,[7,0,1,2,3,4,5,6,8,9]),(24,[8,0,1,2,3,4,5,6,7,9,10])]}) ⟨sSzPolicyO_ok,(sToConfig_ok Tryz.call6 toConfig_any),(sToPolX_ok pd),sEqPolicyO_ok,sMarkPolicyO_ok,sEqCtO_ok,sMarkCtN_ok,sHeldCtN_ok,(sCtNewX_S c hb pd xc ok),(sCtNewX_I c hb pd xc ok),trivial⟩ Tryz.func3 (fun _ _=>loopsOK_nil _ _ _) (@Eq.mpr _ _ (law_FnExactControllerNew_T c hb va rsa pd xc ok) ?_) (HS.seenAll (fun _=>False) [.obj false rsa] (seenC_obj hw0 seenC_nil)) (fun v ch' w' hk hs=>⟨by rw [hk],hs.below⟩)
 dsimp -zeta -proj -iota -eta -failIfUnchanged (etaStruct:=.none) only
 clear hw0
 repeat' (show _;first
  | with_reducible exact rfl
  | with_reducible assumption
  | (intro (Q:List SV→List Ch→Prop) h;repeat (show Q _ _;first | with_reducible exact h | (replace h:=h.2) | (refine (fun h=>?_) (h ?_))))
  | with_reducible exact wholeNewC (by assumption)
  | with_reducible exact isNewC_is (by assumption)
  | with_reducible exact wholePolicy (by assumption)
  | with_reducible exact hcapN
  | with_reducible exact hcapN.1
  | with_reducible exact hb1
  | refine And.intro ?_ ?_
  | apply Exists.intro
  | (refine fun (h:@Eq Bool _ _)=>?_;exfalso;revert h;simp;done)
  | (refine fun (h:@Eq Bool _ _)=>?_;exfalso;simp at h;omega)
  | (refine fun (h:@Eq Bool _ _)=>?_;exfalso;replace h:=of_decide_eq_true h;simp only [mk] at h;omega)
  | intro _
  | exact True.intro
  | exact rfl
  | omega
  | (simp only [mk];omega))
theorem walk_FnExactControllerNew (cs0:Array Value)(cs1:Array Value)(W:World)(h0:Has W (.cons (.cons .int (.cons .int (.cons .int (.cons .int .nil)))) (.cons (.cons .int (.cons .int (.cons .int (.cons .int (.cons .int (.cons .int (.cons .int (.cons .int (.cons .int (.cons .int (.cons .int (.cons .int (.cons .int (.cons .int (.cons .int (.cons .int (.cons .int .nil))))))))))))))))) (.cons (.cons .int (.cons .bool .nil)) (.cons .int (.cons .int (.cons .int (.cons (.cons .int (.cons .int .nil)) .nil))))))) cs0.toList)(h1:Has W (.cons .int (.cons .int (.cons .int (.cons .int (.cons .int (.cons (.slice .int) (.cons (.cons .int (.cons .int .nil)) .nil))))))) cs1.toList):Calls Tryz.prog 3 #[.agg cs0,.agg cs1] W fun e W'=>e=.returned (.bool true)∧Below W.heap.size W W':=by
 obtain ⟨l0,hl0⟩:∃ l,cs0.toList=l:=⟨_,rfl⟩
 rw [hl0] at h0
 obtain ⟨_,_,rfl,h0Geometry,h0_f0⟩:=has_struct h0
 obtain ⟨aCGeometryGroups,_,rfl,baCGeometryGroups,h0Geometry_f0⟩:=has_int h0Geometry
 obtain ⟨aCGeometryBanks,_,rfl,baCGeometryBanks,h0Geometry_f1⟩:=has_int h0Geometry_f0
 obtain ⟨aCGeometryRows,_,rfl,baCGeometryRows,h0Geometry_f2⟩:=has_int h0Geometry_f1
 obtain ⟨aCGeometryCols,_,rfl,baCGeometryCols,h0Geometry_f3⟩:=has_int h0Geometry_f2
 obtain rfl:=has_nil h0Geometry_f3
 obtain ⟨_,_,rfl,h0Timing,h0_f1⟩:=has_struct h0_f0
 obtain ⟨aCTimingRCD,_,rfl,baCTimingRCD,h0Timing_f0⟩:=has_int h0Timing
 obtain ⟨aCTimingRP,_,rfl,baCTimingRP,h0Timing_f1⟩:=has_int h0Timing_f0
 obtain ⟨aCTimingRAS,_,rfl,baCTimingRAS,h0Timing_f2⟩:=has_int h0Timing_f1
 obtain ⟨aCTimingRRDS,_,rfl,baCTimingRRDS,h0Timing_f3⟩:=has_int h0Timing_f2
 obtain ⟨aCTimingRRDL,_,rfl,baCTimingRRDL,h0Timing_f4⟩:=has_int h0Timing_f3
 obtain ⟨aCTimingFAW,_,rfl,baCTimingFAW,h0Timing_f5⟩:=has_int h0Timing_f4
 obtain ⟨aCTimingCCDS,_,rfl,baCTimingCCDS,h0Timing_f6⟩:=has_int h0Timing_f5
 obtain ⟨aCTimingCCDL,_,rfl,baCTimingCCDL,h0Timing_f7⟩:=has_int h0Timing_f6
 obtain ⟨aCTimingRTP,_,rfl,baCTimingRTP,h0Timing_f8⟩:=has_int h0Timing_f7
 obtain ⟨aCTimingWR,_,rfl,baCTimingWR,h0Timing_f9⟩:=has_int h0Timing_f8
 obtain ⟨aCTimingWTRS,_,rfl,baCTimingWTRS,h0Timing_f10⟩:=has_int h0Timing_f9
 obtain ⟨aCTimingWTRL,_,rfl,baCTimingWTRL,h0Timing_f11⟩:=has_int h0Timing_f10
 obtain ⟨aCTimingRTW,_,rfl,baCTimingRTW,h0Timing_f12⟩:=has_int h0Timing_f11
 obtain ⟨aCTimingRFC,_,rfl,baCTimingRFC,h0Timing_f13⟩:=has_int h0Timing_f12
 obtain ⟨aCTimingCKE,_,rfl,baCTimingCKE,h0Timing_f14⟩:=has_int h0Timing_f13
 obtain ⟨aCTimingXP,_,rfl,baCTimingXP,h0Timing_f15⟩:=has_int h0Timing_f14
 obtain ⟨aCTimingXS,_,rfl,baCTimingXS,h0Timing_f16⟩:=has_int h0Timing_f15
 obtain rfl:=has_nil h0Timing_f16
 obtain ⟨_,_,rfl,h0Mapping,h0_f2⟩:=has_struct h0_f1
 obtain ⟨aCMappingOrder,_,rfl,baCMappingOrder,h0Mapping_f0⟩:=has_int h0Mapping
 obtain ⟨aCMappingHash,_,rfl,h0Mapping_f1⟩:=has_bool h0Mapping_f0
 obtain rfl:=has_nil h0Mapping_f1
 obtain ⟨aCSpares,_,rfl,baCSpares,h0_f3⟩:=has_int h0_f2
 obtain ⟨aCInterval,_,rfl,baCInterval,h0_f4⟩:=has_int h0_f3
 obtain ⟨aCTrack,_,rfl,baCTrack,h0_f5⟩:=has_int h0_f4
 obtain ⟨_,_,rfl,h0Limits,h0_f6⟩:=has_struct h0_f5
 obtain ⟨aCLimitsAge,_,rfl,baCLimitsAge,h0Limits_f0⟩:=has_int h0Limits
 obtain ⟨aCLimitsHits,_,rfl,baCLimitsHits,h0Limits_f1⟩:=has_int h0Limits_f0
 obtain rfl:=has_nil h0Limits_f1
 obtain rfl:=has_nil h0_f6
 rw [arr_of hl0]
 obtain ⟨l1,hl1⟩:∃ l,cs1.toList=l:=⟨_,rfl⟩
 rw [hl1] at h1
 obtain ⟨aPPage,_,rfl,baPPage,h1_f0⟩:=has_int h1
 obtain ⟨aPCap,_,rfl,baPCap,h1_f1⟩:=has_int h1_f0
 obtain ⟨aPLimit,_,rfl,baPLimit,h1_f2⟩:=has_int h1_f1
 obtain ⟨aPLow,_,rfl,baPLow,h1_f3⟩:=has_int h1_f2
 obtain ⟨aPHigh,_,rfl,baPHigh,h1_f4⟩:=has_int h1_f3
 obtain ⟨aPWeightsO,aPWeightsN,aPWeightsC,_,rfl,hsaPWeights,h1_f5⟩:=has_slice h1_f4
 obtain ⟨hnaPWeights,aPWeightsG,bGaPWeights,hraPWeights⟩:=row_of_has (s:=1) (.inl ⟨rfl,rfl⟩) (by omega) rfl hsaPWeights
 obtain ⟨_,_,rfl,h1Rule,h1_f6⟩:=has_struct h1_f5
 obtain ⟨aPRuleDown,_,rfl,baPRuleDown,h1Rule_f0⟩:=has_int h1Rule
 obtain ⟨aPRuleSleep,_,rfl,baPRuleSleep,h1Rule_f1⟩:=has_int h1Rule_f0
 obtain rfl:=has_nil h1Rule_f1
 obtain rfl:=has_nil h1_f6
 rw [arr_of hl1]
 exact law_FnExactControllerNew_any (fun s=>pickL [aCGeometryGroups,aCGeometryBanks,aCGeometryRows,aCGeometryCols,aCTimingRCD,aCTimingRP,aCTimingRAS,aCTimingRRDS,aCTimingRRDL,aCTimingFAW,aCTimingCCDS,aCTimingCCDL,aCTimingRTP,aCTimingWR,aCTimingWTRS,aCTimingWTRL,aCTimingRTW,aCTimingRFC,aCTimingCKE,aCTimingXP,aCTimingXS,aCMappingOrder,aCSpares,aCInterval,aCTrack,aCLimitsAge,aCLimitsHits] 0 s) aCMappingHash (.agg #[.int .i64 aPPage,.int .i64 aPCap,.int .i64 aPLimit,.int .i64 aPLow,.int .i64 aPHigh,.slice aPWeightsO aPWeightsN aPWeightsC,.int .i64 aPRuleDown,.int .i64 aPRuleSleep]) [⟨false,aPWeightsO,0,1,aPWeightsN,0,[fun i=>.int (aPWeightsG 0 i)]⟩] W ⟨aPPage,aPCap,aPLimit,aPLow,aPHigh,aPWeightsN,(aPWeightsG 0),aPRuleDown,aPRuleSleep⟩ ⟨_,_,_,_,_,rfl,rfl⟩ (rows_seen [⟨false,aPWeightsO,0,1,aPWeightsN,0,[fun i=>.int (aPWeightsG 0 i)]⟩] (by simp;exact hraPWeights)) hnaPWeights baCGeometryRows
end Go.Proofs.YtbhfabaofhhkeaaGreat

/-
  FnExactStoredAddr: a part of the walk (merged and squeezed by program: SxHas SxLC2).
-/
import Derived.Test.YtmnccapnjphmfaaGreatZbbo
namespace Go.Proofs.YtmnccapnjphmfaaGreat
set_option linter.unusedVariables false
set_option linter.unusedSimpArgs false
open Go.RowKit
set_option maxRecDepth 100000
set_option maxHeartbeats 8000000
def shK:List Bool→Ty
 | []=>.nil
 | true::r=>.cons .int (shK r)
 | false::r=>.cons .bool (shK r)
theorem has_kinds {w:World}:∀ (K:List Bool) (es:List Value),Has w (shK K) es→∀ c,c<K.length→∃ (n:Int) (b:Bool),es[c]?=some (if K[c]?=some true then .int .i64 n else .bool b)
 | [],es,h,c,hc=>absurd hc (Nat.not_lt_zero c)
 | true::r,es,h,c,hc=>by
  obtain ⟨n,l,rfl,_,h⟩:=has_int h
  cases c with
  | zero=>exact ⟨n,false,rfl⟩
  | succ c =>
   obtain ⟨n,b,h⟩:=has_kinds r l h c (by simpa using hc)
   exact ⟨n,b,by simpa using h⟩
 | false::r,es,h,c,hc=>by
  obtain ⟨b,l,rfl,h'⟩:=has_bool h
  cases c with
  | zero=>exact ⟨0,b,rfl⟩
  | succ c =>
   obtain ⟨n,b,h2⟩:=has_kinds r l h' c (by simpa using hc)
   exact ⟨n,b,by simpa using h2⟩
theorem flK_at {u:Nat→Nat→Int}{v:Nat→Nat→Bool}:∀ (K:List Bool) (k c:Nat) (f:Nat→SC),(flK u v k K)[c]?=some f→c<K.length∧f=fun i=>if K[c]?=some true then .int (u (k+c) i) else .bool (v (k+c) i)
 | [],k,c,f,h=>by simp [flK] at h
 | true::r,k,c,f,h=>by
  cases c with
  | zero=>simp [flK] at h;subst h;simp
  | succ c =>
   obtain ⟨h1,h2⟩:=flK_at r (k+1) c f (by simpa [flK] using h)
   refine ⟨by simp;omega,?_⟩
   rw [h2,show k+1+c=k+(c+1) by omega]
   simp
 | false::r,k,c,f,h=>by
  cases c with
  | zero=>simp [flK] at h;subst h;simp
  | succ c =>
   obtain ⟨h1,h2⟩:=flK_at r (k+1) c f (by simpa [flK] using h)
   refine ⟨by simp;omega,?_⟩
   rw [h2,show k+1+c=k+(c+1) by omega]
   simp
theorem flK_len {u:Nat→Nat→Int}{v:Nat→Nat→Bool}:∀ (K:List Bool) (k:Nat),(flK u v k K).length=K.length
 | [],_=>rfl
 | true::r,k=>congrArg Nat.succ (flK_len r (k+1))
 | false::r,k=>congrArg Nat.succ (flK_len r (k+1))
theorem row_flat {w:World}(K:List Bool)(hK:0<K.length){e:Ty}(hz:e.size=K.length)(he:∀ es,Has w e es→Has w (shK K) es){ao:Option Addr}{len cap:Nat}(h:Has w (.slice e) [.slice ao len cap]) :
  len≤maxLen∧∃ (u:Nat→Nat→Int) (v:Nat→Nat→Bool),Row.sat w ⟨false,ao,0,K.length,len,0,flK u v 0 K⟩:=by
 obtain ⟨ao',len',cap',h1,hlen,h2⟩:=h
 injection h1 with h1
 injection h1 with e1 e2 e3
 subst e1
 subst e2
 refine ⟨hlen,?_⟩
 have hG:∀ c i,∃ (n:Int) (p:Bool),i<len→c<K.length→∃ b off,ao=some ⟨b,off,none⟩∧w.cell? ⟨b,off+(i*K.length+c),none⟩=some (if K[c]?=some true then .int .i64 n else .bool p):=fun c i=>by
  by_cases hi:i<len
  ·by_cases hc:c<K.length
   ·obtain ⟨b,off,es,ha,hl,hcl,hh⟩:=h2 i hi
    obtain ⟨n,p,hn⟩:=has_kinds K es (he es hh) c hc
    refine ⟨n,p,fun _ _=>⟨b,off,ha,?_⟩⟩
    have:=hcl c (by rw [hz];exact hc)
    rw [hz,Nat.add_assoc] at this
    rw [this,hn]
   ·exact ⟨0,false,fun _ h=>absurd h hc⟩
  ·exact ⟨0,false,fun h=>absurd h hi⟩
 refine ⟨fun c i=>(hG c i).choose,fun c i=>(hG c i).choose_spec.choose,flK_len K 0,fun _ hn=>?_,fun ho=>(by cases ho)⟩
 obtain ⟨b0,off0,ha0,hc0⟩:=(hG 0 0).choose_spec.choose_spec hn hK
 refine ⟨b0,off0,ha0,World.block_lt_of_cell? w _ hc0,fun i hi c f hf=>?_⟩
 obtain ⟨hc,rfl⟩:=flK_at K 0 c f hf
 obtain ⟨b1,off1,ha1,hc1⟩:=(hG c i).choose_spec.choose_spec hi hc
 rw [ha0] at ha1
 injection ha1 with ha1
 injection ha1 with e1 e2
 subst e1
 subst e2
 rw [hc1,Nat.zero_add]
 split <;> rfl
theorem has_event {w:World}(es:List Value)(h:Has w (.cons .int (.cons (.cons .int (.cons .int (.cons .int (.cons .int .nil)))) .nil)) es):Has w (shK [true,true,true,true,true]) es:=by
 obtain ⟨n,l,rfl,b,h1⟩:=has_int h
 obtain ⟨a,r,rfl,h2,h3⟩:=has_struct h1
 obtain rfl:=has_nil h3
 refine ⟨[.int .i64 n],a ++ [],rfl,⟨n,rfl,b⟩,?_⟩
 rw [List.append_nil]
 exact h2
theorem has_trk {w:World}{ao:Option Addr}{len cap:Nat}(h:Has w (.slice (.cons (.slice .int) (.cons (.slice .int) (.cons .int .nil)))) [.slice ao len cap]) :
  ∃ (x:TK) (so:Nat→Option Addr) (sc:Nat→Nat) (uo:Nat→Option Addr) (uc:Nat→Nat),x.n=len∧lensT x∧SeenT w x ao so sc uo uc:=by
 obtain ⟨ao',len',cap',h1,hlen,h2⟩:=h
 injection h1 with h1
 injection h1 with e1 e2 e3
 subst e1
 subst e2
 have hel:∀ i,∃ (O:Option Addr) (N C:Nat) (g:Nat→Int) (P:Option Addr) (M D:Nat) (k:Nat→Int) (z:Int),i<len→(∃ b off,ao=some ⟨b,off,none⟩∧b<w.heap.size∧w.cell? ⟨b,off+(i*3+0),none⟩=some (.slice O N C)∧w.cell? ⟨b,off+(i*3+1),none⟩=some (.slice P M D)∧w.cell? ⟨b,off+(i*3+2),none⟩=some (.int .i64 z))∧(N≤maxLen∧M≤maxLen)∧Row.sat w ⟨false,O,0,1,N,0,[fun j=>.int (g j)]⟩∧Row.sat w ⟨false,P,0,1,M,0,[fun j=>.int (k j)]⟩:=fun i=>by
  by_cases hi:i<len
  ·obtain ⟨b,off,es,ha,hl,hc,hh⟩:=h2 i hi
   obtain ⟨O,N,C,r1,rfl,hs,hh1⟩:=has_slice hh
   obtain ⟨P,M,D,r2,rfl,hs2,hh2⟩:=has_slice hh1
   obtain ⟨z,r3,rfl,_,hh3⟩:=has_int hh2
   obtain rfl:=has_nil hh3
   obtain ⟨hN,G,_,hr⟩:=row_of_has (s:=1) (.inl ⟨rfl,rfl⟩) (by omega) rfl hs
   obtain ⟨hM,G2,_,hr2⟩:=row_of_has (s:=1) (.inl ⟨rfl,rfl⟩) (by omega) rfl hs2
   refine ⟨O,N,C,G 0,P,M,D,G2 0,z,fun _=>⟨⟨b,off,ha,?_,?_,?_,?_⟩,⟨hN,hM⟩,hr,hr2⟩⟩
   ·have:=hc 0 (by decide)
    exact World.block_lt_of_cell? w _ this
   ·have:=hc 0 (by decide)
    simpa [Ty.size] using this
   ·have:=hc 1 (by decide)
    simpa [Ty.size,Nat.add_assoc] using this
   ·have:=hc 2 (by decide)
    simpa [Ty.size,Nat.add_assoc] using this
  ·exact ⟨none,0,0,fun _=>0,none,0,0,fun _=>0,0,fun h=>absurd h hi⟩
 obtain ⟨O,hel1⟩:=Classical.axiomOfChoice hel
 obtain ⟨N,hel2⟩:=Classical.axiomOfChoice hel1
 obtain ⟨C,hel3⟩:=Classical.axiomOfChoice hel2
 obtain ⟨g,hel4⟩:=Classical.axiomOfChoice hel3
 obtain ⟨P,hel5⟩:=Classical.axiomOfChoice hel4
 obtain ⟨M,hel6⟩:=Classical.axiomOfChoice hel5
 obtain ⟨D,hel7⟩:=Classical.axiomOfChoice hel6
 obtain ⟨k,hel8⟩:=Classical.axiomOfChoice hel7
 obtain ⟨z,hel9⟩:=Classical.axiomOfChoice hel8
 have hel:=hel9
 refine ⟨⟨len,N,g,M,k,z⟩,O,C,P,D,rfl,⟨hlen,fun i hi=>(hel i hi).2.1⟩,fun a b=>?_,fun r hr=>?_,fun r hr=>?_⟩
 ·refine ⟨rfl,fun _ hn=>?_,fun ho=>(by cases ho)⟩
  have hn:0<len:=hn
  obtain ⟨⟨b,off,ha,hb,_⟩,_⟩:=hel 0 hn
  refine ⟨b,off,ha,hb,fun i hi c f hf=>?_⟩
  obtain ⟨⟨b',off',ha',_,h3,h4,h5⟩,_⟩:=hel i hi
  rw [ha] at ha'
  injection ha' with ha'
  injection ha' with e1 e2
  subst e1 e2
  match c with
  | 0=>simp [trkFld] at hf;subst hf;simpa [SC.den] using h3
  | 1=>simp [trkFld] at hf;subst hf;simpa [SC.den] using h4
  | 2=>simp [trkFld] at hf;subst hf;simpa [SC.den] using h5
  | c+3=>simp [trkFld] at hf
 ·obtain ⟨i,hi,rfl⟩:=List.mem_map.1 hr
  exact ⟨rfl,(hel i (List.mem_range.1 hi)).2.2.1⟩
 ·obtain ⟨i,hi,rfl⟩:=List.mem_map.1 hr
  exact ⟨rfl,(hel i (List.mem_range.1 hi)).2.2.2⟩
theorem has_controller {w:World}{l:List Value}(h:Has w (.cons (.cons (.cons .int (.cons .int (.cons .int (.cons .int .nil)))) (.cons (.cons .int (.cons .int (.cons .int (.cons .int (.cons .int (.cons .int (.cons .int (.cons .int (.cons .int (.cons .int (.cons .int (.cons .int (.cons .int (.cons .int (.cons .int (.cons .int (.cons .int .nil))))))))))))))))) (.cons (.cons .int (.cons .bool .nil)) (.cons .int (.cons .int (.cons .int (.cons (.cons .int (.cons .int .nil)) .nil))))))) (.cons (.cons (.cons .int (.cons .int (.cons .int (.cons .int (.cons .int (.cons (.slice .int) (.cons (.cons .int (.cons .int .nil)) .nil))))))) (.cons (.cons .int (.cons .int (.cons .int (.cons .int (.cons .int (.cons (.slice .int) (.cons (.cons .int (.cons .int .nil)) .nil))))))) (.cons .bool .nil))) (.cons .int (.cons (.cons (.slice (.cons .bool (.cons .int .nil))) (.cons .int .nil)) (.cons (.cons (.slice .int) (.cons (.slice .int) .nil)) (.cons (.cons (.slice (.cons (.slice .int) (.cons .bool .nil))) (.cons (.slice .int) (.cons (.slice .int) .nil))) (.cons (.cons .int (.cons (.slice .int) .nil)) (.cons (.cons (.slice .int) (.cons .int (.cons .bool .nil))) (.cons (.slice (.cons (.slice .int) (.cons (.slice .int) (.cons .int .nil)))) (.cons (.slice .int) (.cons (.slice (.cons .int (.cons .int (.cons .int .nil)))) (.cons (.slice (.cons .int (.cons .int (.cons .int (.cons .bool (.cons .int (.cons .int .nil))))))) (.cons (.slice (.cons .int (.cons .int .nil))) (.cons (.cons .bool (.cons .int (.cons .int .nil))) (.cons (.cons .int (.cons .int (.cons .int .nil))) (.cons (.cons .int (.cons .int (.cons .int .nil))) (.cons (.slice (.cons .int (.cons .int (.cons .int .nil)))) (.cons (.slice (.cons .int (.cons (.cons .int (.cons .int (.cons .int (.cons .int .nil)))) .nil))) (.cons (.slice (.cons .int (.cons .int (.cons .int (.cons .int .nil))))) .nil))))))))))))))))))) l) :
  ∃ (x:CtD) (v:Value) (rs:List Row),v=.agg l.toArray∧isController v x rs∧(∀ r∈rs,r.own=false∧r.sat w)∧lensCt x∧rngC (x.i 2):=by
 obtain ⟨_,_,rfl,g1,q2⟩:=has_struct h
 obtain ⟨_,_,rfl,g3,q4⟩:=has_struct g1
 obtain ⟨i5,_,rfl,bi5,q6⟩:=has_int g3
 obtain ⟨i7,_,rfl,bi7,q8⟩:=has_int q6
 obtain ⟨i9,_,rfl,bi9,q10⟩:=has_int q8
 obtain ⟨i11,_,rfl,bi11,q12⟩:=has_int q10
 obtain rfl:=has_nil q12
 obtain ⟨_,_,rfl,g13,q14⟩:=has_struct q4
 obtain ⟨i15,_,rfl,bi15,q16⟩:=has_int g13
 obtain ⟨i17,_,rfl,bi17,q18⟩:=has_int q16
 obtain ⟨i19,_,rfl,bi19,q20⟩:=has_int q18
 obtain ⟨i21,_,rfl,bi21,q22⟩:=has_int q20
 obtain ⟨i23,_,rfl,bi23,q24⟩:=has_int q22
 obtain ⟨i25,_,rfl,bi25,q26⟩:=has_int q24
 obtain ⟨i27,_,rfl,bi27,q28⟩:=has_int q26
 obtain ⟨i29,_,rfl,bi29,q30⟩:=has_int q28
 obtain ⟨i31,_,rfl,bi31,q32⟩:=has_int q30
 obtain ⟨i33,_,rfl,bi33,q34⟩:=has_int q32
 obtain ⟨i35,_,rfl,bi35,q36⟩:=has_int q34
 obtain ⟨i37,_,rfl,bi37,q38⟩:=has_int q36
 obtain ⟨i39,_,rfl,bi39,q40⟩:=has_int q38
 obtain ⟨i41,_,rfl,bi41,q42⟩:=has_int q40
 obtain ⟨i43,_,rfl,bi43,q44⟩:=has_int q42
 obtain ⟨i45,_,rfl,bi45,q46⟩:=has_int q44
 obtain ⟨i47,_,rfl,bi47,q48⟩:=has_int q46
 obtain rfl:=has_nil q48
 obtain ⟨_,_,rfl,g49,q50⟩:=has_struct q14
 obtain ⟨i51,_,rfl,bi51,q52⟩:=has_int g49
 obtain ⟨b53,_,rfl,q54⟩:=has_bool q52
 obtain rfl:=has_nil q54
 obtain ⟨i55,_,rfl,bi55,q56⟩:=has_int q50
 obtain ⟨i57,_,rfl,bi57,q58⟩:=has_int q56
 obtain ⟨i59,_,rfl,bi59,q60⟩:=has_int q58
 obtain ⟨_,_,rfl,g61,q62⟩:=has_struct q60
 obtain ⟨i63,_,rfl,bi63,q64⟩:=has_int g61
 obtain ⟨i65,_,rfl,bi65,q66⟩:=has_int q64
 obtain rfl:=has_nil q66
 obtain rfl:=has_nil q62
 obtain ⟨_,_,rfl,g67,q68⟩:=has_struct q2
 obtain ⟨_,_,rfl,g69,q70⟩:=has_struct g67
 obtain ⟨i71,_,rfl,bi71,q72⟩:=has_int g69
 obtain ⟨i73,_,rfl,bi73,q74⟩:=has_int q72
 obtain ⟨i75,_,rfl,bi75,q76⟩:=has_int q74
 obtain ⟨i77,_,rfl,bi77,q78⟩:=has_int q76
 obtain ⟨i79,_,rfl,bi79,q80⟩:=has_int q78
 obtain ⟨O0,N0,C0,_,rfl,hs0,q82⟩:=has_slice q80
 obtain ⟨_,_,rfl,g83,q84⟩:=has_struct q82
 obtain ⟨i85,_,rfl,bi85,q86⟩:=has_int g83
 obtain ⟨i87,_,rfl,bi87,q88⟩:=has_int q86
 obtain rfl:=has_nil q88
 obtain rfl:=has_nil q84
 obtain ⟨_,_,rfl,g89,q90⟩:=has_struct q70
 obtain ⟨i91,_,rfl,bi91,q92⟩:=has_int g89
 obtain ⟨i93,_,rfl,bi93,q94⟩:=has_int q92
 obtain ⟨i95,_,rfl,bi95,q96⟩:=has_int q94
 obtain ⟨i97,_,rfl,bi97,q98⟩:=has_int q96
 obtain ⟨i99,_,rfl,bi99,q100⟩:=has_int q98
 obtain ⟨O1,N1,C1,_,rfl,hs1,q102⟩:=has_slice q100
 obtain ⟨_,_,rfl,g103,q104⟩:=has_struct q102
 obtain ⟨i105,_,rfl,bi105,q106⟩:=has_int g103
 obtain ⟨i107,_,rfl,bi107,q108⟩:=has_int q106
 obtain rfl:=has_nil q108
 obtain rfl:=has_nil q104
 obtain ⟨b109,_,rfl,q110⟩:=has_bool q90
 obtain rfl:=has_nil q110
 obtain ⟨i111,_,rfl,bi111,q112⟩:=has_int q68
 obtain ⟨_,_,rfl,g113,q114⟩:=has_struct q112
 obtain ⟨O2,N2,C2,_,rfl,hs2,q116⟩:=has_slice g113
 obtain ⟨i117,_,rfl,bi117,q118⟩:=has_int q116
 obtain rfl:=has_nil q118
 obtain ⟨_,_,rfl,g119,q120⟩:=has_struct q114
 obtain ⟨O3,N3,C3,_,rfl,hs3,q122⟩:=has_slice g119
 obtain ⟨O4,N4,C4,_,rfl,hs4,q124⟩:=has_slice q122
 obtain rfl:=has_nil q124
 obtain ⟨_,_,rfl,g125,q126⟩:=has_struct q120
 obtain ⟨O5,N5,C5,_,rfl,hs5,q128⟩:=has_slice g125
 obtain ⟨O6,N6,C6,_,rfl,hs6,q130⟩:=has_slice q128
 obtain ⟨O7,N7,C7,_,rfl,hs7,q132⟩:=has_slice q130
 obtain rfl:=has_nil q132
 obtain ⟨_,_,rfl,g133,q134⟩:=has_struct q126
 obtain ⟨i135,_,rfl,bi135,q136⟩:=has_int g133
 obtain ⟨O8,N8,C8,_,rfl,hs8,q138⟩:=has_slice q136
 obtain rfl:=has_nil q138
 obtain ⟨_,_,rfl,g139,q140⟩:=has_struct q134
 obtain ⟨O9,N9,C9,_,rfl,hs9,q142⟩:=has_slice g139
 obtain ⟨i143,_,rfl,bi143,q144⟩:=has_int q142
 obtain ⟨b145,_,rfl,q146⟩:=has_bool q144
 obtain rfl:=has_nil q146
 obtain ⟨O10,N10,C10,_,rfl,hs10,q148⟩:=has_slice q140
 obtain ⟨O11,N11,C11,_,rfl,hs11,q150⟩:=has_slice q148
 obtain ⟨O12,N12,C12,_,rfl,hs12,q152⟩:=has_slice q150
 obtain ⟨O13,N13,C13,_,rfl,hs13,q154⟩:=has_slice q152
 obtain ⟨O14,N14,C14,_,rfl,hs14,q156⟩:=has_slice q154
 obtain ⟨_,_,rfl,g157,q158⟩:=has_struct q156
 obtain ⟨b159,_,rfl,q160⟩:=has_bool g157
 obtain ⟨i161,_,rfl,bi161,q162⟩:=has_int q160
 obtain ⟨i163,_,rfl,bi163,q164⟩:=has_int q162
 obtain rfl:=has_nil q164
 obtain ⟨_,_,rfl,g165,q166⟩:=has_struct q158
 obtain ⟨i167,_,rfl,bi167,q168⟩:=has_int g165
 obtain ⟨i169,_,rfl,bi169,q170⟩:=has_int q168
 obtain ⟨i171,_,rfl,bi171,q172⟩:=has_int q170
 obtain rfl:=has_nil q172
 obtain ⟨_,_,rfl,g173,q174⟩:=has_struct q166
 obtain ⟨i175,_,rfl,bi175,q176⟩:=has_int g173
 obtain ⟨i177,_,rfl,bi177,q178⟩:=has_int q176
 obtain ⟨i179,_,rfl,bi179,q180⟩:=has_int q178
 obtain rfl:=has_nil q180
 obtain ⟨O15,N15,C15,_,rfl,hs15,q182⟩:=has_slice q174
 obtain ⟨O16,N16,C16,_,rfl,hs16,q184⟩:=has_slice q182
 obtain ⟨O17,N17,C17,_,rfl,hs17,q186⟩:=has_slice q184
 obtain rfl:=has_nil q186
 obtain ⟨hn0,G0,_,hr0⟩:=row_of_has (s:=1) (.inl ⟨rfl,rfl⟩) (by omega) rfl hs0
 obtain ⟨hn1,G1,_,hr1⟩:=row_of_has (s:=1) (.inl ⟨rfl,rfl⟩) (by omega) rfl hs1
 obtain ⟨hn2,G2,V2,hr2⟩:=row_flat [false,true] (by decide) (by rfl) (fun _ h=>h) hs2
 obtain ⟨hn3,G3,_,hr3⟩:=row_of_has (s:=1) (.inl ⟨rfl,rfl⟩) (by omega) rfl hs3
 obtain ⟨hn4,G4,_,hr4⟩:=row_of_has (s:=1) (.inl ⟨rfl,rfl⟩) (by omega) rfl hs4
 obtain ⟨xc,so,sc,rfl,hn5,hsn,hC⟩:=has_cells rfl hs5
 obtain ⟨hn6,G6,_,hr6⟩:=row_of_has (s:=1) (.inl ⟨rfl,rfl⟩) (by omega) rfl hs6
 obtain ⟨hn7,G7,_,hr7⟩:=row_of_has (s:=1) (.inl ⟨rfl,rfl⟩) (by omega) rfl hs7
 obtain ⟨hn8,G8,_,hr8⟩:=row_of_has (s:=1) (.inl ⟨rfl,rfl⟩) (by omega) rfl hs8
 obtain ⟨hn9,G9,_,hr9⟩:=row_of_has (s:=1) (.inl ⟨rfl,rfl⟩) (by omega) rfl hs9
 obtain ⟨xt,uo,uc,vo,vc,rfl,hT,hTS⟩:=has_trk hs10
 obtain ⟨hn11,G11,_,hr11⟩:=row_of_has (s:=1) (.inl ⟨rfl,rfl⟩) (by omega) rfl hs11
 obtain ⟨hn12,G12,V12,hr12⟩:=row_flat [true,true,true] (by decide) (by rfl) (fun _ h=>h) hs12
 obtain ⟨hn13,G13,V13,hr13⟩:=row_flat [true,true,true,false,true,true] (by decide) (by rfl) (fun _ h=>h) hs13
 obtain ⟨hn14,G14,V14,hr14⟩:=row_flat [true,true] (by decide) (by rfl) (fun _ h=>h) hs14
 obtain ⟨hn15,G15,V15,hr15⟩:=row_flat [true,true,true] (by decide) (by rfl) (fun _ h=>h) hs15
 obtain ⟨hn16,G16,V16,hr16⟩:=row_flat [true,true,true,true,true] (by decide) (by rfl) has_event hs16
 obtain ⟨hn17,G17,V17,hr17⟩:=row_flat [true,true,true,true] (by decide) (by rfl) (fun _ h=>h) hs17
 let x:CtD:=⟨fun k=>pickL [i5,i7,i9,i11,i15,i17,i19,i21,i23,i25,i27,i29,i31,i33,i35,i37,i39,i41,i43,i45,i47,i51,i55,i57,i59,i63,i65,i71,i73,i75,i77,i79,i85,i87,i91,i93,i95,i97,i99,i105,i107,i111,i117,i135,i143,i161,i163,i167,i169,i171,i175,i177,i179] 0 k,fun k=>pickL [b53,b109,b145,b159] false k,fun k=>pickL [N0,N1,N2,N3,N4,0,N6,N7,N8,N9,0,N11,N12,N13,N14,N15,N16,N17] 0 k,fun k=>pickL [G0,G1,G2,G3,G4,fun _ _=>0,G6,G7,G8,G9,fun _ _=>0,G11,G12,G13,G14,G15,G16,G17] (fun _ _=>0) k,fun k=>pickL [fun _ _=>false,fun _ _=>false,V2,fun _ _=>false,fun _ _=>false,fun _ _=>false,fun _ _=>false,fun _ _=>false,fun _ _=>false,fun _ _=>false,fun _ _=>false,fun _ _=>false,V12,V13,V14,V15,V16,V17] (fun _ _=>false) k,xc,xt⟩
 refine ⟨x,_,_,rfl,⟨(fun k=>pickL [O0,O1,O2,O3,O4,O5,O6,O7,O8,O9,O10,O11,O12,O13,O14,O15,O16,O17] none k),(fun k=>pickL [C0,C1,C2,C3,C4,C5,C6,C7,C8,C9,C10,C11,C12,C13,C14,C15,C16,C17] 0 k),so,sc,uo,uc,vo,vc,rfl,.inl rfl⟩,fun r hr=>?_,⟨fun s hs=>?_,⟨hn5,hsn⟩,hT⟩,bi9⟩
 ·have hr2:r∈flatC (ctR 0 x (fun k=>pickL [O0,O1,O2,O3,O4,O5,O6,O7,O8,O9,O10,O11,O12,O13,O14,O15,O16,O17] none k) (fun k=>pickL [C0,C1,C2,C3,C4,C5,C6,C7,C8,C9,C10,C11,C12,C13,C14,C15,C16,C17] 0 k) so sc uo uc vo vc):=hr
  clear hr
  simp only [ctR,flatC,List.mem_cons,List.mem_append,List.not_mem_nil,or_false] at hr2
  rcases hr2 with rfl | rfl | rfl | rfl | rfl | rfl | rfl | rfl | rfl | rfl | rfl | rfl | rfl | rfl | rfl | rfl | rfl | rfl | hr2 | hr2 | hr2
  ·exact ⟨rfl,hr0⟩
  ·exact ⟨rfl,hr1⟩
  ·exact ⟨rfl,hr2⟩
  ·exact ⟨rfl,hr3⟩
  ·exact ⟨rfl,hr4⟩
  ·exact ⟨rfl,hC.h0 _⟩
  ·exact ⟨rfl,hr6⟩
  ·exact ⟨rfl,hr7⟩
  ·exact ⟨rfl,hr8⟩
  ·exact ⟨rfl,hr9⟩
  ·exact ⟨rfl,hTS.h0 _ _⟩
  ·exact ⟨rfl,hr11⟩
  ·exact ⟨rfl,hr12⟩
  ·exact ⟨rfl,hr13⟩
  ·exact ⟨rfl,hr14⟩
  ·exact ⟨rfl,hr15⟩
  ·exact ⟨rfl,hr16⟩
  ·exact ⟨rfl,hr17⟩
  ·exact hC.h3 r hr2
  ·exact hTS.h1 r hr2
  ·exact hTS.h2 r hr2
 ·have hs9:s=0∨s=1∨s=2∨s=3∨s=4∨s=5∨s=6∨s=7∨s=8∨s=9∨s=10∨s=11∨s=12∨s=13∨s=14∨s=15∨s=16∨s=17:=by omega
  rcases hs9 with rfl | rfl | rfl | rfl | rfl | rfl | rfl | rfl | rfl | rfl | rfl | rfl | rfl | rfl | rfl | rfl | rfl | rfl
  ·exact hn0
  ·exact hn1
  ·exact hn2
  ·exact hn3
  ·exact hn4
  ·exact Nat.zero_le _
  ·exact hn6
  ·exact hn7
  ·exact hn8
  ·exact hn9
  ·exact Nat.zero_le _
  ·exact hn11
  ·exact hn12
  ·exact hn13
  ·exact hn14
  ·exact hn15
  ·exact hn16
  ·exact hn17
theorem law_FnExactStoredAddr_T (v0:Value)(rs0:List Row)(aLine:Int):(exFn Tryz.prog {tb:=[(7,sToCtN),(9,sEqCtO),(5,sSzCtO),(12,sEqAd),(11,sStO),(10,sStO)]} 400 Tryz.f4 ([.a (.c (.obj 0 v0)),.a (.c (.int aLine))]) ([.obj false rs0]) (fun v _=>v.den=.bool true))=(
 (fun b:Value=>wholeC true v0 75∧∀ d:Nat,d=d∧∃ g:CtD,(isController v0 g rs0∧lensCt g∧szK1 (1048576:Int))∧b=b∧∀ h:Int,szO h (1048576:Int)→cap1Ct g→((decide (h<(0:Int)))=true→b=b)∧((decide (h<(0:Int)))=false→d=d∧∃ j:CtD,(isController v0 j rs0∧capCt j)∧∀(k:Value) (l:List Row),isCtrO k j l→∃ m:CtD,(isCtrO k m l∧cap1Ct m∧rngC (m.1 2))∧∀ n:Nat,n=n∧d=d∧∃ o:CtD,(isController v0 o rs0∧capCt o)∧∀(p:Value) (q:List Row),isCtrO p o q→∀ r:Nat,(r=r∧wholeC true p 75)∧r=r∧∃ s:CtD,(fun t:Bool=>(fun u:Bool=>(fun w:Bool=>(fun x:Bool=>(isCtrO p s q∧cap1Ct s∧rngC (s.1 2))∧∀ y:Nat,y=y∧y=y∧n=n∧∀ z B:Nat,z=z∧B=B∧(x=true→(Wb false)=b)∧(x=false→z=z∧B=B∧(w=true→(Wb false)=b)∧(w=false→z=z∧B=B∧(u=true→(Wb false)=b)∧(u=false→(t=true→(Wb false)=b)∧(t=false→r=r∧d=d∧∃ C:CtD,(isController v0 C rs0∧capCt C)∧∀(D:Value) (E:List Row),isCtrO D C E→True∧∃ F:CtD,(isController p F q∧isController D F E∧capCt F)∧True∧b=b))))) ((stK s aLine) != (stK m aLine))) ((stR s aLine) != (stR m aLine))) ((stC s aLine) != (stC m aLine))) ((stB s aLine) != (stB m aLine)))) (Wb true)):=by kernel_rfl
theorem law_FnExactStoredAddr_any (v0:Value)(rs0:List Row)(aLine:Int)(W:World)(x0:CtD)(hx0:isController v0 x0 rs0)(hw0:∀ r∈rs0,r.own=false∧r.sat W)(hn0:lensCt x0∧rngC (x0.i 2))(baLine:-9223372036854775808≤aLine∧aLine≤9223372036854775807):Calls Tryz.prog 4 #[v0,.int .i64 aLine] W fun e W'=>e=.returned (.bool true)∧Below W.heap.size W W':=by
 refine fnB (tb:=[(7,sToCtN),(9,sEqCtO),(5,sSzCtO),(12,sEqAd),(11,sStO),(10,sStO)]) ⟨sToCtN_ok,sEqCtO_ok,sSzCtO_ok,sEqAd_ok,sStO_I,sStO_S,trivial⟩ Tryz.func4 (@Eq.mpr _ _ (law_FnExactStoredAddr_T v0 rs0 aLine) ?_) (HS.seenAll (fun _=>False) [.obj false rs0] (seenC_obj hw0 seenC_nil)) (fun v ch' w' hk hs=>⟨by rw [hk],hs.below⟩)
 dsimp -zeta -proj -iota -eta -failIfUnchanged (etaStruct:=.none) only
 clear hw0
 repeat' (first
  | exact rfl
  | exact True.intro
  | assumption
  | exact wholeController (by assumption)
  | exact wholeCtrO (by assumption)
  | exact isCtrO_is (by assumption)
  | exact capOf1Ct (by assumption)
  | exact hn0.1
  | exact hn0.2
  | exact wholeController (by assumption)
  | exact capOf1Controller (by assumption)
  | refine And.intro ?_ ?_
  | apply Exists.intro
  | omega
  | (intro h;exfalso;revert h;simp;done)
  | (intro h;exfalso;simp at h;omega)
  | (intro h;exfalso;replace h:=of_decide_eq_true h;simp only [mk] at h;omega)
  | intro _
  | (simp only [mk];omega))
theorem walk_FnExactStoredAddr (cs0:Array Value)(aLine:Int)(W:World)(h0:Has W (.cons (.cons (.cons .int (.cons .int (.cons .int (.cons .int .nil)))) (.cons (.cons .int (.cons .int (.cons .int (.cons .int (.cons .int (.cons .int (.cons .int (.cons .int (.cons .int (.cons .int (.cons .int (.cons .int (.cons .int (.cons .int (.cons .int (.cons .int (.cons .int .nil))))))))))))))))) (.cons (.cons .int (.cons .bool .nil)) (.cons .int (.cons .int (.cons .int (.cons (.cons .int (.cons .int .nil)) .nil))))))) (.cons (.cons (.cons .int (.cons .int (.cons .int (.cons .int (.cons .int (.cons (.slice .int) (.cons (.cons .int (.cons .int .nil)) .nil))))))) (.cons (.cons .int (.cons .int (.cons .int (.cons .int (.cons .int (.cons (.slice .int) (.cons (.cons .int (.cons .int .nil)) .nil))))))) (.cons .bool .nil))) (.cons .int (.cons (.cons (.slice (.cons .bool (.cons .int .nil))) (.cons .int .nil)) (.cons (.cons (.slice .int) (.cons (.slice .int) .nil)) (.cons (.cons (.slice (.cons (.slice .int) (.cons .bool .nil))) (.cons (.slice .int) (.cons (.slice .int) .nil))) (.cons (.cons .int (.cons (.slice .int) .nil)) (.cons (.cons (.slice .int) (.cons .int (.cons .bool .nil))) (.cons (.slice (.cons (.slice .int) (.cons (.slice .int) (.cons .int .nil)))) (.cons (.slice .int) (.cons (.slice (.cons .int (.cons .int (.cons .int .nil)))) (.cons (.slice (.cons .int (.cons .int (.cons .int (.cons .bool (.cons .int (.cons .int .nil))))))) (.cons (.slice (.cons .int (.cons .int .nil))) (.cons (.cons .bool (.cons .int (.cons .int .nil))) (.cons (.cons .int (.cons .int (.cons .int .nil))) (.cons (.cons .int (.cons .int (.cons .int .nil))) (.cons (.slice (.cons .int (.cons .int (.cons .int .nil)))) (.cons (.slice (.cons .int (.cons (.cons .int (.cons .int (.cons .int (.cons .int .nil)))) .nil))) (.cons (.slice (.cons .int (.cons .int (.cons .int (.cons .int .nil))))) .nil))))))))))))))))))) cs0.toList)(baLine:-9223372036854775808≤aLine∧aLine≤9223372036854775807):Calls Tryz.prog 4 #[.agg cs0,.int .i64 aLine] W fun e W'=>e=.returned (.bool true)∧Below W.heap.size W W':=by
 obtain ⟨l0,hl0⟩:∃ l,cs0.toList=l:=⟨_,rfl⟩
 rw [hl0] at h0
 obtain ⟨xaC,vaC,rsaC,evaC,hxaC,hwaC,hnaC⟩:=has_controller h0
 rw [arr_of hl0,← evaC]
 exact law_FnExactStoredAddr_any vaC rsaC aLine W xaC hxaC hwaC hnaC baLine
end Go.Proofs.YtmnccapnjphmfaaGreat

/-
  FnExactControllerNew: a part of the walk (merged and squeezed by program: Open SxOpen).
-/
import Derived.Test.YtbhfabaofhhkeaaGreatHas
import Derived.Test.YtbhfabaofhhkeaaGreatZab
namespace Go.Proofs.YtbhfabaofhhkeaaGreat
set_option linter.unusedVariables false
set_option linter.unusedSimpArgs false
theorem has_int {w:World}{t:Ty}{l:List Value}(h:Has w (.cons .int t) l):∃ (n:Int) (r:List Value),l=.int .i64 n::r∧(-9223372036854775808≤n∧n≤9223372036854775807)∧Has w t r:=by
 obtain ⟨ca,cb,rfl,⟨n,rfl,h1,h2⟩,hb⟩:=h
 exact ⟨n,cb,rfl,⟨h1,h2⟩,hb⟩
theorem has_bool {w:World}{t:Ty}{l:List Value}(h:Has w (.cons .bool t) l):∃ (n:Bool) (r:List Value),l=.bool n::r∧Has w t r:=by
 obtain ⟨ca,cb,rfl,⟨n,rfl⟩,hb⟩:=h
 exact ⟨n,cb,rfl,hb⟩
theorem has_nil {w:World}{l:List Value}(h:Has w .nil l):l=[]:=h
theorem arr_of {cs:Array Value}{l:List Value}(h:cs.toList=l):cs=l.toArray:=by rw [← h]
end Go.Proofs.YtbhfabaofhhkeaaGreat
namespace Go.Proofs.YtbhfabaofhhkeaaGreat
set_option linter.unusedVariables false
set_option linter.unusedSimpArgs false
open Go.RowKit
def intsTy:Nat→Ty
 | 0=>.nil
 | s+1=>.cons .int (intsTy s)
theorem intsTy_size:∀ s,(intsTy s).size=s:=by
 intro s
 induction s with
 | zero=>rfl
 | succ s ih=>simp [intsTy,Ty.size,ih,Nat.add_comm]
theorem has_ints {w:World}:∀ (s:Nat) (es:List Value),Has w (intsTy s) es→es.length=s∧∀ (j:Nat),j<s→∃ n:Int,es[j]?=some (.int .i64 n)∧-9223372036854775808≤n∧n≤9223372036854775807:=by
 intro s
 induction s with
 | zero=>intro es h;have:es=[]:=h;subst this;exact ⟨rfl,fun j hj=>by omega⟩
 | succ s ih =>
  intro es h
  obtain ⟨n,r,rfl,hn,h⟩:=has_int h
  obtain ⟨h1,h2⟩:=ih r h
  refine ⟨by simp [h1],fun j hj=>?_⟩
  cases j with
  | zero=>exact ⟨n,rfl,hn⟩
  | succ j=>simpa using h2 j (by omega)
def ElemTy (e:Ty)(s:Nat):Prop:=(e=.int∧s=1)∨e=intsTy s
theorem row_of_has {w:World}{e:Ty}{s:Nat}(he:ElemTy e s)(hs0:0<s){ao:Option Addr}{len cap:Nat}{cs:List Value}(hcs:cs=[.slice ao len cap])(h:Has w (.slice e) cs) :
  len≤maxLen∧∃ G:Nat→Nat→Int,(∀ c i,-9223372036854775808≤G c i∧G c i≤9223372036854775807)∧Row.sat w ⟨false,ao,0,s,len,0,(List.range s).map fun c i=>.int (G c i)⟩:=by
 obtain ⟨ao',len',cap',h1,hlen,h2⟩:=h
 rw [hcs] at h1
 injection h1 with h1
 injection h1 with e1 e2 e3
 subst e1
 subst e2
 refine ⟨hlen,?_⟩
 have hsz:e.size=s:=by
  rcases he with ⟨rfl,rfl⟩ | rfl
  ·rfl
  ·exact intsTy_size s
 have hel:∀ i,i<len→∃ b off,ao=some ⟨b,off,none⟩∧∀ c,c<s→∃ n:Int,(w.cell? ⟨b,off+(i*s+c),none⟩=some (.int .i64 n))∧-9223372036854775808≤n∧n≤9223372036854775807:=fun i hi=>by
  obtain ⟨b,off,es,ha,hl,hc,hh⟩:=h2 i hi
  refine ⟨b,off,ha,fun c hcs=>?_⟩
  have hcell:=hc c (by rw [hsz];exact hcs)
  rw [hsz,Nat.add_assoc] at hcell
  rcases he with ⟨rfl,rfl⟩ | rfl
  ·obtain ⟨n,rfl,hn⟩:=hh
   have:c=0:=by omega
   subst this
   exact ⟨n,hcell,hn⟩
  ·obtain ⟨n,hn,hb⟩:=(has_ints s es hh).2 c hcs
   exact ⟨n,by rw [hcell,hn],hb⟩
 have hG:∀ c i,∃ n:Int,(-9223372036854775808≤n∧n≤9223372036854775807)∧(i<len→c<s→∃ b off,ao=some ⟨b,off,none⟩∧w.cell? ⟨b,off+(i*s+c),none⟩=some (.int .i64 n)):=fun c i=>by
  by_cases hi:i<len
  ·by_cases hc:c<s
   ·obtain ⟨b,off,ha,h3⟩:=hel i hi
    obtain ⟨n,hn,hb⟩:=h3 c hc
    exact ⟨n,hb,fun _ _=>⟨b,off,ha,hn⟩⟩
   ·exact ⟨0,by omega,fun _ h=>absurd h hc⟩
  ·exact ⟨0,by omega,fun h=>absurd h hi⟩
 refine ⟨fun c i=>Classical.choose (hG c i),fun c i=>(Classical.choose_spec (hG c i)).1,by simp,fun _ hn=>?_,fun ho=>(by cases ho)⟩
 obtain ⟨b,off,ha,_⟩:=hel 0 hn
 ·obtain ⟨b0,off0,ha0,hc0⟩:=(Classical.choose_spec (hG 0 0)).2 hn hs0
  refine ⟨b0,off0,ha0,World.block_lt_of_cell? w _ hc0,fun i hi c f hf=>?_⟩
  have hc:c<s:=by
   have:=(List.getElem?_eq_some_iff.1 hf).1
   simpa using this
  simp only [List.getElem?_map,List.getElem?_range hc,Option.map_some,Option.some.injEq] at hf
  subst hf
  obtain ⟨b1,off1,ha1,hc1⟩:=(Classical.choose_spec (hG c i)).2 hi hc
  rw [ha0] at ha1
  injection ha1 with ha1
  injection ha1 with e1 e2
  subst e1
  subst e2
  exact hc1
theorem has_slice {w:World}{e t:Ty}{l:List Value}(h:Has w (.cons (.slice e) t) l):∃ (ao:Option Addr) (len cap:Nat) (r:List Value),l=.slice ao len cap::r∧Has w (.slice e) [.slice ao len cap]∧Has w t r:=by
 obtain ⟨ca,cb,rfl,ha,hb⟩:=h
 obtain ⟨ao,len,cap,rfl,h1⟩:=ha
 exact ⟨ao,len,cap,cb,rfl,⟨ao,len,cap,rfl,h1⟩,hb⟩
theorem has_struct {w:World}{s t:Ty}{l:List Value}(h:Has w (.cons s t) l):∃ (a r:List Value),l=a ++ r∧Has w s a∧Has w t r:=by
 obtain ⟨ca,cb,rfl,ha,hb⟩:=h
 exact ⟨ca,cb,rfl,ha,hb⟩
end Go.Proofs.YtbhfabaofhhkeaaGreat

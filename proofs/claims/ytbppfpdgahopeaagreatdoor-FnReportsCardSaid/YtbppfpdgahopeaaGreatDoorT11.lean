/-
  What the functions compute, and what the law asks of it: texts joined. Conditions: those that each lemma names.
-/
import Derived.Test.YtbppfpdgahopeaaGreatDoorT10
import Derived.Test.YtbppfpdgahopeaaGreatDoorT9
import Derived.Test.YtbppfpdgahopeaaGreatDoorT1
set_option linter.unusedSimpArgs false
set_option linter.unusedVariables false
set_option maxRecDepth 20000
set_option linter.unusedSectionVars false
set_option maxHeartbeats 16000000
namespace Go.Gl
open Go Go.Proofs
variable [Amb] [NoQ]
theorem uk {x:Int} {xs st:List Int}:rl (x::xs) st=st.takeWhile (fun y=>decide (y<x))++rl xs (x::st.dropWhile (fun y=>decide (y<x))):=rfl
theorem PP {x y:Int} {st:List Int} (h:y<x):(y::st).takeWhile (fun y=>decide (y<x))=y::st.takeWhile (fun y=>decide (y<x)):=by rw[List.takeWhile_cons,if_pos (by simpa using h)]
theorem UQ {x y:Int} {st:List Int} (h:y<x):(y::st).dropWhile (fun y=>decide (y<x))=st.dropWhile (fun y=>decide (y<x)):=by rw[List.dropWhile_cons,if_pos (by simpa using h)]
theorem PS {x y:Int} {st:List Int} (h:¬y<x):(y::st).takeWhile (fun y=>decide (y<x))=[]:=by rw[List.takeWhile_cons,if_neg (by simpa using h)]
theorem UR {x y:Int} {st:List Int} (h:¬y<x):(y::st).dropWhile (fun y=>decide (y<x))=y::st:=by rw[List.dropWhile_cons,if_neg (by simpa using h)]
theorem QZ {y:Int} {st junk:List Int}:(st++[y]++junk).getD st.length 0=y:=by
 rw[List.getD_eq_getElem?_getD,List.append_assoc,List.getElem?_append_right (Nat.le_refl _),Nat.sub_self];rfl
theorem SP (l:List Int):l=[]∨∃r y,l=r++[y]:=by
 rcases List.eq_nil_or_concat l with h|⟨r,y,h⟩
 ·exact .inl h
 ·exact .inr ⟨r,y,by rw[h,List.concat_eq_append]⟩
def uq:FuncId→List Bool:=fun f=>if f=12884902021 then[true]else[]
theorem EZ {f:FuncId}:uq f=if f=12884902021 then[true]else[]:=_root_.id rfl
theorem AU:fJ uq=false∧ga uq=false∧f9 uq=false∧f8 uq=false∧gb uq=false:=⟨rfl,rfl,rfl,rfl,rfl⟩
attribute [go_sem] EZ AU
theorem fZ {m0:Bool} (p:List Int) (hl:p.length≤8):Fun Tryz.prog 93 [(.sl (.lent m0) (List.map (PV.int .i64) (p)))] [(.sl .own (List.map (PV.int .i64) (nW p)))]:=by
 refine fO uq [2] Tryz.func93 ?_
 have cM1:= @cN;have cD1:=gY [false,false,false,false,false,false,false,true,true,false,false,false,false,false,false,false] [(0,7),(7,9),(8,9),(7,10),(8,10),(7,11),(8,11),(7,12),(8,12),(7,13),(8,13)]
 have hr:=uw
 have cM2:= @hr
 refine ax trivial ?_
 all_goals try(apply ai;repeat' first|exact ah|apply aa|(apply ak;intro zb hc)|(apply aj;intro zb)|intro j')<;>try apply al
 refine an (fun ms1 S1=>∃(i:Nat) (out:List Int) (st:List Int) (junk:List Int),OwnL (S1.e 3) S1.h S1.n (PV.int .i64) ((out).length) (out)∧OwnL (S1.e 4) S1.h S1.n (PV.int .i64) (st.length) (st++junk)∧S1.e 9=.p (.sl (.lent m0) (List.map (PV.int .i64) (p)))∧S1.e 10=.p (.int .i64 (p.length))∧S1.e 11=.p (.int .i64 (i))∧(i≤p.length)∧(out++rl (p.drop i) st.reverse=nW p)∧(out.length+st.length=i)∧(st.length+junk.length≤i)∧NId (S1.e 4) (S1.e 3)∧ms1=p.length - i) ((fun(i:Nat) (out:List Int) (st:List Int) (junk:List Int)=>p.length - i) (0) ([]) ([]) ([])) ?_ ⟨0,[],[],[],dC trivial ?_⟩
 all_goals try(apply ai;repeat' first|exact ah|apply aa|(apply ak;intro zb hc)|(apply aj;intro zb)|intro j')<;>try apply al
 rintro ms1 S1 ⟨i,out,st,junk,o1_3,o1_4,h1_9,h1_10,h1_11,c1_0,c1_1,c1_2,c1_3,u1_0,hm1⟩
 obtain⟨i1_3,h1_3,b1_3,l1_3⟩:=o1_3.out
 obtain⟨i1_4,h1_4,b1_4,l1_4⟩:=o1_4.out
 have k1_0:=(u1_0).out h1_4 h1_3
 have ni1_3:=aG (x:=i1_3) (n:=S1.n)
 have ni1_4:=aG (x:=i1_4) (n:=S1.n)
 have di1_3i1_4:=cQ (x:=i1_3) (y:=i1_4)
 have fL1:=(aa h1_9 (aa h1_10 (aa h1_11 (aa h1_3 (aa b1_3 (aa h1_4 (aa b1_4 (aa ni1_3 (aa ni1_4 di1_3i1_4)))))))))
 ·by_cases hi:i<p.length
  ·rw[aY hi,uk]at c1_1
   have cM2:= @hr
   refine ax fL1 ?_
   all_goals try(apply ai;repeat' first|exact ah|apply aa|(apply ak;intro zb hc)|(apply aj;intro zb)|intro j')<;>try apply al
   refine an (fun ms2 S2=>∃(o2:List Int) (s2:List Int) (j2:List Int),OwnL (S2.e 3) S2.h S2.n (PV.int .i64) ((o2).length) (o2)∧OwnL (S2.e 4) S2.h S2.n (PV.int .i64) (s2.length) (s2++j2)∧S2.e 6=.p (.int .i64 ((p.getD i 0)))∧S2.e 9=.p (.sl (.lent m0) (List.map (PV.int .i64) (p)))∧S2.e 10=.p (.int .i64 (p.length))∧S2.e 11=.p (.int .i64 (i))∧(o2++(s2.reverse.takeWhile (fun y=>decide (y<p.getD i 0))++rl (p.drop (i+1)) (p.getD i 0::s2.reverse.dropWhile (fun y=>decide (y<p.getD i 0))))=nW p)∧(o2.length+s2.length=i)∧(s2.length+j2.length≤i)∧NId (S2.e 4) (S2.e 3)∧S1.n≤S2.n∧ms2=s2.length) ((fun(o2:List Int) (s2:List Int) (j2:List Int)=>s2.length) (out) (st) (junk)) ?_ ⟨out,st,junk,dC fL1 ?_⟩
   all_goals try(apply ai;repeat' first|exact ah|apply aa|(apply ak;intro zb hc)|(apply aj;intro zb)|intro j')<;>try apply al
   rintro ms2 S2 ⟨o2,s2,j2,o2_3,o2_4,h2_6,h2_9,h2_10,h2_11,c2_0,c2_1,c2_2,u2_0,u2_1,hm2⟩
   obtain⟨i2_3,h2_3,b2_3,l2_3⟩:=o2_3.out
   obtain⟨i2_4,h2_4,b2_4,l2_4⟩:=o2_4.out
   have k2_0:=(u2_0).out h2_4 h2_3
   have ni2_3:=aG (x:=i2_3) (n:=S2.n)
   have ni2_4:=aG (x:=i2_4) (n:=S2.n)
   have di2_3i2_4:=cQ (x:=i2_3) (y:=i2_4)
   have fL2:=(aa h2_6 (aa h2_9 (aa h2_10 (aa h2_11 (aa h2_3 (aa b2_3 (aa h2_4 (aa b2_4 (aa ni2_3 (aa ni2_4 di2_3i2_4))))))))))
   ·have push:(s2.reverse.takeWhile (fun y=>decide (y<p.getD i 0))=[])→s2.reverse.dropWhile (fun y=>decide (y<p.getD i 0))=s2.reverse→o2++rl (p.drop (i+1)) (s2++[p.getD i 0]).reverse=nW p:=fun h1 h2=>by
     rw[h1,h2]at c2_0;rw[List.reverse_append];exact c2_0
    rcases SP s2 with rfl|⟨r,y,rfl⟩
    ·have q1:=push rfl rfl
     cases j2 with
     |nil=>
      have cM2:= @hr
      refine ax fL2 ?_
      all_goals try(apply ai;repeat' first|exact ah|apply aa|(apply ak;intro zb hc)|(apply aj;intro zb)|intro j')<;>try apply al
      focus
       refine am ((fun(i:Nat) (out:List Int) (st:List Int) (junk:List Int)=>p.length - i) (i+1) (o2) ([p.getD i 0]) ([])) (dC fL2 ?_) ⟨i+1,o2,[p.getD i 0],[],dC fL2 ?_⟩
       all_goals try(apply ai;repeat' first|exact ah|apply aa|(apply ak;intro zb hc)|(apply aj;intro zb)|intro j')<;>try apply al
      all_goals(first|exact q1|skip)
     |cons z zs=>
      have cM2:= @hr
      refine ax fL2 ?_
      all_goals try(apply ai;repeat' first|exact ah|apply aa|(apply ak;intro zb hc)|(apply aj;intro zb)|intro j')<;>try apply al
      focus
       refine am ((fun(i:Nat) (out:List Int) (st:List Int) (junk:List Int)=>p.length - i) (i+1) (o2) ([p.getD i 0]) (zs)) (dC fL2 ?_) ⟨i+1,o2,[p.getD i 0],zs,dC fL2 ?_⟩
       all_goals try(apply ai;repeat' first|exact ah|apply aa|(apply ak;intro zb hc)|(apply aj;intro zb)|intro j')<;>try apply al
      all_goals(first|exact q1|(simp only[List.length_nil,List.length_cons]at c2_2;omega)|skip)
    ·have g2:(((r.length+1:Nat):Int) - 1).toNat=r.length:=by omega
     have g1:(r++y::j2).getD r.length 0=y:=by
      have:=QZ (y:=y) (st:=r) (junk:=j2)
      rwa [List.append_assoc]at this
     have g3:(r++[y]).reverse=y::r.reverse:=by simp
     have g4:(r++[y]).length=r.length+1:=by simp
     rw[g3]at c2_0 push
     by_cases hy:y<p.getD i 0
     ·rw[PP hy,UQ hy]at c2_0
      have cM2:= @hr
      refine ax (aa fL2 (aa @g1 (aa @g2 (aa @g4 @hy)))) ?_
      all_goals try(apply ai;repeat' first|exact ah|apply aa|(apply ak;intro zb hc)|(apply aj;intro zb)|intro j')<;>try apply al
      focus
       refine am ((fun(o2:List Int) (s2:List Int) (j2:List Int)=>s2.length) (o2++[y]) (r) (y::j2)) (dC fL2 ?_) ⟨o2++[y],r,y::j2,dC fL2 ?_⟩
       all_goals try(apply ai;repeat' first|exact ah|apply aa|(apply ak;intro zb hc)|(apply aj;intro zb)|intro j')<;>try apply al
      all_goals(first|exact c2_0|(rw[List.append_assoc];exact c2_0)|(rw[g1];done)|(simp only[List.length_append,List.length_nil,List.length_cons]at c2_1 c2_2 ⊢;omega)|skip)
     ·have q1:=push (PS hy) (UR hy)
      have hy':(y<p.getD i 0)=False:=eq_false hy
      cases j2 with
      |nil=>
       have g6:(r.length+1=(r++[y]).length)=True:=eq_true (by simp)
       have cM2:= @hr
       refine ax (aa fL2 (aa @g1 (aa @g2 (aa @g4 (aa @g6 @hy'))))) ?_
       all_goals try(apply ai;repeat' first|exact ah|apply aa|(apply ak;intro zb hc)|(apply aj;intro zb)|intro j')<;>try apply al
       focus
        refine am ((fun(i:Nat) (out:List Int) (st:List Int) (junk:List Int)=>p.length - i) (i+1) (o2) (r++[y]++[p.getD i 0]) ([])) (dC fL2 ?_) ⟨i+1,o2,r++[y]++[p.getD i 0],[],dC fL2 ?_⟩
        all_goals try(apply ai;repeat' first|exact ah|apply aa|(apply ak;intro zb hc)|(apply aj;intro zb)|intro j')<;>try apply al
       all_goals(first|exact q1|(rw[show r++[y,p.getD i 0]=r++[y]++[p.getD i 0]by simp];exact q1)|(simp only[List.length_append,List.length_nil,List.length_cons]at c2_1 c2_2 ⊢;omega)|skip)
      |cons z zs=>
       have g6:(r.length+1=(r++y::z::zs).length)=False:=eq_false (by simp)
       have g7:(r.length+2≤(r++y::z::zs).length)=True:=eq_true (by simp)
       have g8:List.take (r.length+1) (r++y::z::zs)=r++[y]:=by rw[show r++y::z::zs=(r++[y])++z::zs by simp,List.take_append_of_le_length (by simp),List.take_of_length_le (by simp)]
       have g9:List.drop (r.length+2) (r++y::z::zs)=zs:=by rw[show r++y::z::zs=(r++[y,z])++zs by simp,List.drop_append_of_le_length (by simp),List.drop_of_length_le (by simp)];rfl
       have cM2:= @hr
       refine ax (aa fL2 (aa @g1 (aa @g2 (aa @g4 (aa @g6 (aa @g7 (aa @g8 (aa @g9 @hy')))))))) ?_
       all_goals try(apply ai;repeat' first|exact ah|apply aa|(apply ak;intro zb hc)|(apply aj;intro zb)|intro j')<;>try apply al
       focus
        refine am ((fun(i:Nat) (out:List Int) (st:List Int) (junk:List Int)=>p.length - i) (i+1) (o2) (r++[y]++[p.getD i 0]) (zs)) (dC fL2 ?_) ⟨i+1,o2,r++[y]++[p.getD i 0],zs,dC fL2 ?_⟩
        all_goals try(apply ai;repeat' first|exact ah|apply aa|(apply ak;intro zb hc)|(apply aj;intro zb)|intro j')<;>try apply al
       all_goals(first|exact q1|(rw[show r++[y,p.getD i 0]=r++[y]++[p.getD i 0]by simp];exact q1)|(simp only[List.length_append,List.length_nil,List.length_cons]at c2_1 c2_2 ⊢;omega)|skip)
  ·obtain rfl:i=p.length:=by omega
   have e9:List.drop p.length p=[]:=List.drop_length
   rw[e9]at c1_1
   have eT:List.take st.length (st++junk)=st:=by rw[List.take_append_of_le_length (Nat.le_refl _),List.take_length]
   have eU:List.take st.length (st.reverse++List.drop st.length (st++junk))=st.reverse:=by rw[List.take_append_of_le_length (by simp),List.take_of_length_le (by simp)]
   have eV:st.reverse.length=st.length:=List.length_reverse
   have cM2:= @hr
   refine ax (aa fL1 (aa @eT (aa @eU @eV))) ?_
   all_goals try(apply ai;repeat' first|exact ah|apply aa|(apply ak;intro zb hc)|(apply aj;intro zb)|intro j')<;>try apply al
   all_goals(first|(rw[List.take_of_length_le (by simp)];exact c1_1)|(simp;done)|skip)
theorem j4 {m0:Bool} (p:List Int) (hl:p.length≤8):Fun Tryz.prog 72 [(.sl (.lent m0) (List.map (PV.int .i64) (p)))] [(.sl .own (List.map (PV.int .i64) (nW p)))]:=by
 refine fO aR [2] Tryz.func72 ?_
 have cE1:= @aT
 refine ax trivial ?_
 all_goals try(apply ai;repeat' first|exact ah|apply aa|(apply ak;intro zb hc)|(apply aj;intro zb)|intro j')<;>try apply al
 refine an (fun ms1 S1=>∃(i:Nat) (out:List Int) (st:List Int) (junk:List Int),OwnL (S1.e 3) S1.h S1.n (PV.int .i64) ((out).length) (out)∧OwnL (S1.e 4) S1.h S1.n (PV.int .i64) (st.length) (st++junk)∧S1.e 0=.p (.sl (.lent m0) (List.map (PV.int .i64) (p)))∧S1.e 5=.p (.int .i64 (i))∧(i≤p.length)∧(out++rl (p.drop i) st.reverse=nW p)∧(out.length+st.length=i)∧(st.length+junk.length≤i)∧NId (S1.e 4) (S1.e 3)∧ms1=p.length - i) ((fun(i:Nat) (out:List Int) (st:List Int) (junk:List Int)=>p.length - i) (0) ([]) ([]) ([])) ?_ ⟨0,[],[],[],dC trivial ?_⟩
 all_goals try(apply ai;repeat' first|exact ah|apply aa|(apply ak;intro zb hc)|(apply aj;intro zb)|intro j')<;>try apply al
 rintro ms1 S1 ⟨i,out,st,junk,o1_3,o1_4,h1_0,h1_5,c1_0,c1_1,c1_2,c1_3,u1_0,hm1⟩
 obtain⟨i1_3,h1_3,b1_3,l1_3⟩:=o1_3.out
 obtain⟨i1_4,h1_4,b1_4,l1_4⟩:=o1_4.out
 have k1_0:=(u1_0).out h1_4 h1_3
 have ni1_3:=aG (x:=i1_3) (n:=S1.n)
 have ni1_4:=aG (x:=i1_4) (n:=S1.n)
 have di1_3i1_4:=cQ (x:=i1_3) (y:=i1_4)
 have fL1:=(aa h1_0 (aa h1_5 (aa h1_3 (aa b1_3 (aa h1_4 (aa b1_4 (aa ni1_3 (aa ni1_4 di1_3i1_4))))))))
 ·by_cases hi:i<p.length
  ·rw[aY hi,uk]at c1_1
   refine ax fL1 ?_
   all_goals try(apply ai;repeat' first|exact ah|apply aa|(apply ak;intro zb hc)|(apply aj;intro zb)|intro j')<;>try apply al
   refine an (fun ms2 S2=>∃(o2:List Int) (s2:List Int) (j2:List Int),OwnL (S2.e 3) S2.h S2.n (PV.int .i64) ((o2).length) (o2)∧OwnL (S2.e 4) S2.h S2.n (PV.int .i64) (s2.length) (s2++j2)∧S2.e 0=.p (.sl (.lent m0) (List.map (PV.int .i64) (p)))∧S2.e 5=.p (.int .i64 (i))∧(o2++(s2.reverse.takeWhile (fun y=>decide (y<p.getD i 0))++rl (p.drop (i+1)) (p.getD i 0::s2.reverse.dropWhile (fun y=>decide (y<p.getD i 0))))=nW p)∧(o2.length+s2.length=i)∧(s2.length+j2.length≤i)∧NId (S2.e 4) (S2.e 3)∧S1.n≤S2.n∧ms2=s2.length) ((fun(o2:List Int) (s2:List Int) (j2:List Int)=>s2.length) (out) (st) (junk)) ?_ ⟨out,st,junk,dC fL1 ?_⟩
   all_goals try(apply ai;repeat' first|exact ah|apply aa|(apply ak;intro zb hc)|(apply aj;intro zb)|intro j')<;>try apply al
   rintro ms2 S2 ⟨o2,s2,j2,o2_3,o2_4,h2_0,h2_5,c2_0,c2_1,c2_2,u2_0,u2_1,hm2⟩
   obtain⟨i2_3,h2_3,b2_3,l2_3⟩:=o2_3.out
   obtain⟨i2_4,h2_4,b2_4,l2_4⟩:=o2_4.out
   have k2_0:=(u2_0).out h2_4 h2_3
   have ni2_3:=aG (x:=i2_3) (n:=S2.n)
   have ni2_4:=aG (x:=i2_4) (n:=S2.n)
   have di2_3i2_4:=cQ (x:=i2_3) (y:=i2_4)
   have fL2:=(aa h2_0 (aa h2_5 (aa h2_3 (aa b2_3 (aa h2_4 (aa b2_4 (aa ni2_3 (aa ni2_4 di2_3i2_4))))))))
   ·have push:(s2.reverse.takeWhile (fun y=>decide (y<p.getD i 0))=[])→s2.reverse.dropWhile (fun y=>decide (y<p.getD i 0))=s2.reverse→o2++rl (p.drop (i+1)) (s2++[p.getD i 0]).reverse=nW p:=fun h1 h2=>by
     rw[h1,h2]at c2_0;rw[List.reverse_append];exact c2_0
    rcases SP s2 with rfl|⟨r,y,rfl⟩
    ·have q1:=push rfl rfl
     cases j2 with
     |nil=>
      refine ax fL2 ?_
      all_goals try(apply ai;repeat' first|exact ah|apply aa|(apply ak;intro zb hc)|(apply aj;intro zb)|intro j')<;>try apply al
      focus
       refine am ((fun(i:Nat) (out:List Int) (st:List Int) (junk:List Int)=>p.length - i) (i+1) (o2) ([p.getD i 0]) ([])) (dC fL2 ?_) ⟨i+1,o2,[p.getD i 0],[],dC fL2 ?_⟩
       all_goals try(apply ai;repeat' first|exact ah|apply aa|(apply ak;intro zb hc)|(apply aj;intro zb)|intro j')<;>try apply al
      all_goals(first|exact q1|skip)
     |cons z zs=>
      refine ax fL2 ?_
      all_goals try(apply ai;repeat' first|exact ah|apply aa|(apply ak;intro zb hc)|(apply aj;intro zb)|intro j')<;>try apply al
      focus
       refine am ((fun(i:Nat) (out:List Int) (st:List Int) (junk:List Int)=>p.length - i) (i+1) (o2) ([p.getD i 0]) (zs)) (dC fL2 ?_) ⟨i+1,o2,[p.getD i 0],zs,dC fL2 ?_⟩
       all_goals try(apply ai;repeat' first|exact ah|apply aa|(apply ak;intro zb hc)|(apply aj;intro zb)|intro j')<;>try apply al
      all_goals(first|exact q1|(simp only[List.length_nil,List.length_cons]at c2_2;omega)|skip)
    ·have g2:(((r.length+1:Nat):Int) - 1).toNat=r.length:=by omega
     have g1:(r++y::j2).getD r.length 0=y:=by
      have:=QZ (y:=y) (st:=r) (junk:=j2)
      rwa [List.append_assoc]at this
     have g3:(r++[y]).reverse=y::r.reverse:=by simp
     have g4:(r++[y]).length=r.length+1:=by simp
     rw[g3]at c2_0 push
     by_cases hy:y<p.getD i 0
     ·rw[PP hy,UQ hy]at c2_0
      refine ax (aa fL2 (aa @g1 (aa @g2 (aa @g4 @hy)))) ?_
      all_goals try(apply ai;repeat' first|exact ah|apply aa|(apply ak;intro zb hc)|(apply aj;intro zb)|intro j')<;>try apply al
      focus
       refine am ((fun(o2:List Int) (s2:List Int) (j2:List Int)=>s2.length) (o2++[y]) (r) (y::j2)) (dC fL2 ?_) ⟨o2++[y],r,y::j2,dC fL2 ?_⟩
       all_goals try(apply ai;repeat' first|exact ah|apply aa|(apply ak;intro zb hc)|(apply aj;intro zb)|intro j')<;>try apply al
      all_goals(first|exact c2_0|(rw[List.append_assoc];exact c2_0)|(rw[g1];done)|(simp only[List.length_append,List.length_nil,List.length_cons]at c2_1 c2_2 ⊢;omega)|skip)
     ·have q1:=push (PS hy) (UR hy)
      have hy':(y<p.getD i 0)=False:=eq_false hy
      cases j2 with
      |nil=>
       have g6:(r.length+1=(r++[y]).length)=True:=eq_true (by simp)
       refine ax (aa fL2 (aa @g1 (aa @g2 (aa @g4 (aa @g6 @hy'))))) ?_
       all_goals try(apply ai;repeat' first|exact ah|apply aa|(apply ak;intro zb hc)|(apply aj;intro zb)|intro j')<;>try apply al
       focus
        refine am ((fun(i:Nat) (out:List Int) (st:List Int) (junk:List Int)=>p.length - i) (i+1) (o2) (r++[y]++[p.getD i 0]) ([])) (dC fL2 ?_) ⟨i+1,o2,r++[y]++[p.getD i 0],[],dC fL2 ?_⟩
        all_goals try(apply ai;repeat' first|exact ah|apply aa|(apply ak;intro zb hc)|(apply aj;intro zb)|intro j')<;>try apply al
       all_goals(first|exact q1|(rw[show r++[y,p.getD i 0]=r++[y]++[p.getD i 0]by simp];exact q1)|(simp only[List.length_append,List.length_nil,List.length_cons]at c2_1 c2_2 ⊢;omega)|skip)
      |cons z zs=>
       have g6:(r.length+1=(r++y::z::zs).length)=False:=eq_false (by simp)
       have g7:(r.length+2≤(r++y::z::zs).length)=True:=eq_true (by simp)
       have g8:List.take (r.length+1) (r++y::z::zs)=r++[y]:=by rw[show r++y::z::zs=(r++[y])++z::zs by simp,List.take_append_of_le_length (by simp),List.take_of_length_le (by simp)]
       have g9:List.drop (r.length+2) (r++y::z::zs)=zs:=by rw[show r++y::z::zs=(r++[y,z])++zs by simp,List.drop_append_of_le_length (by simp),List.drop_of_length_le (by simp)];rfl
       refine ax (aa fL2 (aa @g1 (aa @g2 (aa @g4 (aa @g6 (aa @g7 (aa @g8 (aa @g9 @hy')))))))) ?_
       all_goals try(apply ai;repeat' first|exact ah|apply aa|(apply ak;intro zb hc)|(apply aj;intro zb)|intro j')<;>try apply al
       focus
        refine am ((fun(i:Nat) (out:List Int) (st:List Int) (junk:List Int)=>p.length - i) (i+1) (o2) (r++[y]++[p.getD i 0]) (zs)) (dC fL2 ?_) ⟨i+1,o2,r++[y]++[p.getD i 0],zs,dC fL2 ?_⟩
        all_goals try(apply ai;repeat' first|exact ah|apply aa|(apply ak;intro zb hc)|(apply aj;intro zb)|intro j')<;>try apply al
       all_goals(first|exact q1|(rw[show r++[y,p.getD i 0]=r++[y]++[p.getD i 0]by simp];exact q1)|(simp only[List.length_append,List.length_nil,List.length_cons]at c2_1 c2_2 ⊢;omega)|skip)
  ·obtain rfl:i=p.length:=by omega
   have e9:List.drop p.length p=[]:=List.drop_length
   rw[e9]at c1_1
   have eT:List.take st.length (st++junk)=st:=by rw[List.take_append_of_le_length (Nat.le_refl _),List.take_length]
   have eU:List.take st.length (st.reverse++List.drop st.length (st++junk))=st.reverse:=by rw[List.take_append_of_le_length (by simp),List.take_of_length_le (by simp)]
   have eV:st.reverse.length=st.length:=List.length_reverse
   refine ax (aa fL1 (aa @eT (aa @eU @eV))) ?_
   all_goals try(apply ai;repeat' first|exact ah|apply aa|(apply ak;intro zb hc)|(apply aj;intro zb)|intro j')<;>try apply al
   all_goals(first|(rw[List.take_of_length_le (l:=st.reverse) (by simp),List.take_of_length_le (by simp)];exact c1_1)|(simp;done)|skip)
def sT (f:List Int→List Int) (p:List Int):Int:=if ae p=true then ua f 64 p else -1
theorem rN {f:List Int→List Int} {p:List Int}: -1≤sT f p∧sT f p≤64:=by
 unfold sT;split
 ·have:=IM (f:=f) (d:=64) (p:=p);omega
 ·omega
theorem cV {m0:Bool} (p:List Int) (g:FuncId) (f:List Int→List Int) (hp:ae p=true) (hf:∀q,aU q=true→q.length=p.length→aU (f q)=true∧(f q).length=q.length∧(y7 q=false→v8 (f q)<v8 q)) (hg:∀(m:Bool) (q:List Int),q.length≤8→aU q=true→Fun Tryz.prog g [.sl (.lent m) (List.map (PV.int .i64) q)] [.sl .own (List.map (PV.int .i64) (f q))]):Fun Tryz.prog 92 [(.sl (.lent m0) (List.map (PV.int .i64) (p))),(.fn g [] [])] [(.int .i64 (ua f 64 p))]:=by
 refine fO aR [4] Tryz.func92 ?_
 have cE1:= @dm
 obtain⟨h8,hq⟩:=aw hp
 have h64:v8 p≤64:=Nat.le_trans wJ (Nat.mul_le_mul h8 h8)
 refine ax trivial ?_
 all_goals try(apply ai;repeat' first|exact ah|apply aa|(apply ak;intro zb hc)|(apply aj;intro zb)|intro j')<;>try apply al
 refine an (fun ms1 S1=>∃(b:Bool) (id:Nat) (q:List Int) (k:Nat) (d:Nat),S1.e 0=(bif b then AV.p (.sl (.lent m0) (List.map (PV.int .i64) q))else AV.ref id 0 q.length)∧S1.e 1=.p (.fn g [] [])∧S1.e 5=.p (.int .i64 (k))∧(aU q=true)∧(q.length=p.length)∧((k:Int)+ua f d q=ua f 64 p)∧(v8 q≤d)∧(k+d=64)∧(b=true∨(id<S1.n∧S1.h id=.live false (List.map (PV.int .i64) q)))∧ms1=d) ((fun(b:Bool) (id:Nat) (q:List Int) (k:Nat) (d:Nat)=>d) (true) (0) (p) (0) (64)) ?_ ⟨true,0,p,0,64,dC trivial ?_⟩
 all_goals try(apply ai;repeat' first|exact ah|apply aa|(apply ak;intro zb hc)|(apply aj;intro zb)|intro j')<;>try apply al
 rintro ms1 S1 ⟨b,id,q,k,d,h1_0,h1_1,h1_5,c1_0,c1_1,c1_2,c1_3,c1_4,c1_5,hm1⟩
 have fL1:=(aa h1_0 (aa h1_1 h1_5))
 ·have hpq:ae q=true:=by simp only[ae,c1_0,Bool.and_true,decide_eq_true_eq];omega
  obtain⟨f1,f2,f3⟩:=hf q c1_0 c1_1
  have cg:=fun m:Bool=>hg m q (by omega) c1_0
  cases hu:y7 q with
  |true=>
   rw[wi hu]at c1_2
   cases b with
   |true=>
    simp only[cond_true]at h1_0
    have cE1:= @cg;have cE2:= @dm
    refine ax (aa fL1 (aa @h1_0 (aa @hpq @hu))) ?_
    all_goals try(apply ai;repeat' first|exact ah|apply aa|(apply ak;intro zb hc)|(apply aj;intro zb)|intro j')<;>try apply al
   |false=>
    simp only[cond_false]at h1_0
    rcases c1_5 with e|⟨e1,e2⟩
    ·cases e
    ·have n4:=aG e1
     have cE1:= @cg;have cE2:= @dm
     refine ax (aa fL1 (aa @h1_0 (aa @e2 (aa @n4 (aa @hpq @hu))))) ?_
     all_goals try(apply ai;repeat' first|exact ah|apply aa|(apply ak;intro zb hc)|(apply aj;intro zb)|intro j')<;>try apply al
  |false=>
   have f4:=f3 hu
   obtain⟨d,rfl⟩:∃e,d=e+1:=⟨d - 1,by omega⟩
   rw[ua,hu,if_neg (by decide)]at c1_2
   cases b with
   |true=>
    simp only[cond_true]at h1_0
    have cE1:= @cg;have cE2:= @dm
    refine ax (aa fL1 (aa @h1_0 (aa @hpq @hu))) ?_
    all_goals try(apply ai;repeat' first|exact ah|apply aa|(apply ak;intro zb hc)|(apply aj;intro zb)|intro j')<;>try apply al
    focus
     refine am ((fun(b:Bool) (id:Nat) (q:List Int) (k:Nat) (d:Nat)=>d) (false) (S1.n+1280) (f q) (k+1) (d)) (dC fL1 ?_) ⟨false,S1.n+1280,f q,k+1,d,dC fL1 ?_⟩
     all_goals try(apply ai;repeat' first|exact ah|apply aa|(apply ak;intro zb hc)|(apply aj;intro zb)|intro j')<;>try apply al
    all_goals(first|(rw[←c1_2];omega)|skip)
   |false=>
    simp only[cond_false]at h1_0
    rcases c1_5 with e|⟨e1,e2⟩
    ·cases e
    ·have n4:=aG e1
     have cE1:= @cg;have cE2:= @dm
     refine ax (aa fL1 (aa @h1_0 (aa @e2 (aa @n4 (aa @hpq @hu))))) ?_
     all_goals try(apply ai;repeat' first|exact ah|apply aa|(apply ak;intro zb hc)|(apply aj;intro zb)|intro j')<;>try apply al
     focus
      refine am ((fun(b:Bool) (id:Nat) (q:List Int) (k:Nat) (d:Nat)=>d) (false) (S1.n+1280) (f q) (k+1) (d)) (dC fL1 ?_) ⟨false,S1.n+1280,f q,k+1,d,dC fL1 ?_⟩
      all_goals try(apply ai;repeat' first|exact ah|apply aa|(apply ak;intro zb hc)|(apply aj;intro zb)|intro j')<;>try apply al
     all_goals(first|(rw[←c1_2];omega)|skip)
theorem fA {m0:Bool} (p:List Int) (hl:p.length≤1048576):Fun Tryz.prog 47 [(.sl (.lent m0) (List.map (PV.int .i64) (p)))] [(.int .i64 (sT nW p))]:=by
 by_cases h:ae p=true
 ·have c1:=fun m0:Bool=>cV (m0:=m0) p 93 nW h (fun q hq _=>BJ hq) (fun m q hl _=>fZ (m0:=m) q hl)
  rw[sT,if_pos h]
  refine fO aR [2] Tryz.func47 ?_
  have cE1:= @ao;have cE2:= @cV;have cE3:= @fZ
  have cE1:= @c1;have cE2:= @ao
  refine ax @h ?_
  all_goals try(apply ai;repeat' first|exact ah|apply aa|(apply ak;intro zb hc)|(apply aj;intro zb)|intro j')<;>try apply al
 ·rw[sT,if_neg h]
  rw[Bool.not_eq_true]at h
  refine fO aR [2] Tryz.func47 ?_
  have cE1:= @ao;have cE2:= @cV;have cE3:= @fZ
  refine ax @h ?_
  all_goals try(apply ai;repeat' first|exact ah|apply aa|(apply ak;intro zb hc)|(apply aj;intro zb)|intro j')<;>try apply al
theorem fk {m0:Bool} (p:List Int) (hl:p.length≤1048576):Fun Tryz.prog 33 [(.sl (.lent m0) (List.map (PV.int .i64) (p)))] [(.int .i64 (sT nW p))]:=by
 by_cases h:ae p=true
 ·obtain⟨h8,hq⟩:=aw h
  have h64:v8 p≤64:=Nat.le_trans wJ (Nat.mul_le_mul h8 h8)
  rw[sT,if_pos h]
  refine fO aR [2] Tryz.func33 ?_
  have cE1:= @aq;have cE2:= @cY;have cE3:= @j4
  refine ax @h ?_
  all_goals try(apply ai;repeat' first|exact ah|apply aa|(apply ak;intro zb hc)|(apply aj;intro zb)|intro j')<;>try apply al
  refine an (fun ms1 S1=>∃(b:Bool) (id:Nat) (q:List Int) (k:Nat) (d:Nat),S1.e 0=(bif b then AV.p (.sl (.lent m0) (List.map (PV.int .i64) q))else AV.ref id 0 q.length)∧S1.e 3=.p (.int .i64 (k))∧(aU q=true)∧(q.length=p.length)∧((k:Int)+ua nW d q=ua nW 64 p)∧(v8 q≤d)∧(k+d=64)∧(b=true∨(id<S1.n∧S1.h id=.live false (List.map (PV.int .i64) q)))∧ms1=d) ((fun(b:Bool) (id:Nat) (q:List Int) (k:Nat) (d:Nat)=>d) (true) (0) (p) (0) (64)) ?_ ⟨true,0,p,0,64,dC trivial ?_⟩
  all_goals try(apply ai;repeat' first|exact ah|apply aa|(apply ak;intro zb hc)|(apply aj;intro zb)|intro j')<;>try apply al
  rintro ms1 S1 ⟨b,id,q,k,d,h1_0,h1_3,c1_0,c1_1,c1_2,c1_3,c1_4,c1_5,hm1⟩
  have fL1:=(aa h1_0 h1_3)
  ·have q8:q.length≤8:=by omega
   obtain⟨f1,f2,f3⟩:=BJ c1_0
   cases hu:y7 q with
   |true=>
    rw[wi hu]at c1_2
    cases b with
    |true=>
     simp only[cond_true]at h1_0
     refine ax (aa fL1 (aa @h1_0 @hu)) ?_
     all_goals try(apply ai;repeat' first|exact ah|apply aa|(apply ak;intro zb hc)|(apply aj;intro zb)|intro j')<;>try apply al
    |false=>
     simp only[cond_false]at h1_0
     rcases c1_5 with e|⟨e1,e2⟩
     ·cases e
     ·have n4:=aG e1
      refine ax (aa fL1 (aa @h1_0 (aa @e2 (aa @n4 @hu)))) ?_
      all_goals try(apply ai;repeat' first|exact ah|apply aa|(apply ak;intro zb hc)|(apply aj;intro zb)|intro j')<;>try apply al
   |false=>
    have f4:=f3 hu
    obtain⟨d,rfl⟩:∃e,d=e+1:=⟨d - 1,by omega⟩
    rw[ua,hu,if_neg (by decide)]at c1_2
    cases b with
    |true=>
     simp only[cond_true]at h1_0
     refine ax (aa fL1 (aa @h1_0 @hu)) ?_
     all_goals try(apply ai;repeat' first|exact ah|apply aa|(apply ak;intro zb hc)|(apply aj;intro zb)|intro j')<;>try apply al
     focus
      refine am ((fun(b:Bool) (id:Nat) (q:List Int) (k:Nat) (d:Nat)=>d) (false) (S1.n+1024) (nW q) (k+1) (d)) (dC fL1 ?_) ⟨false,S1.n+1024,nW q,k+1,d,dC fL1 ?_⟩
      all_goals try(apply ai;repeat' first|exact ah|apply aa|(apply ak;intro zb hc)|(apply aj;intro zb)|intro j')<;>try apply al
     all_goals(first|(rw[←c1_2];omega)|skip)
    |false=>
     simp only[cond_false]at h1_0
     rcases c1_5 with e|⟨e1,e2⟩
     ·cases e
     ·have n4:=aG e1
      refine ax (aa fL1 (aa @h1_0 (aa @e2 (aa @n4 @hu)))) ?_
      all_goals try(apply ai;repeat' first|exact ah|apply aa|(apply ak;intro zb hc)|(apply aj;intro zb)|intro j')<;>try apply al
      focus
       refine am ((fun(b:Bool) (id:Nat) (q:List Int) (k:Nat) (d:Nat)=>d) (false) (S1.n+1024) (nW q) (k+1) (d)) (dC fL1 ?_) ⟨false,S1.n+1024,nW q,k+1,d,dC fL1 ?_⟩
       all_goals try(apply ai;repeat' first|exact ah|apply aa|(apply ak;intro zb hc)|(apply aj;intro zb)|intro j')<;>try apply al
      all_goals(first|(rw[←c1_2];omega)|skip)
 ·rw[sT,if_neg h]
  rw[Bool.not_eq_true]at h
  refine fO aR [2] Tryz.func33 ?_
  have cE1:= @aq;have cE2:= @cY;have cE3:= @j4
  refine ax @h ?_
  all_goals try(apply ai;repeat' first|exact ah|apply aa|(apply ak;intro zb hc)|(apply aj;intro zb)|intro j')<;>try apply al
theorem ZT {p:List Int} {a b:Nat}:(p.drop a).getD b 0=p.getD (a+b) 0:=by
 rw[List.getD_eq_getElem?_getD,List.getElem?_drop,←List.getD_eq_getElem?_getD]
theorem lX {p:List Int} {i j:Nat} (h:i≤j) (hj:j<p.length):(p.drop i).take (j+1 - i)=(p.drop i).take (j - i)++[p.getD j 0]:=by
 rw[show j+1 - i=(j - i)+1 by omega,az (d:=0) (by rw[List.length_drop];omega),ZT,show i+(j - i)=j by omega]
theorem BY {p:List Int} {i:Nat}:∀{d j:Nat},j=i+d→j<p.length→(∀t,i≤t→t<j→p.getD (t+1) 0<p.getD t 0)→kf (p.drop i) []=kf (p.drop (j+1)) ((p.drop i).take (j+1 - i)).reverse
 |0,j,e,hj,_=>by
  obtain rfl:j=i:=by omega
  rw[lX (Nat.le_refl _) hj,Nat.sub_self,List.take_zero,List.nil_append,List.reverse_singleton,aY hj,kf]
 |d+1,j,e,hj,hd=>by
  obtain⟨k,rfl⟩:∃k,j=k+1:=⟨j - 1,by omega⟩
  rw[BY (d:=d) (j:=k) (by omega) (by omega) (fun t h1 h2=>hd t h1 (by omega)),lX (j:=k) (by omega) (by omega),List.reverse_append,List.reverse_singleton,List.singleton_append,aY hj,kf,if_pos (hd k (by omega) (by omega)),lX (j:=k+1) (by omega) hj,List.reverse_append,List.reverse_singleton,List.singleton_append]
  rw[show k+1 - i=(k - i)+1 by omega]at*
  congr 2
  rw[←show k+1 - i=(k - i)+1 by omega,lX (j:=k) (by omega) (by omega),List.reverse_append,List.reverse_singleton,List.singleton_append]
theorem xO {p:List Int} {i j:Nat} (h:i≤j) (hj:j<p.length) (he:j+1=p.length∨¬p.getD (j+1) 0<p.getD j 0) (hd:∀t,i≤t→t<j→p.getD (t+1) 0<p.getD t 0):
  kf (p.drop i) []=((p.drop i).take (j+1 - i)).reverse++kf (p.drop (j+1)) []:=by
 rw[BY (d:=j - i) (by omega) hj hd,lX h hj,List.reverse_append,List.reverse_singleton,List.singleton_append]
 by_cases e:j+1=p.length
 ·rw[List.drop_of_length_le (by omega)];simp[kf]
 ·have h2:¬p.getD (j+1) 0<p.getD j 0:=by
   rcases he with g|g
   ·exact absurd g e
   ·exact g
  rw[aY (k:=j+1) (by omega)]
  simp only[kf,if_neg h2]
theorem jZ {m0:Bool} (p:List Int) (hl:p.length≤8):Fun Tryz.prog 73 [(.sl (.lent m0) (List.map (PV.int .i64) (p)))] [(.sl .own (List.map (PV.int .i64) (nm p)))]:=by
 refine fO aR [2] Tryz.func73 ?_
 have cE1:= @aT
 refine ax trivial ?_
 all_goals try(apply ai;repeat' first|exact ah|apply aa|(apply ak;intro zb hc)|(apply aj;intro zb)|intro j')<;>try apply al
 refine an (fun ms1 S1=>∃(i:Nat) (o:List Int),S1.e 0=.p (.sl (.lent m0) (List.map (PV.int .i64) (p)))∧OwnL (S1.e 3) S1.h S1.n (PV.int .i64) ((o).length) (o)∧S1.e 4=.p (.int .i64 (i))∧(i≤p.length)∧(o++kf (p.drop i) []=nm p)∧(o.length=i)∧ms1=p.length - i) ((fun(i:Nat) (o:List Int)=>p.length - i) (0) ([])) ?_ ⟨0,[],dC trivial ?_⟩
 all_goals try(apply ai;repeat' first|exact ah|apply aa|(apply ak;intro zb hc)|(apply aj;intro zb)|intro j')<;>try apply al
 rintro ms1 S1 ⟨i,o,h1_0,o1_3,h1_4,c1_0,c1_1,c1_2,hm1⟩
 obtain⟨i1_3,h1_3,b1_3,l1_3⟩:=o1_3.out
 have ni1_3:=aG (x:=i1_3) (n:=S1.n)
 have fL1:=(aa h1_0 (aa h1_4 (aa h1_3 (aa b1_3 ni1_3))))
 ·by_cases hi:i<p.length
  ·refine ax fL1 ?_
   all_goals try(apply ai;repeat' first|exact ah|apply aa|(apply ak;intro zb hc)|(apply aj;intro zb)|intro j')<;>try apply al
   refine an (fun ms2 S2=>∃(j:Nat),S2.e 0=.p (.sl (.lent m0) (List.map (PV.int .i64) (p)))∧OwnL (S2.e 3) S2.h S2.n (PV.int .i64) ((o).length) (o)∧S2.e 4=.p (.int .i64 (i))∧S2.e 5=.p (.int .i64 (j))∧(i≤j∧j<p.length)∧(∀t,i≤t→t<j→p.getD (t+1) 0<p.getD t 0)∧S1.n≤S2.n∧ms2=p.length - j) ((fun(j:Nat)=>p.length - j) (i)) ?_ ⟨i,dC fL1 ?_⟩
   all_goals try(apply ai;repeat' first|exact ah|apply aa|(apply ak;intro zb hc)|(apply aj;intro zb)|intro j')<;>try apply al
   rintro ms2 S2 ⟨j,h2_0,o2_3,h2_4,h2_5,c2_0,c2_1,u2_0,hm2⟩
   obtain⟨i2_3,h2_3,b2_3,l2_3⟩:=o2_3.out
   have ni2_3:=aG (x:=i2_3) (n:=S2.n)
   have fL2:=(aa h2_0 (aa h2_4 (aa h2_5 (aa h2_3 (aa b2_3 ni2_3)))))
   ·have fin:(j+1=p.length∨¬p.getD (j+1) 0<p.getD j 0)→(o++((p.drop i).take (j+1 - i)).reverse)++kf (p.drop (j+1)) []=nm p:=fun he=>by
     rw[List.append_assoc,←xO c2_0.1 c2_0.2 he c2_1];exact c1_1
    have el:((p.drop i).take (j+1 - i)).reverse.length=j+1 - i:=by rw[List.length_reverse,List.length_take,List.length_drop];omega
    have ek:List.drop i (List.take (j+1) p)=(p.drop i).take (j+1 - i):=List.drop_take
    have ej:((j:Int)+1).toNat=j+1:=by omega
    by_cases hj:j+1<p.length
    ·by_cases hd:p.getD (j+1) 0<p.getD j 0
     ·refine ax (aa fL2 (aa @hd @ej)) ?_
      all_goals try(apply ai;repeat' first|exact ah|apply aa|(apply ak;intro zb hc)|(apply aj;intro zb)|intro j')<;>try apply al
      focus
       refine am ((fun(j:Nat)=>p.length - j) (j+1)) (dC fL2 ?_) ⟨j+1,dC fL2 ?_⟩
       all_goals try(apply ai;repeat' first|exact ah|apply aa|(apply ak;intro zb hc)|(apply aj;intro zb)|intro j')<;>try apply al
      all_goals(first|(intro t h1 h2;rcases Nat.lt_or_ge t j with g|g;exact c2_1 t h1 g;obtain rfl:t=j:=(by omega);exact hd)|skip)
     ·have q1:=fin (.inr hd)
      have hd':(p.getD (j+1) 0<p.getD j 0)=False:=eq_false hd
      refine ax (aa fL2 (aa @hd' (aa @ej @ek))) ?_
      all_goals try(apply ai;repeat' first|exact ah|apply aa|(apply ak;intro zb hc)|(apply aj;intro zb)|intro j')<;>try apply al
      focus
       refine am ((fun(i:Nat) (o:List Int)=>p.length - i) (j+1) (o++((p.drop i).take (j+1 - i)).reverse)) (dC fL2 ?_) ⟨j+1,o++((p.drop i).take (j+1 - i)).reverse,dC fL2 ?_⟩
       all_goals try(apply ai;repeat' first|exact ah|apply aa|(apply ak;intro zb hc)|(apply aj;intro zb)|intro j')<;>try apply al
      all_goals(first|exact q1|(rw[←List.append_assoc];exact q1)|(rw[List.length_append,el];omega)|skip)
    ·have q1:=fin (.inl (by omega))
     refine ax (aa fL2 (aa @ej @ek)) ?_
     all_goals try(apply ai;repeat' first|exact ah|apply aa|(apply ak;intro zb hc)|(apply aj;intro zb)|intro j')<;>try apply al
     focus
      refine am ((fun(i:Nat) (o:List Int)=>p.length - i) (j+1) (o++((p.drop i).take (j+1 - i)).reverse)) (dC fL2 ?_) ⟨j+1,o++((p.drop i).take (j+1 - i)).reverse,dC fL2 ?_⟩
      all_goals try(apply ai;repeat' first|exact ah|apply aa|(apply ak;intro zb hc)|(apply aj;intro zb)|intro j')<;>try apply al
     all_goals(first|exact q1|(rw[←List.append_assoc];exact q1)|(rw[List.length_append,el];omega)|skip)
  ·obtain rfl:i=p.length:=by omega
   rw[List.drop_length]at c1_1
   have q1:o=nm p:=by rw[←c1_1];simp[kf]
   refine ax fL1 ?_
   all_goals try(apply ai;repeat' first|exact ah|apply aa|(apply ak;intro zb hc)|(apply aj;intro zb)|intro j')<;>try apply al
   all_goals(first|exact q1|(rw[q1];done)|skip)
def kD (p:List Int):Nat→List (List Int)×Nat
 |0=>([],0)
 |i+1=>if i+1=p.length∨p.getD i 0<p.getD (i+1) 0 then((kD p i).1++[[((kD p i).2:Int)+1,(i:Int)+1]],i+1)else kD p i
def zw (q r:List Int):List Int:=q.take (r.getD 0 0 - 1).toNat++((q.drop (r.getD 0 0 - 1).toNat).take ((r.getD 1 0).toNat - (r.getD 0 0 - 1).toNat)).reverse++q.drop (r.getD 1 0).toNat
def lA (L:List (List Int)) (q:List Int):List Int:=L.foldl zw q
theorem Cc {q r:List Int} (h0:1≤r.getD 0 0) (h1:r.getD 0 0≤r.getD 1 0) (h2:r.getD 1 0≤q.length):(zw q r).length=q.length:=by
 unfold zw
 simp only[List.length_append,List.length_reverse,List.length_take,List.length_drop];omega
theorem pS {n:Nat}:∀{L:List (List Int)} {q:List Int},q.length=n→(∀r∈L,1≤r.getD 0 0∧r.getD 0 0≤r.getD 1 0∧r.getD 1 0≤n)→(lA L q).length=n
 |[],_,h,_=>h
 |r::L,q,h,hr=>by
  have:=hr r List.mem_cons_self
  rw[lA,List.foldl_cons]
  exact pS (L:=L) (by rw[Cc this.1 this.2.1 (by omega)];exact h) fun r hr'=>hr r (List.mem_cons_of_mem _ hr')
theorem yz {p:List Int} (hn:p.Nodup):∀{i:Nat},i≤p.length→(kD p i).2≤i∧(kD p i).1.length≤i∧(∀r∈(kD p i).1,r.length=2∧1≤r.getD 0 0∧r.getD 0 0≤r.getD 1 0∧r.getD 1 0≤p.length)∧
  (∀t,(kD p i).2≤t→t<i→p.getD (t+1) 0<p.getD t 0)∧(i=p.length→(kD p i).2=i)∧
  ∃O:List Int,O.length=(kD p i).2∧lA (kD p i).1 p=O++p.drop (kD p i).2∧O++kf (p.drop (kD p i).2) []=nm p
 |0,_=>⟨Nat.le_refl _,Nat.le_refl _,fun r h=>(by cases h),fun t _ h=>absurd h (by omega),fun h=>rfl,[],rfl,by simp[kD,lA],by simp[kD,nm]⟩
 |i+1,hi=>by
  obtain⟨h1,h2,h3,h4,_,O,o1,o2,o3⟩:=yz hn (i:=i) (by omega)
  rw[kD]
  by_cases hB:i+1=p.length∨p.getD i 0<p.getD (i+1) 0
  ·rw[if_pos hB]
   generalize hs:(kD p i).2=s at*
   generalize hL:(kD p i).1=L at*
   simp only
   have he:i+1=p.length∨¬p.getD (i+1) 0<p.getD i 0:=by
    rcases hB with g|g
    ·exact .inl g
    ·exact .inr (by omega)
   have hr:=xO h1 (by omega) he h4
   refine⟨Nat.le_refl _,by simp;omega,fun r hr=> ?_,fun t g1 g2=>by omega,by intros;trivial,O++((p.drop s).take (i+1 - s)).reverse, ?_, ?_, ?_⟩
   ·rcases List.mem_append.1 hr with g|g
    ·exact h3 r g
    ·rw[List.mem_singleton]at g;subst g
     refine⟨rfl, ?_, ?_, ?_⟩<;>simp<;>omega
   ·simp only[List.length_append,List.length_reverse,List.length_take,List.length_drop];omega
   ·rw[lA,List.foldl_append,List.foldl_cons,List.foldl_nil,←lA,o2]
    unfold zw
    have e0:([(s:Int)+1,(i:Int)+1].getD 0 0 - 1).toNat=s:=by simp
    have e1:([(s:Int)+1,(i:Int)+1].getD 1 0).toNat=i+1:=by simp<;>omega
    rw[e0,e1]
    congr 1
    ·congr 1
     ·rw[←o1,List.take_append_of_le_length (Nat.le_refl _),List.take_length]
     ·rw[←o1,List.drop_append_of_le_length (Nat.le_refl _),List.drop_length,List.nil_append]
    ·rw[List.drop_append,List.drop_of_length_le (by omega),List.nil_append,List.drop_drop,show s+(i+1 - O.length)=i+1 by omega]
   ·rw[List.append_assoc,←hr];exact o3
  ·rw[if_neg hB]
   refine⟨by omega,by omega,h3,fun t g1 g2=> ?_,fun e=>absurd (.inl e) hB,O,o1,o2,o3⟩
   rcases Nat.lt_or_ge t i with g|g
   ·exact h4 t g1 g
   ·obtain rfl:t=i:=by omega
    have hne:p.getD t 0≠p.getD (t+1) 0:=fun e=>by
     rw[List.getD_eq_getElem?_getD,List.getD_eq_getElem?_getD,List.getElem?_eq_getElem (by omega),List.getElem?_eq_getElem (by omega)]at e
     exact List.pairwise_iff_getElem.1 (List.nodup_iff_pairwise_ne.1 hn) t (t+1) (by omega) (by omega) (by omega) (by simpa using e)
    omega
theorem MY {p:List Int} (hn:p.Nodup):lA (kD p p.length).1 p=nm p:=by
 obtain⟨_,_,_,_,h5,O,o1,o2,o3⟩:=yz hn (Nat.le_refl _)
 rw[h5 rfl,List.drop_length]at o2 o3
 rw[o2,←o3];simp[kf]
theorem tK {m0:Bool} (p:List Int) (hl:p.length≤8) (hn:p.Nodup):Fun Tryz.prog 135 [(.sl (.lent m0) (List.map (PV.int .i64) (p)))] [(.sl .own (List.map (bt false) ((kD p p.length).1)))]:=by
 refine fO aR [2] Tryz.func135 ?_
 refine ax trivial ?_
 all_goals try(apply ai;repeat' first|exact ah|apply aa|(apply ak;intro zb hc)|(apply aj;intro zb)|intro j')<;>try apply al
 refine an (fun ms1 S1=>∃(i:Nat),S1.e 0=.p (.sl (.lent m0) (List.map (PV.int .i64) (p)))∧OwnL (S1.e 3) S1.h S1.n (bt false) (((kD p i).1).length) ((kD p i).1)∧S1.e 4=.p (.int .i64 ((kD p i).2))∧S1.e 8=.p (.int .i64 (p.length))∧S1.e 9=.p (.int .i64 (i))∧(i≤p.length)∧ms1=p.length - i) ((fun(i:Nat)=>p.length - i) (0)) ?_ ⟨0,dC trivial ?_⟩
 all_goals try(apply ai;repeat' first|exact ah|apply aa|(apply ak;intro zb hc)|(apply aj;intro zb)|intro j')<;>try apply al
 rintro ms1 S1 ⟨i,h1_0,o1_3,h1_4,h1_8,h1_9,c1_0,hm1⟩
 obtain⟨i1_3,h1_3,b1_3,l1_3⟩:=o1_3.out
 have ni1_3:=aG (x:=i1_3) (n:=S1.n)
 have fL1:=(aa h1_0 (aa h1_4 (aa h1_8 (aa h1_9 (aa h1_3 (aa b1_3 ni1_3))))))
 ·obtain⟨b1,b2,_⟩:=yz hn c1_0
  by_cases hi:i<p.length
  ·have e0:kD p (i+1)=if i+1=p.length∨p.getD i 0<p.getD (i+1) 0 then((kD p i).1++[[((kD p i).2:Int)+1,(i:Int)+1]],i+1)else kD p i:=rfl
   have ei:((i:Int)+1).toNat=i+1:=by omega
   by_cases hE:i+1=p.length
   ·rw[if_pos (.inl hE)]at e0
    have e1:(kD p (i+1)).1=(kD p i).1++[[((kD p i).2:Int)+1,(i:Int)+1]]:=by rw[e0]
    have e2:(kD p (i+1)).2=i+1:=by rw[e0]
    have hE':((i:Int)+1=(p.length:Int))=True:=eq_true (by omega)
    refine ax (aa fL1 (aa @hE' @ei)) ?_
    all_goals try(apply ai;repeat' first|exact ah|apply aa|(apply ak;intro zb hc)|(apply aj;intro zb)|intro j')<;>try apply al
    focus
     refine am ((fun(i:Nat)=>p.length - i) (i+1)) (dC fL1 ?_) ⟨i+1,dC fL1 ?_⟩
     all_goals try(apply ai;repeat' first|exact ah|apply aa|(apply ak;intro zb hc)|(apply aj;intro zb)|intro j')<;>try apply al
    all_goals(first|(rw[e1];done)|(rw[e2];done)|(rw[e2];rfl)|(rw[e1,List.length_append];rfl)|(rw[e1,List.map_append];rfl)|skip)
   ·have hE':((i:Int)+1=(p.length:Int))=False:=eq_false (by omega)
    by_cases hr:p.getD i 0<p.getD (i+1) 0
    ·rw[if_pos (.inr hr)]at e0
     have e1:(kD p (i+1)).1=(kD p i).1++[[((kD p i).2:Int)+1,(i:Int)+1]]:=by rw[e0]
     have e2:(kD p (i+1)).2=i+1:=by rw[e0]
     refine ax (aa fL1 (aa @hE' (aa @hr @ei))) ?_
     all_goals try(apply ai;repeat' first|exact ah|apply aa|(apply ak;intro zb hc)|(apply aj;intro zb)|intro j')<;>try apply al
     focus
      refine am ((fun(i:Nat)=>p.length - i) (i+1)) (dC fL1 ?_) ⟨i+1,dC fL1 ?_⟩
      all_goals try(apply ai;repeat' first|exact ah|apply aa|(apply ak;intro zb hc)|(apply aj;intro zb)|intro j')<;>try apply al
     all_goals(first|(rw[e1];done)|(rw[e2];done)|(rw[e2];rfl)|(rw[e1,List.length_append];rfl)|(rw[e1,List.map_append];rfl)|skip)
    ·rw[if_neg (by omega)]at e0
     have hr':(p.getD i 0<p.getD (i+1) 0)=False:=eq_false hr
     refine ax (aa fL1 (aa @hE' (aa @hr' @ei))) ?_
     all_goals try(apply ai;repeat' first|exact ah|apply aa|(apply ak;intro zb hc)|(apply aj;intro zb)|intro j')<;>try apply al
     focus
      refine am ((fun(i:Nat)=>p.length - i) (i+1)) (dC fL1 ?_) ⟨i+1,dC fL1 ?_⟩
      all_goals try(apply ai;repeat' first|exact ah|apply aa|(apply ak;intro zb hc)|(apply aj;intro zb)|intro j')<;>try apply al
     all_goals(first|(rw[e0];done)|skip)
  ·obtain rfl:i=p.length:=by omega
   refine ax fL1 ?_
   all_goals try(apply ai;repeat' first|exact ah|apply aa|(apply ak;intro zb hc)|(apply aj;intro zb)|intro j')<;>try apply al
theorem ik {m0:Bool} (p:List Int) (hl:p.length≤8) (hn:p.Nodup):Fun Tryz.prog 94 [(.sl (.lent m0) (List.map (PV.int .i64) (p)))] [(.sl .own (List.map (PV.int .i64) (nm p)))]:=by
 refine fO uq [2] Tryz.func94 ?_
 have cE1:= @bS;have cE2:= @tK;have cM1:= @cN;have cD1:=gY [false,false,false,false,false,false,false,false,false,true] []
 have hr:=uw
 obtain⟨_,b2,b3,_⟩:=yz hn (Nat.le_refl p.length)
 have bp:=MY hn
 generalize hF:(kD p p.length).1=F at*
 have cM2:= @hr
 refine ax @hF ?_
 all_goals try(apply ai;repeat' first|exact ah|apply aa|(apply ak;intro zb hc)|(apply aj;intro zb)|intro j')<;>try apply al
 refine an (fun ms1 S1=>∃(k:Nat),OwnL (S1.e 3) S1.h S1.n (PV.int .i64) ((lA (F.take k) p).length) (lA (F.take k) p)∧OwnL (S1.e 9) S1.h S1.n (bt false) ((F).length) (F)∧S1.e 10=.p (.int .i64 (F.length))∧S1.e 11=.p (.int .i64 (k))∧(k≤F.length)∧NId (S1.e 9) (S1.e 3)∧ms1=F.length - k) ((fun(k:Nat)=>F.length - k) (0)) ?_ ⟨0,dC trivial ?_⟩
 all_goals try(apply ai;repeat' first|exact ah|apply aa|(apply ak;intro zb hc)|(apply aj;intro zb)|intro j')<;>try apply al
 rintro ms1 S1 ⟨k,o1_3,o1_9,h1_10,h1_11,c1_0,u1_0,hm1⟩
 obtain⟨i1_3,h1_3,b1_3,l1_3⟩:=o1_3.out
 obtain⟨i1_9,h1_9,b1_9,l1_9⟩:=o1_9.out
 have k1_0:=(u1_0).out h1_9 h1_3
 have ni1_3:=aG (x:=i1_3) (n:=S1.n)
 have ni1_9:=aG (x:=i1_9) (n:=S1.n)
 have di1_3i1_9:=cQ (x:=i1_3) (y:=i1_9)
 have fL1:=(aa h1_10 (aa h1_11 (aa h1_3 (aa b1_3 (aa h1_9 (aa b1_9 (aa ni1_3 (aa ni1_9 di1_3i1_9))))))))
 ·have q1:(lA (F.take k) p).length=p.length:=pS rfl fun r hr=>(b3 r (List.mem_of_mem_take hr)).2
  by_cases hk:k<F.length
  ·obtain⟨r1,r2,r3,r4⟩:=b3 _ (ar (l:=F) (i:=k) (d:=[]) hk)
   have e1:lA (F.take (k+1)) p=zw (lA (F.take k) p) (F.getD k []):=by rw[az (d:=[]) hk,lA,List.foldl_append];rfl
   unfold zw at e1
   have q2:(lA (F.take (k+1)) p).length=p.length:=pS rfl fun r hr=>(b3 r (List.mem_of_mem_take hr)).2
   have e6:((F.getD k []).getD 0 0 - 1).toNat+(((F.getD k []).getD 1 0).toNat - ((F.getD k []).getD 0 0 - 1).toNat)=((F.getD k []).getD 1 0).toNat:=by omega
   have cM2:= @hr
   refine ax fL1 ?_
   all_goals try(apply ai;repeat' first|exact ah|apply aa|(apply ak;intro zb hc)|(apply aj;intro zb)|intro j')<;>try apply al
   focus
    refine am ((fun(k:Nat)=>F.length - k) (k+1)) (dC fL1 ?_) ⟨k+1,dC fL1 ?_⟩
    all_goals try(apply ai;repeat' first|exact ah|apply aa|(apply ak;intro zb hc)|(apply aj;intro zb)|intro j')<;>try apply al
   all_goals(first|(rw[e1];done)|(rw[q1,q2];done)|(rw[e6,e1,List.append_assoc];done)|skip)
  ·rw[List.take_of_length_le (by omega),bp]at q1
   have e2:lA (F.take k) p=nm p:=by rw[List.take_of_length_le (by omega),bp]
   have cM2:= @hr
   refine ax (aa fL1 @e2) ?_
   all_goals try(apply ai;repeat' first|exact ah|apply aa|(apply ak;intro zb hc)|(apply aj;intro zb)|intro j')<;>try apply al
   all_goals(first|exact e2|skip)
theorem gs {m0:Bool} (p:List Int) (hl:p.length≤1048576):Fun Tryz.prog 48 [(.sl (.lent m0) (List.map (PV.int .i64) (p)))] [(.int .i64 (sT nm p))]:=by
 by_cases h:ae p=true
 ·have c1:=fun m0:Bool=>cV (m0:=m0) p 94 nm h (fun q hq _=>Cb hq) (fun m q hl hq=>ik (m0:=m) q hl (permB_iff.1 hq).2)
  rw[sT,if_pos h]
  refine fO aR [2] Tryz.func48 ?_
  have cE1:= @ao;have cE2:= @cV;have cE3:= @ik
  have cE1:= @c1;have cE2:= @ao
  refine ax @h ?_
  all_goals try(apply ai;repeat' first|exact ah|apply aa|(apply ak;intro zb hc)|(apply aj;intro zb)|intro j')<;>try apply al
 ·rw[sT,if_neg h]
  rw[Bool.not_eq_true]at h
  refine fO aR [2] Tryz.func48 ?_
  have cE1:= @ao;have cE2:= @cV;have cE3:= @ik
  refine ax @h ?_
  all_goals try(apply ai;repeat' first|exact ah|apply aa|(apply ak;intro zb hc)|(apply aj;intro zb)|intro j')<;>try apply al
theorem gn {m0:Bool} (p:List Int) (hl:p.length≤1048576):Fun Tryz.prog 34 [(.sl (.lent m0) (List.map (PV.int .i64) (p)))] [(.int .i64 (sT nm p))]:=by
 by_cases h:ae p=true
 ·obtain⟨h8,hq⟩:=aw h
  have h64:v8 p≤64:=Nat.le_trans wJ (Nat.mul_le_mul h8 h8)
  rw[sT,if_pos h]
  refine fO aR [2] Tryz.func34 ?_
  have cE1:= @aq;have cE2:= @cY;have cE3:= @jZ
  refine ax @h ?_
  all_goals try(apply ai;repeat' first|exact ah|apply aa|(apply ak;intro zb hc)|(apply aj;intro zb)|intro j')<;>try apply al
  refine an (fun ms1 S1=>∃(b:Bool) (id:Nat) (q:List Int) (k:Nat) (d:Nat),S1.e 0=(bif b then AV.p (.sl (.lent m0) (List.map (PV.int .i64) q))else AV.ref id 0 q.length)∧S1.e 3=.p (.int .i64 (k))∧(aU q=true)∧(q.length=p.length)∧((k:Int)+ua nm d q=ua nm 64 p)∧(v8 q≤d)∧(k+d=64)∧(b=true∨(id<S1.n∧S1.h id=.live false (List.map (PV.int .i64) q)))∧ms1=d) ((fun(b:Bool) (id:Nat) (q:List Int) (k:Nat) (d:Nat)=>d) (true) (0) (p) (0) (64)) ?_ ⟨true,0,p,0,64,dC trivial ?_⟩
  all_goals try(apply ai;repeat' first|exact ah|apply aa|(apply ak;intro zb hc)|(apply aj;intro zb)|intro j')<;>try apply al
  rintro ms1 S1 ⟨b,id,q,k,d,h1_0,h1_3,c1_0,c1_1,c1_2,c1_3,c1_4,c1_5,hm1⟩
  have fL1:=(aa h1_0 h1_3)
  ·have q8:q.length≤8:=by omega
   obtain⟨f1,f2,f3⟩:=Cb c1_0
   cases hu:y7 q with
   |true=>
    rw[wi hu]at c1_2
    cases b with
    |true=>
     simp only[cond_true]at h1_0
     refine ax (aa fL1 (aa @h1_0 @hu)) ?_
     all_goals try(apply ai;repeat' first|exact ah|apply aa|(apply ak;intro zb hc)|(apply aj;intro zb)|intro j')<;>try apply al
    |false=>
     simp only[cond_false]at h1_0
     rcases c1_5 with e|⟨e1,e2⟩
     ·cases e
     ·have n4:=aG e1
      refine ax (aa fL1 (aa @h1_0 (aa @e2 (aa @n4 @hu)))) ?_
      all_goals try(apply ai;repeat' first|exact ah|apply aa|(apply ak;intro zb hc)|(apply aj;intro zb)|intro j')<;>try apply al
   |false=>
    have f4:=f3 hu
    obtain⟨d,rfl⟩:∃e,d=e+1:=⟨d - 1,by omega⟩
    rw[ua,hu,if_neg (by decide)]at c1_2
    cases b with
    |true=>
     simp only[cond_true]at h1_0
     refine ax (aa fL1 (aa @h1_0 @hu)) ?_
     all_goals try(apply ai;repeat' first|exact ah|apply aa|(apply ak;intro zb hc)|(apply aj;intro zb)|intro j')<;>try apply al
     focus
      refine am ((fun(b:Bool) (id:Nat) (q:List Int) (k:Nat) (d:Nat)=>d) (false) (S1.n+1024) (nm q) (k+1) (d)) (dC fL1 ?_) ⟨false,S1.n+1024,nm q,k+1,d,dC fL1 ?_⟩
      all_goals try(apply ai;repeat' first|exact ah|apply aa|(apply ak;intro zb hc)|(apply aj;intro zb)|intro j')<;>try apply al
     all_goals(first|(rw[←c1_2];omega)|skip)
    |false=>
     simp only[cond_false]at h1_0
     rcases c1_5 with e|⟨e1,e2⟩
     ·cases e
     ·have n4:=aG e1
      refine ax (aa fL1 (aa @h1_0 (aa @e2 (aa @n4 @hu)))) ?_
      all_goals try(apply ai;repeat' first|exact ah|apply aa|(apply ak;intro zb hc)|(apply aj;intro zb)|intro j')<;>try apply al
      focus
       refine am ((fun(b:Bool) (id:Nat) (q:List Int) (k:Nat) (d:Nat)=>d) (false) (S1.n+1024) (nm q) (k+1) (d)) (dC fL1 ?_) ⟨false,S1.n+1024,nm q,k+1,d,dC fL1 ?_⟩
       all_goals try(apply ai;repeat' first|exact ah|apply aa|(apply ak;intro zb hc)|(apply aj;intro zb)|intro j')<;>try apply al
      all_goals(first|(rw[←c1_2];omega)|skip)
 ·rw[sT,if_neg h]
  rw[Bool.not_eq_true]at h
  refine fO aR [2] Tryz.func34 ?_
  have cE1:= @aq;have cE2:= @cY;have cE3:= @jZ
  refine ax @h ?_
  all_goals try(apply ai;repeat' first|exact ah|apply aa|(apply ak;intro zb hc)|(apply aj;intro zb)|intro j')<;>try apply al
end Go.Gl

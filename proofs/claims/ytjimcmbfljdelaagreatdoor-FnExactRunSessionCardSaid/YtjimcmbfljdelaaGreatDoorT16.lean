/-
  What the functions compute, and what the law asks of it: texts joined. Conditions: those that each lemma names.
-/
import Derived.Test.YtjimcmbfljdelaaGreatDoorT15
import Derived.Test.YtjimcmbfljdelaaGreatDoorT4
set_option linter.unusedSimpArgs false
set_option linter.unusedVariables false
set_option maxRecDepth 20000
set_option linter.unusedSectionVars false
set_option maxHeartbeats 16000000
variable{p:List Int}{f:Go.FuncId}{m0:Bool}
namespace Go.Gl
open Go Go.Proofs
variable [Amb][NoQ]
variable [TabA]
omit [TabA]in
theorem yi{p:List Int}:∀{k:Nat},(∀l∈(bi p k).2,∀x∈l,1<=x/\x<=(k:Int))
 |0=>by simp[bi]
 |k+1=>by
  have ih:=yi (p:=p) (k:=k);have hlen:=mD (p:=p) (k:=k);have g:=mw (T:=(bi p k).1) (n:=p.getD k 0);rw[bi];simp only;intro l hl x hx;split at hl
  .rcases zB3.1 hl with q|q
   .have:=ih l q x hx;omega
   .rw[zB7]at q;subst q
    rw[zB7]at hx;omega
  .rcases List.mem_or_eq_of_mem_set hl with q|q
   .have:=ih l q x hx;omega
   .subst q
    rcases zB3.1 hx with q|q
    .have:=ih _ (am (by omega)) x q;omega
    .rw[zB7]at q;omega
omit [TabA]in
theorem vh{B:Nat}:∀{l:List Nat},(∀x∈l,x<=B)->sL l<=B*l.length
 |[],_=>by simp[sL]
 |x::l,h=>by
  have h1:=h x zH1;have h2:=vh λy hy=>h y (zF1 _ hy);rw[sL,zC1,Nat.mul_add,Nat.mul_one];omega
omit [TabA]in
theorem Cp(hp:ac p=true):(bi p p.length).1.length<=8/\(bi p p.length).2.length<=8/\(∀l∈(bi p p.length).1,l.length<=8)/\(∀l∈(bi p p.length).2,l.length<=8)/\
  sL ((bi p p.length).1.map List.length)<=64/\sL ((bi p p.length).2.map List.length)<=64/\(∀l∈(bi p p.length).1,∀x∈l,0<=x/\x<=8)/\(∀l∈(bi p p.length).2,∀x∈l,0<=x/\x<=8):=by
 have h8:p.length<=8:=by simp[ac]at hp;exact hp.1
 have hq:aF p=true:=by simp[ac]at hp;exact hp.2
 obtain⟨h1,h2,h3⟩:=Ah (p:=p) (k:=p.length);have h4:=mD (p:=p) (k:=p.length);have hperm:=tj (p:=p) (k:=p.length) (zB1 _);refine⟨by omega,by omega,λl hl=>by have:=h2 l hl;omega,λl hl=>by have:=h3 l hl;omega, ?_, ?_,λl hl x hx=> ?_,λl hl x hx=> ?_⟩
 .have:=vh (B:=8) (l:=(bi p p.length).1.map List.length) (λx hx=>by
   obtain⟨l,hl,rfl⟩:=zD0.1 hx;have:=h2 l hl;omega)
  rw[zB2]at this;omega
 .have:=vh (B:=8) (l:=(bi p p.length).2.map List.length) (λx hx=>by
   obtain⟨l,hl,rfl⟩:=zD0.1 hx;have:=h3 l hl;omega)
  rw[zB2]at this;omega
 .have hm:x∈(bi p p.length).1.flatten:=List.mem_flatten.2 ⟨l,hl,hx⟩
  have:=(permB_iff.1 hq).1 x (List.mem_of_mem_take (hperm.subset hm));omega
 .have:=yi (p:=p) l hl x hx;omega
def Bm:FuncId->List Bool:=λf=>if f=4294967297 then[true,false,false,false]else[]
theorem Qg:Bm f=if f=4294967297 then[true,false,false,false]else[]:=_root_.id rfl
theorem JH:ga Bm=false/\gu Bm=true/\gs Bm=false/\gr Bm=false/\gB Bm=false:=⟨rfl,rfl,rfl,rfl,rfl⟩
attribute [go_sem] Qg JH
theorem iM(p:List Int)(hl:p.length<=1048576)(hp:ac p=true):Fun Tryz.prog 188 [lI m0 p] [.dl (List.map (List.map (PV.int .i64)) ((bi p p.length).1)),.dl (List.map (List.map (PV.int .i64)) ((bi p p.length).2)),.bool true]:=by
 refine fO Bm [2,3,4] Tryz.func188 ?_;have cE1:=@ah;have cE2:=@mg;have h8:p.length<=8:=by simp[ac]at hp;exact hp.1
 exact dE ai @hp aj
theorem gv(p:List Int)(hl:p.length<=1048576)(hp:ac p=false):Fun Tryz.prog 188 [lI m0 p] [.dl (List.map (List.map (PV.int .i64)) (([]:List (List Int)))),.dl (List.map (List.map (PV.int .i64)) (([]:List (List Int)))),.bool false]:=by
 refine fO Bm [2,3,4] Tryz.func188 ?_;have cE1:=@ah;have cE2:=@mg;exact dE ai @hp aj
def DW:FuncId->List Bool:=λf=>if f=4294967297 then[true,false,true,false]else[]
theorem Qd:DW f=if f=4294967297 then[true,false,true,false]else[]:=_root_.id rfl
theorem JE:ga DW=false/\gu DW=true/\gs DW=false/\gr DW=true/\gB DW=false:=⟨rfl,rfl,rfl,rfl,rfl⟩
attribute [go_sem] Qd JE
theorem gz(p:List Int)(hl:p.length<=1048576)(hp:ac p=false):Fun Tryz.prog 246 [lI m0 p] [.dl (List.map (List.map (PV.int .i64)) (([]:List (List Int)))),.dl (List.map (List.map (PV.int .i64)) (([]:List (List Int)))),.bool false]:=by
 refine fO DW [2,3,4] Tryz.func246 ?_;have cE1:=@ae;have cE2:=@aJ;have cD1:=d7 (d8 16 [14,15]) [];have cD2:=d7 (d8 23 [9,10,17,18,20,22]) [(0,9),(1,9),(2,9),(3,9),(4,9),(5,9),(6,9),(7,9),(0,10),(1,10),(2,10),(3,10),(9,11),(10,11),(9,12),(10,12),(9,13),(10,13),(9,14),(10,14),(9,15),(10,15),(9,16),(10,16),(0,17),(1,17),(2,17),(3,17),(4,17),(5,17),(6,17),(7,17),(8,17),(9,17),(10,17),(11,17),(12,17),(13,17),(14,17),(0,18),(1,18),(2,18),(3,18),(2,20),(3,20)];exact dE ai @hp aj
def Ye(p:List Int):List UInt8:=if ac p then(xk (bi p p.length).1++[32])++xk (bi p p.length).2 else[]
theorem od(p:List Int)(hl:p.length<=1048576):Fun Tryz.prog 91 [lI m0 p] [.str (Ye p)]:=by
 by_cases hp:ac p=true
 .obtain⟨a1,a2,a3,a4,a5,a6,a7,a8⟩:=Cp hp
  have g1:∀l∈(bi p p.length).1,∀x∈l, -9223372036854775808<=x/\x<=9223372036854775807:=λl hl x hx=>by have:=a7 l hl x hx;omega
  have g2:∀l∈(bi p p.length).2,∀x∈l, -9223372036854775808<=x/\x<=9223372036854775807:=λl hl x hx=>by have:=a8 l hl x hx;omega
  have t1:=rt g1;have t2:=rt g2;have g3:∀l∈(bi p p.length).1,l.length<=1048576:=λl hl=>by have:=a3 l hl;omega
  have g4:∀l∈(bi p p.length).2,l.length<=1048576:=λl hl=>by have:=a4 l hl;omega
  have c2:=λm:Bool=>iM (m0:=m) p hl hp;rw[Ye,zB0 hp];refine fO au [2] Tryz.func91 ?_;have cE1:=@gv;have cE2:=@iM;have cE3:=@eW;have cE1:=@c2;have cE2:=@eW;have cE3:=trivial;exact dE ai trivial aj;all_goals first|exact g1|exact g2|exact g3|exact g4|trace_state
 .rw[zA9]at hp
  have c2:=λm:Bool=>gv (m0:=m) p hl hp;rw[Ye,hp];refine fO au [2] Tryz.func91 ?_;have cE1:=@gv;have cE2:=@iM;have cE3:=@eW;have cE1:=@c2;have cE2:=@eW;have cE3:=trivial;exact dE ai trivial aj
theorem oG(p:List Int)(hl:p.length<=1048576):Fun Tryz.prog 129 [lI m0 p] [.str (Ye p)]:=by
 by_cases hp:ac p=true
 .obtain⟨a1,a2,a3,a4,a5,a6,a7,a8⟩:=Cp hp
  have g1:∀l∈(bi p p.length).1,∀x∈l, -9223372036854775808<=x/\x<=9223372036854775807:=λl hl x hx=>by have:=a7 l hl x hx;omega
  have g2:∀l∈(bi p p.length).2,∀x∈l, -9223372036854775808<=x/\x<=9223372036854775807:=λl hl x hx=>by have:=a8 l hl x hx;omega
  have t1:=rt g1;have t2:=rt g2;have g3:∀l∈(bi p p.length).1,l.length<=1048576:=λl hl=>by have:=a3 l hl;omega
  have g4:∀l∈(bi p p.length).2,l.length<=1048576:=λl hl=>by have:=a4 l hl;omega
  have c2:=λm:Bool=>iW (m0:=m) p hl hp;rw[Ye,zB0 hp];refine fO au [2] Tryz.func129 ?_;have cE1:=@gz;have cE2:=@iW;have cE3:=@fg;have cE1:=@c2;have cE2:=@fg;have cE3:=trivial;exact dE ai trivial aj;all_goals first|exact g1|exact g2|exact g3|exact g4|trace_state
 .rw[zA9]at hp
  have c2:=λm:Bool=>gz (m0:=m) p hl hp;rw[Ye,hp];refine fO au [2] Tryz.func129 ?_;have cE1:=@gz;have cE2:=@iW;have cE3:=@fg;have cE1:=@c2;have cE2:=@fg;have cE3:=trivial;exact dE ai trivial aj
end Go.Gl

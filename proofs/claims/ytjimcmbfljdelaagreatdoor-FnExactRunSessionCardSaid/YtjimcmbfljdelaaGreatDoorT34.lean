/-
  What the functions compute, and what the law asks of it: texts joined. Conditions: those that each lemma names.
-/
import Derived.Test.YtjimcmbfljdelaaGreatDoorT20
import Derived.Test.YtjimcmbfljdelaaGreatDoorT12
import Derived.Test.YtjimcmbfljdelaaGreatDoorT25
import Derived.Test.YtjimcmbfljdelaaGreatDoorT31
import Derived.Test.YtjimcmbfljdelaaGreatDoorT26
set_option linter.unusedSimpArgs false
set_option linter.unusedVariables false
set_option maxRecDepth 20000
set_option linter.unusedSectionVars false
set_option maxHeartbeats 16000000
variable{b m0 m1:Bool}{p:List Int}
namespace Go.Gl
open Go Go.Proofs
variable [Amb][NoQ]
theorem IA{α:Type}{x y:α}(h:b=false):(if b=true then x else y)=y:=by rw[h];rfl
theorem Iz{α:Type}{x y:α}(h:b=true):(if b=true then x else y)=x:=by rw[h];rfl
theorem oA(h:ac p=true):∀x∈p,0<=x/\x<=8:=λx hx=>by
 have h8:=(fK h).1;have:=(permB_iff.1 (fK h).2).1 x hx;omega
theorem qP(p:List Int)(hl:p.length<=1048576):Fun Tryz.prog 54 [lI m0 p] [oI ((if ac p=true then jM p else[])),.bool (ac p)]:=by
 by_cases hp:ac p=true
 .obtain⟨h8,hq⟩:=fK hp
  rw[Iz hp,hp];refine fO au [2,3] Tryz.func54 ?_;have cE1:=@ae;have cE2:=@bD;exact dE ai @hp aj
 .rw[zA9]at hp
  rw[IA hp,hp];refine fO au [2,3] Tryz.func54 ?_;have cE1:=@ae;have cE2:=@bD;exact dE ai @hp aj
theorem qt(p:List Int)(hl:p.length<=1048576):Fun Tryz.prog 71 [lI m0 p] [oI ((if ac p=true then jM p else[])),.bool (ac p)]:=by
 by_cases hp:ac p=true
 .obtain⟨h8,hq⟩:=fK hp
  rw[Iz hp,hp];refine fO au [2,3] Tryz.func71 ?_;have cE1:=@ah;have cE2:=@bJ;exact dE ai @hp aj
 .rw[zA9]at hp
  rw[IA hp,hp];refine fO au [2,3] Tryz.func71 ?_;have cE1:=@ah;have cE2:=@bJ;exact dE ai @hp aj
theorem qO(p:List Int)(hl:p.length<=1048576):Fun Tryz.prog 55 [lI m0 p] [oI ((if ac p=true then p.reverse else[]))]:=by
 by_cases hp:ac p=true
 .rw[Iz hp]
  refine fO au [2] Tryz.func55 ?_;have cE1:=@ae;have cE2:=@eJ;exact dE ai @hp aj
 .rw[zA9]at hp
  rw[IA hp];refine fO au [2] Tryz.func55 ?_;have cE1:=@ae;have cE2:=@eJ;exact dE ai @hp aj
theorem qs(p:List Int)(hl:p.length<=1048576):Fun Tryz.prog 72 [lI m0 p] [oI ((if ac p=true then p.reverse else[]))]:=by
 by_cases hp:ac p=true
 .rw[Iz hp]
  refine fO au [2] Tryz.func72 ?_;have cE1:=@ah;have cE2:=@aK;exact dE ai @hp aj
 .rw[zA9]at hp
  rw[IA hp];refine fO au [2] Tryz.func72 ?_;have cE1:=@ah;have cE2:=@aK;exact dE ai @hp aj
theorem nS(p:List Int)(hl:p.length<=1048576):Fun Tryz.prog 56 [lI m0 p] [oI ((if ac p=true then dg p else[]))]:=by
 by_cases hp:ac p=true
 .have hb:=oA hp
  have hb2:∀x∈p,0<=x/\x<=1048576:=λx hx=>⟨(hb x hx).1,by have:=(hb x hx).2;omega⟩;rw[Iz hp];refine fO au [2] Tryz.func56 ?_;have cE1:=@ae;have cE2:=@fM;exact dE ai @hp aj
 .rw[zA9]at hp
  rw[IA hp];refine fO au [2] Tryz.func56 ?_;have cE1:=@ae;have cE2:=@fM;exact dE ai @hp aj
theorem nO(p:List Int)(hl:p.length<=1048576):Fun Tryz.prog 73 [lI m0 p] [oI ((if ac p=true then dg p else[]))]:=by
 by_cases hp:ac p=true
 .have hb:=oA hp
  have hb2:∀x∈p,0<=x/\x<=1048576:=λx hx=>⟨(hb x hx).1,by have:=(hb x hx).2;omega⟩;rw[Iz hp];refine fO au [2] Tryz.func73 ?_;have cE1:=@ah;have cE2:=@d9;exact dE ai @hp aj
 .rw[zA9]at hp
  rw[IA hp];refine fO au [2] Tryz.func73 ?_;have cE1:=@ah;have cE2:=@d9;exact dE ai @hp aj
theorem tp(p:List Int)(hl:p.length<=1048576):Fun Tryz.prog 58 [lI m0 p] [oI ((if ac p=true then sE p else[]))]:=by
 by_cases hp:ac p=true
 .obtain⟨h8,hq⟩:=fK hp
  rw[Iz hp];refine fO au [2] Tryz.func58 ?_;have cE1:=@ae;have cE2:=@eG;exact dE ai @hp aj
 .rw[zA9]at hp
  rw[IA hp];refine fO au [2] Tryz.func58 ?_;have cE1:=@ae;have cE2:=@eG;exact dE ai @hp aj
theorem sN(p:List Int)(hl:p.length<=1048576):Fun Tryz.prog 75 [lI m0 p] [oI ((if ac p=true then sE p else[]))]:=by
 by_cases hp:ac p=true
 .obtain⟨h8,hq⟩:=fK hp
  rw[Iz hp];refine fO au [2] Tryz.func75 ?_;have cE1:=@ah;have cE2:=@iI;exact dE ai @hp aj
 .rw[zA9]at hp
  rw[IA hp];refine fO au [2] Tryz.func75 ?_;have cE1:=@ah;have cE2:=@iI;exact dE ai @hp aj
theorem wi(p:List Int)(hl:p.length<=1048576):Fun Tryz.prog 59 [lI m0 p] [oI ((if ac p=true then rN p else[]))]:=by
 by_cases hp:ac p=true
 .obtain⟨h8,hq⟩:=fK hp
  have hn:=(permB_iff.1 hq).2;rw[Iz hp];refine fO au [2] Tryz.func59 ?_;have cE1:=@ae;have cE2:=@fZ;exact dE ai @hp aj
 .rw[zA9]at hp
  rw[IA hp];refine fO au [2] Tryz.func59 ?_;have cE1:=@ae;have cE2:=@fZ;exact dE ai @hp aj
theorem vp(p:List Int)(hl:p.length<=1048576):Fun Tryz.prog 76 [lI m0 p] [oI ((if ac p=true then rN p else[]))]:=by
 by_cases hp:ac p=true
 .obtain⟨h8,hq⟩:=fK hp
  have hn:=(permB_iff.1 hq).2;rw[Iz hp];refine fO au [2] Tryz.func76 ?_;have cE1:=@ah;have cE2:=@iH;exact dE ai @hp aj
 .rw[zA9]at hp
  rw[IA hp];refine fO au [2] Tryz.func76 ?_;have cE1:=@ah;have cE2:=@iH;exact dE ai @hp aj
theorem pK(p:List Int)(n:Int)(hl:p.length<=1048576):Fun Tryz.prog 151 [lI m0 p,.int .i64 n] [oI ((if ac p=true/\1<=n/\n<=p.length then TY p (n-1).toNat else[])),.bool (decide (ac p=true/\1<=n/\n<=p.length))]:=by
 by_cases hc0:ac p=true/\1<=n/\n<=p.length
 .obtain⟨hp,h1,h2⟩:=id hc0
  obtain⟨h8,hq⟩:=fK hp;rw[zB0 hc0,zB6 hc0];obtain⟨k,rfl⟩:∃k:Nat,n=k+1:=⟨(n-1).toNat,by omega⟩;have e1:((k:Int)+1-1)=k:=by omega
  rw[e1,zC9];refine fO au [4,5] Tryz.func151 ?_;have cE1:=@ae;have cE2:=@kU;exact dE ai (aa @hp @e1) aj
 .rw[zA8 hc0,zB8 hc0]
  by_cases hp:ac p=true
  .have h2:¬(1<=n/\n<=p.length):=λh=>hc0 ⟨hp,h⟩
   refine fO au [4,5] Tryz.func151 ?_;have cE1:=@ae;have cE2:=@kU;exact dE ai @hp aj
  .rw[zA9]at hp
   refine fO au [4,5] Tryz.func151 ?_;have cE1:=@ae;have cE2:=@kU;exact dE ai @hp aj
theorem pE(p:List Int)(n:Int)(hl:p.length<=1048576):Fun Tryz.prog 82 [lI m0 p,.int .i64 n] [oI ((if ac p=true/\1<=n/\n<=p.length then TY p (n-1).toNat else[])),.bool (decide (ac p=true/\1<=n/\n<=p.length))]:=by
 by_cases hc0:ac p=true/\1<=n/\n<=p.length
 .obtain⟨hp,h1,h2⟩:=id hc0
  obtain⟨h8,hq⟩:=fK hp;rw[zB0 hc0,zB6 hc0];obtain⟨k,rfl⟩:∃k:Nat,n=k+1:=⟨(n-1).toNat,by omega⟩;have e1:((k:Int)+1-1)=k:=by omega
  rw[e1,zC9];refine fO au [4,5] Tryz.func82 ?_;have cE1:=@aA;have cE2:=@ah;have cE3:=@jl;exact dE ai (aa @hp @e1) aj
 .rw[zA8 hc0,zB8 hc0]
  by_cases hp:ac p=true
  .have h2:¬(1<=n/\n<=p.length):=λh=>hc0 ⟨hp,h⟩
   refine fO au [4,5] Tryz.func82 ?_;have cE1:=@aA;have cE2:=@ah;have cE3:=@jl;exact dE ai @hp aj
  .rw[zA9]at hp
   refine fO au [4,5] Tryz.func82 ?_;have cE1:=@aA;have cE2:=@ah;have cE3:=@jl;exact dE ai @hp aj
theorem si(p:List Int)(n:Int)(hl:p.length<=1048576):Fun Tryz.prog 150 [lI m0 p,.int .i64 n] [oI ((if ac p=true/\0<=n/\n<=7 then jN p n.toNat else[])),.bool (decide (ac p=true/\0<=n/\n<=7))]:=by
 by_cases hc0:ac p=true/\0<=n/\n<=7
 .obtain⟨hp,h1,h2⟩:=id hc0
  obtain⟨h8,hq⟩:=fK hp;rw[zB0 hc0,zB6 hc0];obtain⟨k,rfl⟩:∃k:Nat,n=k:=⟨n.toNat,by omega⟩;rw[zC9];refine fO au [4,5] Tryz.func150 ?_;have cE1:=@ae;have cE2:=@jR;exact dE ai @hp aj
 .rw[zA8 hc0,zB8 hc0]
  by_cases hp:ac p=true
  .have h2:¬(0<=n/\n<=7):=λh=>hc0 ⟨hp,h⟩
   refine fO au [4,5] Tryz.func150 ?_;have cE1:=@ae;have cE2:=@jR;exact dE ai @hp aj
  .rw[zA9]at hp
   refine fO au [4,5] Tryz.func150 ?_;have cE1:=@ae;have cE2:=@jR;exact dE ai @hp aj
theorem rB(p:List Int)(n:Int)(hl:p.length<=1048576):Fun Tryz.prog 81 [lI m0 p,.int .i64 n] [oI ((if ac p=true/\0<=n/\n<=7 then jN p n.toNat else[])),.bool (decide (ac p=true/\0<=n/\n<=7))]:=by
 by_cases hc0:ac p=true/\0<=n/\n<=7
 .obtain⟨hp,h1,h2⟩:=id hc0
  obtain⟨h8,hq⟩:=fK hp;rw[zB0 hc0,zB6 hc0];obtain⟨k,rfl⟩:∃k:Nat,n=k:=⟨n.toNat,by omega⟩;rw[zC9];refine fO au [4,5] Tryz.func81 ?_;have cE1:=@aA;have cE2:=@ah;have cE3:=@iF;exact dE ai @hp aj
 .rw[zA8 hc0,zB8 hc0]
  by_cases hp:ac p=true
  .have h2:¬(0<=n/\n<=7):=λh=>hc0 ⟨hp,h⟩
   refine fO au [4,5] Tryz.func81 ?_;have cE1:=@aA;have cE2:=@ah;have cE3:=@iF;exact dE ai @hp aj
  .rw[zA9]at hp
   refine fO au [4,5] Tryz.func81 ?_;have cE1:=@aA;have cE2:=@ah;have cE3:=@iF;exact dE ai @hp aj
def fR(p q:List Int):Bool:=ac p&&ac q&&decide (p.length+q.length<=8)
theorem oF(p q:List Int)(k:Bool)(hl:p.length<=1048576)(hm:q.length<=1048576):Fun Tryz.prog 125 [lI m0 p,lI m1 q,.bool k] [oI ((if fR p q=true then mQ p q k else[])),.bool (fR p q)]:=by
 by_cases hc0:fR p q=true
 .obtain⟨⟨h1,h2⟩,h3⟩:(ac p=true/\ac q=true)/\p.length+q.length<=8:=by simpa[fR,and_assoc]using hc0
  rw[Iz hc0,hc0];have b1:∀x∈p, -1000000<=x/\x<=1000000:=λx hx=>by have:=oA h1 x hx;omega
  have b2:∀x∈q, -1000000<=x/\x<=1000000:=λx hx=>by have:=oA h2 x hx;omega
  have hs:=Bd (a:=p) (b:=q) (k:=k);refine fO au [6,7] Tryz.func125 ?_;have cE1:=@ae;have cE2:=@kW;exact dE ai (aa @h1 @h2) aj
 .rw[zA9]at hc0
  rw[IA hc0,hc0];by_cases h1:ac p=true
  .by_cases h2:ac q=true
   .have h3:¬p.length+q.length<=8:=λh=>by rw[fR,h1,h2,zB6 h]at hc0;cases hc0
    refine fO au [6,7] Tryz.func125 ?_;have cE1:=@ae;have cE2:=@kW;exact dE ai (aa @h1 @h2) aj
   .rw[zA9]at h2
    refine fO au [6,7] Tryz.func125 ?_;have cE1:=@ae;have cE2:=@kW;exact dE ai (aa @h1 @h2) aj
  .rw[zA9]at h1
   refine fO au [6,7] Tryz.func125 ?_;have cE1:=@ae;have cE2:=@kW;exact dE ai @h1 aj
theorem Al(p q:List Int)(hl:p.length<=1048576)(hm:q.length<=1048576):Fun Tryz.prog 61 [lI m0 p,lI m1 q] [oI ((if fR p q=true then mQ p q false else[])),.bool (fR p q)]:=by
 refine fO au [4,5] Tryz.func61 ?_;have cE1:=@oF;exact dE ai trivial aj
theorem tq(p q:List Int)(hl:p.length<=1048576)(hm:q.length<=1048576):Fun Tryz.prog 62 [lI m0 p,lI m1 q] [oI ((if fR p q=true then mQ p q true else[])),.bool (fR p q)]:=by
 refine fO au [4,5] Tryz.func62 ?_;have cE1:=@oF;exact dE ai trivial aj
theorem zd(p q:List Int)(hl:p.length<=1048576)(hm:q.length<=1048576):Fun Tryz.prog 78 [lI m0 p,lI m1 q] [oI ((if fR p q=true then mQ p q false else[])),.bool (fR p q)]:=by
 by_cases hc0:fR p q=true
 .have h4:(ac p&&ac q&&decide (p.length+q.length<=8))=true:=hc0
  obtain⟨⟨h1,h2⟩,h3⟩:(ac p=true/\ac q=true)/\p.length+q.length<=8:=by simpa[fR,and_assoc]using hc0
  have b1:∀x∈p, -1000000<=x/\x<=1000000:=λx hx=>by have:=oA h1 x hx;omega
  have b2:∀x∈q, -1000000<=x/\x<=1000000:=λx hx=>by have:=oA h2 x hx;omega
  rw[Iz hc0,hc0];refine fO au [4,5] Tryz.func78 ?_;have cE1:=@iE;have cE2:=@gC;exact dE ai @h4 aj
 .rw[zA9]at hc0
  have h4:(ac p&&ac q&&decide (p.length+q.length<=8))=false:=hc0;rw[IA hc0,hc0];refine fO au [4,5] Tryz.func78 ?_;have cE1:=@iE;have cE2:=@gC;exact dE ai @h4 aj
theorem sO(p q:List Int)(hl:p.length<=1048576)(hm:q.length<=1048576):Fun Tryz.prog 79 [lI m0 p,lI m1 q] [oI ((if fR p q=true then mQ p q true else[])),.bool (fR p q)]:=by
 by_cases hc0:fR p q=true
 .have h4:(ac p&&ac q&&decide (p.length+q.length<=8))=true:=hc0
  obtain⟨⟨h1,h2⟩,h3⟩:(ac p=true/\ac q=true)/\p.length+q.length<=8:=by simpa[fR,and_assoc]using hc0
  have b1:∀x∈p, -1000000<=x/\x<=1000000:=λx hx=>by have:=oA h1 x hx;omega
  have b2:∀x∈q, -1000000<=x/\x<=1000000:=λx hx=>by have:=oA h2 x hx;omega
  rw[Iz hc0,hc0];refine fO au [4,5] Tryz.func79 ?_;have cE1:=@iE;have cE2:=@gC;exact dE ai @h4 aj
 .rw[zA9]at hc0
  have h4:(ac p&&ac q&&decide (p.length+q.length<=8))=false:=hc0;rw[IA hc0,hc0];refine fO au [4,5] Tryz.func79 ?_;have cE1:=@iE;have cE2:=@gC;exact dE ai @h4 aj
end Go.Gl

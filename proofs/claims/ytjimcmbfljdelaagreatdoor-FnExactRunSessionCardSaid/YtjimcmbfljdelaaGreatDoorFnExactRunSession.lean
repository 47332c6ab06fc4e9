/-
  The statement 'Rows.FnExactRunSessionSaid': for every input the law returns true, and each argument reads behind the call as it read before. Conditions: none beyond those that the statement itself names.
-/
import Derived.Test.YtjimcmbfljdelaaGreatDoorRows
import Derived.WalkKit
import Derived.ProofKit
import Derived.OpenShut
import Derived.ShutString
import Derived.ChangeOld
import Derived.Below
import Derived.Test.YtjimcmbfljdelaaGreatDoorCards
import Derived.Test.YtjimcmbfljdelaaGreatDoorTie
import Derived.LaidMore
import Derived.Stop.LaidErr
import Derived.Stop.Joined
import Derived.Lib.LaidTab
import Derived.MakeChecks
import Derived.SevenTiedAt
import Derived.Shelf.Vars
import Derived.Lay
import Derived.Test.YtjimcmbfljdelaaGreatDoorGlC
import Derived.Test.YtjimcmbfljdelaaGreatDoorT15
import Derived.Test.YtjimcmbfljdelaaGreatDoorT38
namespace Go.Proofs.YtjimcmbfljdelaaGreatDoor.fnExactRunSession
open Go.ChangeShapes Go.WideShapes Go.ChangeAt Go.RowKit
open Go.ChangeMaps (open_string shut_string)
set_option linter.unusedVariables false
attribute [local instance] Go.Gl.agX
theorem own:ownKnob Tryz.prog.godebug=none:=by kernel_rfl
theorem laidOut:laidOutB Tryz.prog=true:=by kernel_rfl
theorem gname:Tryz.prog.globalNamed "internal/strconv.uint64pow10" =some 3:=by kernel_rfl
theorem gtype:(Tryz.prog.globals[3]?).map (·.type)=some 221:=by kernel_rfl
theorem tabE:(Rows.laid_internal_strconv_uint64pow10:DataW Unit)=Go.Lib.tabData .u64 Go.Lib.pow10Tab:=by kernel_rfl
theorem of_laid {W:World} (h:laidMetH Tryz.prog Rows.fnExactRunSessionRow.laid W):Go.Lib.TabIs Tryz.prog W "internal/strconv.uint64pow10" .u64 Go.Lib.pow10Tab:=by
  rw[MakeChecks.laidMetH_plain _ _ _ (by kernel_rfl)]at h
  have h2:laidMet Tryz.prog [("math/bits.deBruijn32tab",Rows.laid_math_bits_deBruijn32tab),("math/bits.deBruijn64tab",Rows.laid_math_bits_deBruijn64tab),("internal/strconv.uint64pow10",Rows.laid_internal_strconv_uint64pow10),("unicode/utf8.acceptRanges",Rows.laid_unicode_utf8_acceptRanges),("strconv.ErrRange",Rows.laid_strconv_ErrRange),("strconv.ErrSyntax",Rows.laid_strconv_ErrSyntax),("unicode/utf8.first",Rows.laid_unicode_utf8_first)] W:=h
  rw[tabE]at h2
  exact Go.Lib.tabIs_of_head gname gtype Tryz.underlying221 Tryz.underlying201 (by kernel_rfl) (by kernel_rfl) h2.tail.tail
theorem errS:Tryz.prog.globalNamed "strconv.ErrSyntax" =some 4:=by kernel_rfl
theorem errR:Tryz.prog.globalNamed "strconv.ErrRange" =some 5:=by kernel_rfl
theorem errSt:(Tryz.prog.globals[4]?).map (·.type)=some 73:=by kernel_rfl
theorem errRt:(Tryz.prog.globals[5]?).map (·.type)=some 73:=by kernel_rfl
theorem star: "*" ++ "errors.errorString" = "*errors.errorString" :=by decide
theorem rowE (u:TypeId) (h:Tryz.prog.typeName? 3 u=some "*errors.errorString"):u=236:=
  typeName_ptr_named (nm:= "errors.errorString") (by rw[star];kernel_rfl) (by kernel_rfl) (by decide) u (by rw[star];exact h)
theorem of_laidE {W:World} (h:laidMetH Tryz.prog Rows.fnExactRunSessionRow.laid W):(∃t p,W.cell? ⟨4,0,none⟩=some (.iface t p))∧∃t p,W.cell? ⟨5,0,none⟩=some (.iface t p):=by
  rw[MakeChecks.laidMetH_plain _ _ _ (by kernel_rfl)]at h
  have h2:laidMet Tryz.prog [("math/bits.deBruijn32tab",Rows.laid_math_bits_deBruijn32tab),("math/bits.deBruijn64tab",Rows.laid_math_bits_deBruijn64tab),("internal/strconv.uint64pow10",Rows.laid_internal_strconv_uint64pow10),("unicode/utf8.acceptRanges",Rows.laid_unicode_utf8_acceptRanges),("strconv.ErrRange",Rows.laid_strconv_ErrRange),("strconv.ErrSyntax",Rows.laid_strconv_ErrSyntax),("unicode/utf8.first",Rows.laid_unicode_utf8_first)] W:=h
  obtain⟨a0,_,v0,_⟩:=laid_sentinel h2.tail.tail.tail.tail.tail errS errSt Tryz.underlying73 rowE Tryz.underlying236 Tryz.underlying238 rfl rfl Tryz.underlying9 (by kernel_rfl) (by kernel_rfl)
  obtain⟨a1,_,v1,_⟩:=laid_sentinel h2.tail.tail.tail.tail errR errRt Tryz.underlying73 rowE Tryz.underlying236 Tryz.underlying238 rfl rfl Tryz.underlying9 (by kernel_rfl) (by kernel_rfl)
  exact⟨⟨_,_,by simpa using World.var?_cell errS v0 0⟩,_,_,by simpa using World.var?_cell errR v1 0⟩
theorem noGo:(Tryz.prog.funcs.toList.all fun f=> !f.goes)=true:=by kernel_rfl
theorem goesNo {P:Program} (h:(P.funcs.toList.all fun f=> !f.goes)=true) (c:OpenClaim) (hc:c.start=.entering):false=c.goesBy P:=by
  have hf:∀f∈P.funcs.toList,f.goes=false:=fun f hf=>by simpa using List.all_eq_true.1 h f hf
  have hx:∀x:FuncId,(P.funcs[x]?).any Func.goes=false:=fun x=>by
    cases e:P.funcs[x]? with
    |none=>rfl
    |some f=>exact hf f (Array.mem_toList_iff.2 (Array.mem_of_getElem? e))
  have h2:P.funcs.any Func.goes=false:=by
    rw[←Array.any_toList,List.any_eq_false];intro f q;simp[hf f q]
  have hg:∀g,P.goes g=false:=fun g=>by
    unfold Program.goes
    rw[h2];simp[hx]
  unfold OpenClaim.goesBy Program.goesAt Program.goesFrom
  rw[hc]
  cases P.funcNamed c.func<;>simp[hg]
theorem walk (a0:ByteArray) (w:World) (w0:a0.size≤maxLen) (htab:Go.Lib.TabIs Tryz.prog w "internal/strconv.uint64pow10" .u64 Go.Lib.pow10Tab) (hspl:∃m:Int,w.cell? ⟨0,0,none⟩=some (.int .i64 m)) (hat:(∃t p,w.cell? ⟨4,0,none⟩=some (.iface t p))∧∃t p,w.cell? ⟨5,0,none⟩=some (.iface t p)):
    Calls Tryz.prog 3 #[.string a0] w fun e w'=>e=.returned (.bool true)∧Below w.heap.size w w':=
  letI:Go.Gl.Amb:=Go.Gl.lQ w 0 3 4 5
  haveI:Go.Gl.NoQ:=⟨rfl⟩
  haveI:Go.Gl.TabA:=Go.Gl.Vl gname htab
  haveI:Go.Gl.SplA:=Go.Gl.Vm hspl
  haveI:Go.Gl.AtoA:=Go.Gl.Vn hat
  Go.Gl.Fun.calls1 (Go.Gl.xz a0.data.toList) w (fun B o h=>Go.Gl.ZJ h) (Go.Gl.jB (Go.Gl.agV _) Go.Gl.lD)
set_option maxRecDepth 100000 in
theorem lifted (os:Os) (started:os.Started) (H:Type) (enc:TypeId×Value→H):
    ReturnsInHanded {} Tryz.checked os 3 .any (fun w args=>(Rows.fnExactRunSessionSpec.pre enc Tryz.prog Tryz.f3 [] false w args∧laidMetH Tryz.prog Rows.fnExactRunSessionRow.laid w)∧sizedMet enc Tryz.prog Tryz.f3 (OpenSpec.ofChange Rows.fnExactRunSessionSpec) false w args) (Rows.fnExactRunSessionSpec.post enc Tryz.prog Tryz.f3 false true false false):=by
  refine returnsInHanded_of_calls (C:=Tryz.checked) own started (by kernel_rfl)
    (ChangeSpec.witness_shaped (enc:=enc) (C:=Tryz.checked) (os:=os) (X:=fun w _=>laidMetH Tryz.prog Rows.fnExactRunSessionRow.laid w) false (World.laidAll Tryz.prog os Rows.fnExactRunSessionRow.laid) #[.string ⟨#[]⟩] 8 (World.laidAll_os _ _ _)
      (World.shaped_of_ZipB (by kernel_rfl) (by kernel_rfl)) (by kernel_rfl) (by kernel_rfl) (by kernel_rfl)
      (by rw[MakeChecks.laidMetH_plain _ _ _ (by kernel_rfl)];exact laidMet_laidAll _ (by kernel_rfl) (by kernel_rfl))) ?_
  intro w0 tape i0 _ hsh _ hok hpre _
  obtain⟨_,_,_,fn',hfn',_,_,_,_,hval0⟩:=hok
  obtain rfl:fn'=Tryz.f3:=Option.some.inj (hfn'.symm.trans Tryz.func3)
  obtain⟨⟨⟨ds,gs,before,hW0,hcnd⟩,hL0⟩,_⟩:=hpre
  have hL:=laidMetH.of_heap (w':=w0.forCall tape i0) (by rfl) hL0
  clear hL0
  have hW:=DataW.Whole.of_heap (w':=w0.forCall tape i0) (by rfl) hW0
  have hcell:∃m,(w0.forCall tape i0).cell? ⟨0,0,none⟩=some (.int .i64 m):=
    Go.Proofs.cell_of_shapedOpen_int (P:=Tryz.prog) (g:=0) (t:=3) (zero:= #[.int .i64 0]) hsh (of_decide_eq_true (by kernel_rfl)) (by kernel_rfl) rfl (by kernel_rfl) (by kernel_rfl) Tryz.underlying3
  clear hW0 hsh hfn'
  generalize w0.forCall tape i0=W at*
  generalize i0.args=args at*
  generalize w0.heap.size=base at*
  have hval:∀(j:Nat) t v,Tryz.f3.params[j]? =some t→args[j]? =some v→Value.okWide Tryz.prog W .any base t v:=hval0
  have hW':=hW
  obtain⟨p,q,hA0,hV,rfl,hfz,hnd⟩:=hW
  have hA:DataW.TrodAll enc Tryz.prog W 0 (fun _=>true) true Tryz.f3.params.toList args.toList ds p:=hA0
  rw[Tryz.params3]at hA hval
  obtain⟨v0,vs0,d0,ds0,p0,q0,hargs,rfl,rfl,h0,r0⟩:=trodAll_cons hA
  obtain⟨rfl,rfl,rfl⟩:=trodAll_nil r0
  obtain rfl:args= #[v0]:=by cases args;simp_all
  obtain⟨rfl,rfl⟩:=trodVars_none hV
  obtain⟨a0,rfl,rfl,rfl,w0⟩:=open_string Tryz.underlying9 (hval 0 9 v0 rfl rfl) h0
  clear hA0 hval0
  refine(walk a0 W w0 (of_laid hL) hcell (of_laidE hL)).mono fun e W' ⟨he,bel⟩=> ?_
  subst he
  exact ChangeSpec.post_blind (show Rows.fnExactRunSessionSpec.post enc Tryz.prog Tryz.f3 false true false false W _ _ W' from⟨_,_,_,[],_,[],hW',trodAll_mk1 (shut_bool Tryz.underlying4 _),(trodAll_cons_mk (shut_string Tryz.underlying9 w0) trodAll_mk0),rfl,bel.frame _,fun h=>by cases h⟩)
def clo:List FuncId:=[3,4,9,10,16,31,32,35,39,84,85,41,86,87,167,275,11,17,33,18,34,71,155,72,156,73,157,74,94,176,206,158,273,283,75,159,76,160,77,161,78,162,163,79,36,80,40,37,81,164,82,165,274,83,166,19,38,20,22,21,23,42,88,89,177,278,281,287,340,376,341,342,377,168,98,190,169,170,171,172,276,173,174,277,282,175,90,179,279,178,180,280,343,378,181,182,284,97,198,183,184,185,186,187,91,188,285,344,189,92,106,208,290,191,286,345,346,379,347,192,209,291,348,193,288,194,195,93,196,95,197,96,99,199,100,200,101,102,201,289,202,43,103,203,204,104,205,207,105,107,210,5,12,24,44,108,211,212,292,109,213,110,214,293,349,294,295,296,350,13,25,45,27,48,112,215,49,113,217,297,218,216,114,63,14,28,50,115,219,116,220,51,52,26,47,111,46,29,54,117,53,55,118,221,56,119,57,120,222,223,121,224,298,299,58,122,59,123,225,60,124,61,125,226,301,300,351,62,64,126,127,236,307,312,353,354,355,380,381,334,227,303,302,138,66,144,262,333,363,364,384,383,385,365,366,386,387,401,402,228,304,229,230,231,305,352,232,233,306,325,359,382,234,235,128,237,308,356,238,310,309,357,311,239,313,314,316,240,315,241,242,243,244,245,129,246,317,265,247,130,153,270,271,338,261,332,256,331,248,318,319,320,321,358,322,323,249,250,324,254,330,251,252,326,132,253,327,360,361,328,362,329,131,133,134,135,255,137,136,139,257,258,269,337,372,373,391,140,259,141,30,65,142,260,143,145,67,146,263,264,148,147,68,69,149,266,335,367,388,403,404,336,368,389,369,370,390,371,70,150,267,151,268,152,154,272,339,375,400,374,392,393,405,394,406,407,395,408,409,410,396,397,398,399,6,7,15,8]
theorem cloE:Tryz.prog.closure 3=clo:=by kernel_rfl
theorem k10:(Rows.fnExactRunSessionRow.inPlace==Tryz.prog.inPlace 3)=true:=by
  rw[show Tryz.prog.inPlace 3=Tryz.prog.inPlaceOf clo by unfold Program.inPlace Program.inPlaceOf;rw[cloE]];kernel_rfl
theorem unf:Tryz.prog.unfollowed 3=true:=by unfold Program.unfollowed;rw[cloE];kernel_rfl
theorem k11:(Rows.fnExactRunSessionRow.unfollowed==Tryz.prog.unfollowed 3)=true:=by rw[unf];rfl
theorem k12:(Rows.fnExactRunSessionRow.recurses==Tryz.prog.recurses 3)=true:=by unfold Program.recurses;rw[unf,Bool.true_or];rfl
theorem k13:(Rows.fnExactRunSessionRow.named==Tryz.prog.varsNamed 3)=true:=by
  rw[show Tryz.prog.varsNamed 3=Tryz.prog.varsOf clo by unfold Program.varsNamed Program.varsOf;rw[cloE]];kernel_rfl
theorem closed:joinedFacts Tryz.prog 3 Tryz.f3 Rows.fnExactRunSessionSpec Rows.fnExactRunSessionRow=true:=by
  unfold joinedFacts;rw[k10,k11,k12,k13];kernel_rfl
theorem over:Rows.fnExactRunSessionRow.holds Tryz.pinned (OpenSpec.ofChange Rows.fnExactRunSessionSpec):=
  OpenClaim.holds_of_wide 3 Tryz.f3 rfl rfl rfl rfl rfl rfl rfl ⟨rfl,rfl,rfl,rfl,rfl⟩ rfl rfl rfl rfl rfl (by kernel_rfl) Tryz.func3 closed
    (of_decide_eq_true (by kernel_rfl)) (by unfold Func.isWrapper;first|(rw[if_pos (by decide+kernel)];kernel_rfl)|(rw[if_neg (by decide+kernel)];exact⟨rfl,rfl⟩))
    (fun os started H enc _=>lifted os started H enc)
theorem card:Rows.FnExactRunSessionCardSaid:=
  Claim7.holds_tied_plain_at .later [] [.data,.data,.data,.data,.sentinel,.sentinel,.pinned] true (true, "a5936bf38c18a0ae15d609678b706e892bcef37ccb702485107838bd3cf6f85d") true
    over (fun _ h=>by cases h) (by kernel_rfl) (fun _ h=>by cases h) fnExactRunSession_row_tie rfl ⟨rfl,rfl⟩ (by kernel_rfl) rfl
    (fun f fn hf hfn=>by
      obtain rfl:f=3:=Option.some.inj ((show Tryz.prog.funcNamed "loop.example/g03101/laws.FnExactRunSession" =some 3 by kernel_rfl).symm.trans hf) |>.symm
      obtain rfl:fn=Tryz.f3:=(Option.some.inj (Tryz.func3.symm.trans hfn)).symm
      exact⟨by kernel_rfl,fun j t ht=>by
        rw[Tryz.params3]at ht
        have hm:t∈[9]:=by simpa using Array.mem_of_getElem? ht
        have hall:([9].all fun u=> !Tryz.prog.wantsStandIn u)=true:=by kernel_rfl
        exact(show Tryz.prog.wantsStandIn t=false by simpa using List.all_eq_true.1 hall t hm)⟩)
    (goesNo noGo _ rfl)
theorem proved:Rows.FnExactRunSessionCardSaid:=card
#print axioms proved
end Go.Proofs.YtjimcmbfljdelaaGreatDoor.fnExactRunSession

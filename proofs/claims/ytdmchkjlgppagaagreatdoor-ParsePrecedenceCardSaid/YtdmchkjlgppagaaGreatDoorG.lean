/- ParsePrecedence's tied card is proved: for all texts p and q the given law returns true. There are no conditions beyond those of the given statement. -/
import Derived.Test.YtdmchkjlgppagaaGreatDoorMF
import Derived.Test.YtdmchkjlgppagaaGreatDoorTie
import Derived.Test.YtdmchkjlgppagaaGreatDoorCards
import Derived.ProofKit
import Derived.OpenShut
import Derived.LaidMore
import Derived.Lay
import Derived.SevenTiedAt
import Derived.Stop.Joined
import Derived.Test.YtdmchkjlgppagaaGreatDoorFD
namespace Go.Proofs.YtdmchkjlgppagaaGreatDoor
open Go.ChangeShapes Go.WideShapes Go.ChangeAt Go.RowKit Go.ChangeMaps
theorem own:ownKnob Tryz.prog.godebug=none:=by kernel_rfl
theorem mixed:Tryz.prog.follows .mixedOrders=true:=by kernel_rfl
def lB:List Int:=(List.range 256).map fun i=>bif i==9 || i==10 || i==11 || i==12 || i==13 || i==32 then 1 else 0
def Vn:List Ez.AV:=lB.map fun z=>.int .u8 z
def gl (g:Nat):Option (List Ez.AV):=bif g==1 then some Vn else none
theorem Px {W:World}(h:laidMetH Tryz.prog Rows.parsePrecedenceRow.laid W)(r:Nat)(hr:r<256):W.cell? ⟨1,r,none⟩=some (.int .u8 (lB.getD r 0)):=by
 rw[MakeChecks.laidMetH_plain _ _ _ (by kernel_rfl)]at h;obtain⟨ps,⟨_,_,_,_,_,_,_,_,_,_,⟨_,_,_,_,_,_,_,_,_,_,⟨g,t,cs,fuel,p,q,hg,ht,hv,hd,_,_⟩,_⟩,_⟩,_,_⟩:=h
 obtain rfl := Option.some.inj ((show Tryz.prog.globalNamed "strings.asciiSpace" = some 1 by kernel_rfl).symm.trans hg)
 obtain rfl:=Option.some.inj ((show (Tryz.prog.globals[1]?).map (·.type)=some 232 by kernel_rfl).symm.trans ht);obtain⟨xs,m,_,ex,_,hl,hel⟩:=DataW.trod_array Tryz.underlying232 hd;have c5:Tryz.prog.cellsOf 5=1:=(by kernel_rfl);have hE:=hel r hr;rw[c5,Nat.mul_one,List.getElem?_eq_getElem (by omega)]at hE;obtain⟨z,e1,e2,_⟩:=DataW.trod_int Tryz.underlying5 hE;have hlen:lB.length=256:=(by kernel_rfl);have hdat:(Rows.laid_strings_asciiSpace:DataW Unit)=.agg (lB.map fun n=>.lit (.int .u8 n)):=(by kernel_rfl);have e3:(xs.map (·.1))=lB.map fun n=>.lit (.int .u8 n):=by
  have h1:=(Prod.mk.inj ex).1;rw[hdat]at h1;exact(DataW.agg.inj h1).symm
 have e4:(xs.map (·.1))[r]?=(lB.map fun n=>(DataW.lit (.int .u8 n):DataW Unit))[r]?:=(by rw[e3]);rw[List.getElem?_map,List.getElem?_map,List.getElem?_eq_getElem (by omega:r<xs.length),List.getElem?_eq_getElem (by omega:r<lB.length),e2]at e4;have hz:z=lB.getD r 0:=by
  simp only[Option.map_some,Option.some.injEq,DataW.lit.injEq,Lit.int.injEq,true_and]at e4;rw[e4,List.getD,List.getElem?_eq_getElem (by omega:r<lB.length)];rfl
 rw[World.var?_cell hg hv r,← hz];have:cs.toList[r]?=some (.int .u8 z):=by
  have h0:((cs.toList.drop r).take 1)[0]?=some (.int .u8 z):=(by rw[e1];rfl);simpa using h0
 simpa using this
theorem WW {W:World}(h:laidMetH Tryz.prog Rows.parsePrecedenceRow.laid W):Ez.Pg (Ez.bare fun b i=>if b=1 then W.cell? ⟨1,i,none⟩ else none) gl:=by
 intro g cs hg j x hx;unfold gl at hg;cases hb:(g==1) with
 |false=>rw[hb]at hg;cases hg
 |true=>
  rw[hb]at hg;have hg1:g=1:=(by simpa using hb);subst hg1;simp only[cond_true,Option.some.injEq]at hg;subst hg;unfold Vn at hx;rw[List.getElem?_map]at hx;cases hz:lB[j]? with
  |none=>rw[hz]at hx;cases hx
  |some z=>
   rw[hz]at hx;simp only[Option.map_some,Option.some.injEq]at hx;subst hx;have hj:j<256:=by
    have:=(List.getElem?_eq_some_iff.1 hz).1;have hl:lB.length=256:=(by kernel_rfl);omega
   refine⟨_,by simp only[Ez.bare,if_true];exact Px h j hj,?_⟩;simp only[Ez.aF,List.getD,hz,Option.getD_some]
theorem Hn:Ez.mR gl:=by
 intro g cs hg x hx;unfold gl at hg;cases hb:(g==1) with
 |false=>rw[hb]at hg;cases hg
 |true=>
  rw[hb]at hg;simp only[cond_true,Option.some.injEq]at hg;subst hg;unfold Vn at hx;obtain⟨z,_,rfl⟩:=List.mem_map.1 hx
  rfl
theorem Lc:gl 1=some Pa.dL:=by
 show some Vn=some Pa.dL
 congr 1
theorem WU (p q:List UInt8):∃ Gm Kp fuel out,Ez.CU Tryz.prog gl Gm∧Ez.fT Tryz.prog gl Gm Kp fuel 3 [.str p,.str q] 0 []=some out∧out.val=.returned (.bool true):=
 Pa.AJ Hn Lc (Pa.qA9 Hn Lc) p q
set_option maxRecDepth 100000 in
theorem lifted (os:Os)(started:os.Started)(H:Type)(enc:TypeId×Value→H) :
  ReturnsInHanded {} Tryz.checked os 3 .any (fun w args=>(Rows.parsePrecedenceSpec.pre enc Tryz.prog Tryz.f3 Rows.parsePrecedenceRow.domain false w args∧laidMetH Tryz.prog Rows.parsePrecedenceRow.laid w)∧sizedMet enc Tryz.prog Tryz.f3 (OpenSpec.ofChange Rows.parsePrecedenceSpec) false w args)
   (Rows.parsePrecedenceSpec.post enc Tryz.prog Tryz.f3 false true false false):=by
 refine returnsInHanded_of_change_and (C:=Tryz.checked) (X:=fun w _=>laidMetH Tryz.prog Rows.parsePrecedenceRow.laid w) (fun _ _ _ hh h=>h.of_heap hh) own started (by kernel_rfl) Tryz.func3
  (ChangeSpec.witness_shaped (enc:=enc) (C:=Tryz.checked) (os:=os) (X:=fun w _=>laidMetH Tryz.prog Rows.parsePrecedenceRow.laid w) false (World.laidAll Tryz.prog os Rows.parsePrecedenceRow.laid) #[.string ⟨#[]⟩,.string ⟨#[]⟩] 8 (World.laidAll_os _ _ _)
   (World.shaped_of_ZipB (by kernel_rfl) (by kernel_rfl)) (by kernel_rfl) (by kernel_rfl) (by kernel_rfl)
   (by rw[MakeChecks.laidMetH_plain _ _ _ (by kernel_rfl)];exact laidMet_laidAll _ (by kernel_rfl) (by kernel_rfl))) ?_
 intro W base args ds gs before hval0 hW hc _ hL _;have hval:∀(j:Nat) t v,Tryz.f3.params[j]?=some t→args[j]?=some v→Value.okWide Tryz.prog W .any base t v:=hval0;have hW':=hW;obtain⟨p,q,hA0,hV,rfl,hfz,hnd⟩:=hW;have hA:DataW.TrodAll enc Tryz.prog W 0 (fun _=>true) true Tryz.f3.params.toList args.toList ds p:=hA0;rw[Tryz.params3]at hA hval;obtain⟨v0,v1,d0,d1,p0,p1,rfl,rfl,rfl,h0,h1⟩:=trodAll_two hA;obtain⟨rfl,rfl⟩:=trodVars_none hV;obtain⟨a,rfl,rfl,rfl,wa⟩:=open_string Tryz.underlying9 (hval 0 9 v0 rfl rfl) h0;obtain⟨b,rfl,rfl,rfl,wb⟩:=open_string Tryz.underlying9 (hval 1 9 v1 rfl rfl) h1;simp only[List.append_nil]at hW';obtain⟨Gm,Kp,fuel,out,hGm,he,hv⟩:=WU a.data.toList b.data.toList;have hcall:=Ez.OP mixed Hn hGm (W:=W) (cargs:=#[.string a,.string b]) (fun bb i v hs=>by
   by_cases e:bb=1
   ·subst e;simpa using hs
   ·simp[e]at hs) (WW hL) he (by
    refine Ez.aI.cons ?_ (Ez.aI.cons ?_ Ez.aI.nil)
    ·simp only[Ez.aF]
    ·simp only[Ez.aF])
 refine hcall.mono fun e W' ⟨G',hr,hk⟩=>?_;rw[hv]at hr;obtain⟨v',rfl,hr⟩:=hr;simp only[Ez.aF]at hr;subst hr;refine⟨_,rfl,_,_,_,[],[],[],hW',?_,?_,?_,hk _,fun h=>by cases h⟩
 ·exact trodAll_mk1 (shut_bool Tryz.underlying4 true)
 ·exact trodAll_mk2 (shut_string Tryz.underlying9 wa) (shut_string Tryz.underlying9 wb)
 ·rfl
theorem holds:Rows.ParsePrecedenceSaid:=NK fun os started H enc=>lifted os started H enc
theorem card_holds:Rows.ParsePrecedenceCardSaid:=KC holds
end Go.Proofs.YtdmchkjlgppagaaGreatDoor

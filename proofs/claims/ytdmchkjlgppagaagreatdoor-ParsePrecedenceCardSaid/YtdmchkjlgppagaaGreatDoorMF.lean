/- Part 6 of a proof of ParsePrecedence (for all texts p, q): the law holds. -/
import Derived.Test.YtdmchkjlgppagaaGreatDoorME
import Derived.Maps.RangeRun
set_option linter.all false
set_option maxRecDepth 100000
set_option maxHeartbeats 8000000
namespace Go.Proofs.Pa
open Go.Ez Go.Proofs.Vt
section
variable {Gl:qC6}{Gm:qC7}{Kp:qC8}(S:Seat Gm Kp)
def bV : List (oQ × List (List UInt8)) :=
  [(⟨1, 1, false, false⟩, [[61, 62]]),
   (⟨2, 2, false, false⟩, [[60, 61, 62], [126, 62]]),
   (⟨3, 3, true, false⟩, [[47, 92], [92, 47]]),
   (⟨5, 5, false, false⟩, [[61], [35], [60], [62], [60, 61], [62, 61], [92, 105, 110], [92, 110, 111, 116, 105, 110], [92, 115, 117, 98, 115, 101, 116, 101, 113], [92, 115, 117, 112, 115, 101, 116, 101, 113]]),
   (⟨5, 5, false, true⟩, [[92, 115, 113, 115, 117, 98, 115, 101, 116, 101, 113], [92, 112, 114, 101, 99], [92, 115, 117, 99, 99], [92, 115, 105, 109]]),
   (⟨5, 14, true, false⟩, [[92, 99, 100, 111, 116]]),
   (⟨6, 6, true, false⟩, [[64, 64]]),
   (⟨7, 7, false, false⟩, [[58, 62]]),
   (⟨8, 8, true, false⟩, [[92, 99, 117, 112], [92, 99, 97, 112]]),
   (⟨8, 8, false, false⟩, [[92]]),
   (⟨9, 9, false, false⟩, [[46, 46]]),
   (⟨9, 9, false, true⟩, [[46, 46, 46]]),
   (⟨9, 13, true, true⟩, [[36], [36, 36], [63, 63], [35, 35], [92, 115, 113, 99, 117, 112], [92, 115, 113, 99, 97, 112]]),
   (⟨10, 10, true, false⟩, [[43]]),
   (⟨10, 10, true, true⟩, [[40, 43, 41], [43, 43]]),
   (⟨10, 11, false, false⟩, [[37]]),
   (⟨10, 11, true, true⟩, [[37, 37], [124], [124, 124]]),
   (⟨10, 13, false, false⟩, [[92, 88]]),
   (⟨11, 11, true, false⟩, [[45]]),
   (⟨11, 11, true, true⟩, [[40, 45, 41], [45, 45]]),
   (⟨13, 13, true, false⟩, [[42], [92, 111]]),
   (⟨13, 13, false, false⟩, [[92, 100, 105, 118]]),
   (⟨13, 13, false, true⟩, [[47], [47, 47]]),
   (⟨13, 13, true, true⟩, [[42, 42], [40, 46, 41], [38], [38, 38], [92, 115, 116, 97, 114], [92, 98, 117, 108, 108, 101, 116]]),
   (⟨14, 14, false, false⟩, [[94]]),
   (⟨14, 14, false, true⟩, [[94, 94]])]
def jD:List (List UInt8×oQ):=
 [([126],⟨4,4,false,false⟩),([69,78,65,66,76,69,68],⟨4,15,false,false⟩),([85,78,67,72,65,78,71,69,68],⟨4,15,false,false⟩),([91,93],⟨4,15,false,false⟩),([60,62],⟨4,15,false,false⟩),([83,85,66,83,69,84],⟨8,8,false,false⟩),([85,78,73,79,78],⟨8,8,false,false⟩),([68,79,77,65,73,78],⟨9,9,false,false⟩),([45],⟨12,12,false,false⟩)]
def eQ (k:Nat):List (List UInt8×oQ):=(bV.take k).flatMap fun r=>r.2.map fun s=>(s,r.1)
def aV:List (List UInt8×oQ):=eQ 26
def pO (q:List UInt8×oQ):AV:=.agg [.str q.1,.int .i64 q.2.lo,.int .i64 q.2.hi,.bool q.2.left,.bool q.2.defn]
def eP (b:Nat)(h:Hp)(v:AV)(l:List (List UInt8×oQ)):Prop:=(v=.sl0/\l=[])\/∃ a,v=.sl a 0 l.length/\h.get a=some (.arr 5 (l.map pO))/\b<=a/\l≠[]
include S
theorem fU (hk:Kp 121=(true,false))(o:oQ)(ws:List (List UInt8))(hws:ws.length<1000){b:Nat}{l:List (List UInt8×oQ)}(hll:l.length<1000){acc:AV}{n:Nat}{h:Hp}(hbn:b<=n)(R:eP b h acc l){B:Nat->Prop}(hB:∀ t,b<=t->B t){Q:aS->Nat->Hp->Prop}
  (hQ:∀ acc' n' h',n<=n'->aE n' h'->eP b h' acc' (l++ws.map fun s=>(s,o))->Q (.returned acc') n' h'):aG Tryz.prog Gl Gm Kp 121 [acc,.int .i64 o.lo,.int .i64 o.hi,.bool o.left,.bool o.defn,.vec (ws.map .str) 1 true] n h B Q:=by
 refine aG.mono (B:=fun t=>b<=t) (Q:=fun e n' h'=>∃ acc',e=.returned acc'/\eP b h' acc' (l++ws.map fun s=>(s,o))) ?_ (fun t _ ht=>hB t ht) (fun e n' h' x1 x2 x3 x4=>by
  obtain⟨acc',rfl,r⟩:=x4;exact hQ acc' n' h' x1 x2 r)
 refine aG.code 34 [.tmp 12] Tryz.func121 rfl (S.gm _ dc) hk rfl rfl fun hB _=>?_;have U:(ws.map AV.str).length=ws.length:=List.length_map _;refine zz ?_;refine qCu (fun k E nn hh=>∃(j:Nat) (acc2:AV),E=[(0,acc2),(1,.int .i64 o.lo),(2,.int .i64 o.hi),(3,.bool o.left),(4,.bool o.defn),(5,.vec (ws.map .str) 1 true),(13,.int .i64 j)]/\j+k=ws.length/\n<=nn/\eP b hh acc2 (l++(ws.take j).map fun s=>(s,o))) ws.length ⟨0,acc,rfl,by omega,Nat.le_refl _,by simpa using R⟩ ?_
 .rintro k E nn hh hlk hBk ⟨j,acc2,rfl,hjk,hnn,RA⟩;by_cases hj:j<ws.length
  .have Y:(ws.map AV.str)[j]?=some (.str ws[j]):=(by rw[List.getElem?_map,List.getElem?_eq_getElem hj];rfl);have O:(l++(ws.take (j+1)).map fun s=>(s,o))=(l++(ws.take j).map fun s=>(s,o))++[(ws[j],o)]:=(by rw[List.take_succ_eq_append_getElem hj,List.map_append,List.append_assoc];rfl);have a3:(l++(ws.take j).map fun s=>(s,o)).length<=2000:=(by rw[List.length_append,List.length_map,List.length_take];omega);generalize (l++(ws.take j).map fun s=>(s,o))=l2 at *;rcases RA with⟨rfl,hz⟩ | ⟨a,rfl,hga,hba,hne⟩
   .have M:=aM 1 48 dc dc;refine g4 U Y M @aB ?_;refine aU.mq (k-1) ⟨j+1,.sl nn 0 1,rfl,by omega,by omega,?_⟩;rw[O,hz];exact .inr ⟨nn,rfl,by(refine zz ?_;rfl),by omega,by simp⟩
   .have M:=aM (l2.length+1) 48 om dc;have a2:(l2.map pO).length=l2.length:=List.length_map _;refine u6 U Y M @aB hga a2 ?_;refine aU.mq (k-1) ⟨j+1,.sl nn 0 (l2.length+1),rfl,by omega,by omega,?_⟩;rw[O];exact .inr ⟨nn,by simp,by(simp -dsimp (disch:=first | assumption | omega) only [go_sem,Nat.reduceLT,Nat.reduceBEq,Nat.reduceAdd,Nat.reduceSub,Nat.reduceLeDiff,Nat.reduceEqDiff,↓reduceIte,beq_true,beq_false,decide_eq_true,decide_eq_false,List.map_append];rfl),by omega,by simp⟩
  .have a1:j=ws.length:=om;subst a1;rw[List.take_length]at RA;refine z1 U ?_;rcases RA with⟨rfl,hz⟩ | ⟨a,rfl,hga,hba,hne⟩
   .refine zz ?_;exact qC9<|⟨.sl0,rfl,.inl ⟨rfl,hz⟩⟩
   .refine zz ?_;exact qC9<|⟨_,rfl,.inr ⟨a,rfl,hga,hba,hne⟩⟩
theorem QC:(eQ 26).length=57:=rfl
theorem Rb (hk:Kp 121=(true,false)):cD Gl Gm Kp 71 [] (.vec (aV.map pO) 5 false):=by
 refine cD.fin fun n h _=>qB6 S 79 [.tmp 0] Tryz.func71 fun _ _=>?_;have R0:eP n h .sl0 (eQ 0):=.inl ⟨rfl,rfl⟩;refine zz ?_;refine qCK (fU S hk (bV[0]'dc).1 (bV[0]'dc).2 dc dc om R0 (fun t M=>.inl M) fun bw n1 h1 _ _ b2=>?_);have R1:eP n h1 bw (eQ 1):=b2;clear R0 b2;refine zz ?_;refine qCK (fU S hk (bV[1]'dc).1 (bV[1]'dc).2 dc dc om R1 (fun t M=>.inl M) fun bz n2 h2 _ _ bd=>?_);have R2:eP n h2 bz (eQ 2):=bd;clear R1 bd;refine zz ?_;refine qCK (fU S hk (bV[2]'dc).1 (bV[2]'dc).2 dc dc om R2 (fun t M=>.inl M) fun c5 _ h3 _ _ bl=>?_);have R3:eP n h3 c5 (eQ 3):=bl;clear R2 bl;refine zz ?_;refine qCK (fU S hk (bV[3]'dc).1 (bV[3]'dc).2 dc dc om R3 (fun t M=>.inl M) fun c6 n4 h4 _ _ bm=>?_);have R4:eP n h4 c6 (eQ 4):=bm;clear R3 bm;refine zz ?_;refine qCK (fU S hk (bV[4]'dc).1 (bV[4]'dc).2 dc dc om R4 (fun t M=>.inl M) fun c7 n5 h5 _ _ bp=>?_);have R5:eP n h5 c7 (eQ 5):=bp;clear R4 bp;refine zz ?_;refine qCK (fU S hk (bV[5]'dc).1 (bV[5]'dc).2 dc dc om R5 (fun t M=>.inl M) fun c8 n6 h6 _ _ bq=>?_);have R6:eP n h6 c8 (eQ 6):=bq;clear R5 bq;refine zz ?_;refine qCK (fU S hk (bV[6]'dc).1 (bV[6]'dc).2 dc dc om R6 (fun t M=>.inl M) fun c9 n7 h7 _ _ br=>?_);have R7:eP n h7 c9 (eQ 7):=br;clear R6 br;refine zz ?_;refine qCK (fU S hk (bV[7]'dc).1 (bV[7]'dc).2 dc dc om R7 (fun t M=>.inl M) fun cb n8 h8 _ _ bu=>?_);have R8:eP n h8 cb (eQ 8):=bu;clear R7 bu;refine zz ?_;refine qCK (fU S hk (bV[8]'dc).1 (bV[8]'dc).2 dc dc om R8 (fun t M=>.inl M) fun cc n9 h9 _ _ bv=>?_);have R9:eP n h9 cc (eQ 9):=bv;clear R8 bv;refine zz ?_;refine qCK (fU S hk (bV[9]'dc).1 (bV[9]'dc).2 dc dc om R9 (fun t M=>.inl M) fun ag n10 cf _ _ O=>?_);have b3:eP n cf ag (eQ 10):=O;clear R9 O;refine zz ?_;refine qCK (fU S hk (bV[10]'dc).1 (bV[10]'dc).2 dc dc om b3 (fun t M=>.inl M) fun ah n11 cg _ _ U=>?_);have b4:eP n cg ah (eQ 11):=U;clear b3 U;refine zz ?_;refine qCK (fU S hk (bV[11]'dc).1 (bV[11]'dc).2 dc dc om b4 (fun t M=>.inl M) fun ai n12 ch _ _ Y=>?_);have b5:eP n ch ai (eQ 12):=Y;clear b4 Y;refine zz ?_;refine qCK (fU S hk (bV[12]'dc).1 (bV[12]'dc).2 dc dc om b5 (fun t M=>.inl M) fun aj n13 ci _ _ a1=>?_);have b6:eP n ci aj (eQ 13):=a1;clear b5 a1;refine zz ?_;refine qCK (fU S hk (bV[13]'dc).1 (bV[13]'dc).2 dc dc om b6 (fun t M=>.inl M) fun ak n14 cj _ _ a2=>?_);have b7:eP n cj ak (eQ 14):=a2;clear b6 a2;refine zz ?_;refine qCK (fU S hk (bV[14]'dc).1 (bV[14]'dc).2 dc dc om b7 (fun t M=>.inl M) fun al n15 ck _ _ a3=>?_);have b8:eP n ck al (eQ 15):=a3;clear b7 a3;refine zz ?_;refine qCK (fU S hk (bV[15]'dc).1 (bV[15]'dc).2 dc dc om b8 (fun t M=>.inl M) fun an n16 cn _ _ a4=>?_);have b9:eP n cn an (eQ 16):=a4;clear b8 a4;refine zz ?_;refine qCK (fU S hk (bV[16]'dc).1 (bV[16]'dc).2 dc dc om b9 (fun t M=>.inl M) fun ao n17 co _ _ a5=>?_);have ba:eP n co ao (eQ 17):=a5;clear b9 a5;refine zz ?_;refine qCK (fU S hk (bV[17]'dc).1 (bV[17]'dc).2 dc dc om ba (fun t M=>.inl M) fun ap n18 cp _ _ a6=>?_);have bb:eP n cp ap (eQ 18):=a6;clear ba a6;refine zz ?_;refine qCK (fU S hk (bV[18]'dc).1 (bV[18]'dc).2 dc dc om bb (fun t M=>.inl M) fun ar n19 cq _ _ a7=>?_);have bc:eP n cq ar (eQ 19):=a7;clear bb a7;refine zz ?_;refine qCK (fU S hk (bV[19]'dc).1 (bV[19]'dc).2 dc dc om bc (fun t M=>.inl M) fun au n20 ct _ _ a8=>?_);have be:eP n ct au (eQ 20):=a8;clear bc a8;refine zz ?_;refine qCK (fU S hk (bV[20]'dc).1 (bV[20]'dc).2 dc dc om be (fun t M=>.inl M) fun aw n21 cu _ _ a9=>?_);have bg:eP n cu aw (eQ 21):=a9;clear be a9;refine zz ?_;refine qCK (fU S hk (bV[21]'dc).1 (bV[21]'dc).2 dc dc om bg (fun t M=>.inl M) fun ax n22 cw _ _ aa=>?_);have bh:eP n cw ax (eQ 22):=aa;clear bg aa;refine zz ?_;refine qCK (fU S hk (bV[22]'dc).1 (bV[22]'dc).2 dc dc om bh (fun t M=>.inl M) fun ay n23 cx _ _ ab=>?_);have bi:eP n cx ay (eQ 23):=ab;clear bh ab;refine zz ?_;refine qCK (fU S hk (bV[23]'dc).1 (bV[23]'dc).2 dc dc om bi (fun t M=>.inl M) fun az n24 cy _ _ ac=>?_);have bj:eP n cy az (eQ 24):=ac;clear bi ac;refine zz ?_;refine qCK (fU S hk (bV[24]'dc).1 (bV[24]'dc).2 dc dc om bj (fun t M=>.inl M) fun b0 n25 cz _ _ ad=>?_);have bk:eP n cz b0 (eQ 25):=ad;clear bj ad;refine zz ?_;refine qCK (fU S hk (bV[25]'dc).1 (bV[25]'dc).2 dc dc om bk (fun t M=>.inl M) fun b1 n26 cA _ _ ae=>?_);have ce:eP n cA b1 (eQ 26):=ae;clear bk ae;refine zz ?_;rcases ce with⟨_,hz⟩ | ⟨a,rfl,hga,hba,hne⟩
 .cases hz
 .refine z1 hga ?_;have cd:((eQ 26).map pO).length=(eQ 26).length:=List.length_map _;refine qCJ ⟨by simp only[cd,Nat.zero_add,Nat.le_refl],fun x hx=>?_⟩ ?_
  .obtain⟨q,_,rfl⟩:=List.mem_map.1 (List.mem_of_mem_take hx)
   rfl
  .refine zz ?_;refine qCI fun _ _ _=>?_;rw[List.drop_zero,<- cd,List.take_length]
   rfl
theorem Mq:cD Gl Gm Kp 72 [] (.vec (jD.map pO) 5 true):=by
 refine cD.fin fun n h _=>qB6 S 20 [.tmp 0] Tryz.func72 fun _ _=>?_;refine zz ?_;exact qC9<|rfl
omit S in
def nX (l:List (List UInt8×oQ))(s:List UInt8):Option (List UInt8×oQ):=l.find? fun q=>q.1==s
omit S in
def QB:AV:=.agg [.str [],.int .i64 0,.int .i64 0,.bool false,.bool false]
omit S in
def Hk (r:Option (List UInt8×oQ)):AV:=.tup [match r with | some q=>pO q | none=>QB,.bool r.isSome]
theorem FA (l:List (List UInt8×oQ))(hll:l.length<1000)(s:List UInt8)(fl:Bool):cD Gl Gm Kp 70 [.vec (l.map pO) 5 fl,.str s] (Hk (nX l s)):=by
 refine cD.fin fun n h _=>qB6 S 25 [.cell 4 88,.tmp 5] Tryz.func70 fun _ _=>?_;have O:(l.map pO).length=l.length:=List.length_map _;refine zz ?_;refine qCu (fun k E nn hh=>∃ j:Nat,E=[(0,.vec (l.map pO) 5 fl),(1,.str s),(4,.ref n 0),(6,.int .i64 j)]/\j+k=l.length/\n+1<=nn/\hh.get n=some (.cells [.str [],.int .i64 0,.int .i64 0,.bool false,.bool false])/\nX l s=nX (l.drop j) s) l.length ⟨0,rfl,by omega,by omega,zc,by simp⟩ ?_
 .rintro k E nn hh hlk hBk ⟨j,rfl,hjk,hnn,gn,hf⟩;by_cases Y:j<l.length
  .have U:(l.map pO)[j]?=some (.agg [.str l[j].1,.int .i64 l[j].2.lo,.int .i64 l[j].2.hi,.bool l[j].2.left,.bool l[j].2.defn]):=(by rw[List.getElem?_map,List.getElem?_eq_getElem Y];rfl);rw[List.drop_eq_getElem_cons Y]at hf;unfold nX at hf;rw[List.find?_cons]at hf;cases hc:l[j].1==s with
   |true=>
    rw[hc]at hf;have M:nX l s=some l[j]:=hf;refine z5 O U @qCU hc gn ?_;refine qCI fun _ _ _=>?_;rw[M];rfl
   |false=>
    rw[hc]at hf;refine z5 O U @qCU hc gn ?_;refine aU.mq (k-1) ⟨j+1,rfl,by omega,by omega,gn,hf⟩
  .rw[List.drop_eq_nil_of_le om]at hf;have M:nX l s=none:=hf;refine z2 O gn ?_;refine qCI fun _ _ _=>?_;rw[M];rfl
omit S in
def uQ (r:Option (List UInt8×oQ)):AV:=.tup [match r with | some q=>.agg [.int .i64 q.2.lo,.int .i64 q.2.hi,.bool q.2.left] | none=>.agg [.int .i64 0,.int .i64 0,.bool false],.bool r.isSome]
theorem Vg (hk:Kp 121=(true,false))(s:List UInt8):cD Gl Gm Kp 16 [.str s] (uQ (nX aV s)):=by
 refine cD.fin fun n h _=>qB6 S 15 [.cell 2 24,.tmp 3] Tryz.func16 fun _ _=>?_;refine zz ?_;refine qCK ((Rb S hk).use fun n1 h1 _ _ M=>?_);have g1:=(M n om).trans ((zc):_=some (aK.cells [.int .i64 0,.int .i64 0,.bool false]));refine zz ?_;refine qCK ((FA S aV dc s false).use fun n2 h2 _ _ O=>?_);have g2:=(O n om).trans g1;unfold Hk uQ;cases nX aV s with
 |none=>
  refine x2 @QB.eq_1 @g2 ?_;exact qC9<|rfl
 |some q=>
  refine x2 @pO.eq_1 @g2 ?_;exact qC9<|rfl
theorem CY (s:List UInt8):cD Gl Gm Kp 23 [.str s] (uQ (nX jD s)):=by
 refine cD.fin fun n h _=>qB6 S 15 [.cell 2 24,.tmp 3] Tryz.func23 fun _ _=>?_;refine zz ?_;refine qCK ((Mq S).use fun n1 h1 _ _ M=>?_);have g1:=(M n om).trans ((zc):_=some (aK.cells [.int .i64 0,.int .i64 0,.bool false]));refine zz ?_;refine qCK ((FA S jD dc s true).use fun n2 h2 _ _ O=>?_);have g2:=(O n om).trans g1;unfold Hk uQ;cases nX jD s with
 |none=>
  refine x2 @QB.eq_1 @g2 ?_;exact qC9<|rfl
 |some q=>
  refine x2 @pO.eq_1 @g2 ?_;exact qC9<|rfl
end
section
variable {Gl:qC6}{Gm:qC7}{Kp:qC8}(S:Seat Gm Kp)
def aO (k:Int)(s:List UInt8)(lv:AV):AV:=.agg [.int .i64 k,.int .i64 0,.str s,.bool false,.sl0,lv,.int .i64 0,.int .i64 0]
def mO (a b:oQ)(same:Bool):Int:=if a.lo>b.hi\/(same=true/\a.left=true) then 1 else if a.hi<b.lo then 2 else 0
def SD (o:oQ):AV:=.agg [.int .i64 o.lo,.int .i64 o.hi,.bool o.left]
theorem aJ {k:Int}{s:List UInt8}{l:List Node}{lv:AV}(hl:EL l lv):EN (nd k s l) (aO k s lv):=.mk rfl rfl hl
include S
theorem kC (s:List UInt8):cD Gl Gm Kp 17 [.str s] (aO 14 s .sl0):=by
 refine cD.fin fun n h _=>qB6 S 5 [.cell 2 32] Tryz.func17 fun _ _=>?_;refine zz ?_;exact qC9<|rfl
theorem kL (k:Int)(s:List UInt8)(lv:AV)(h1:AV.one lv=true)(h2:eE lv=true):cD Gl Gm Kp 22 [.int .i64 k,.str s,lv] (aO k s lv):=by
 refine cD.fin fun n h _=>qB6 S 11 [.cell 6 32] Tryz.func22 fun _ _=>?_;have O:AV.whole lv=true:=(by cases lv<;>first | rfl | cases h1);have M:AV.cells lv=[lv]:=(by cases lv<;>first | rfl | cases h1);refine z3 h1 O M ?_;exact qC9<|rfl
theorem gY (s:List UInt8){a b:Node}{v u:AV}(ha:EN a v)(hb:EN b u):cD Gl Gm Kp 20 [.str s,v,u] (aO 21 s (.vec [v,u] 8 true)):=by
 refine cD.fin fun n h _=>qB6 S 12 [.cell 6 32] Tryz.func20 fun _ _=>?_;obtain⟨cs,rfl,U,O,_⟩:=ha.shape;obtain⟨ds,rfl,a1,Y,_⟩:=hb.shape;have ht:List.take 8 cs=cs:=List.take_of_length_le om;have a3:List.take 8 ds=ds:=List.take_of_length_le om;have M:=aM 2 104 dc dc;refine z8 U a1 O Y ht a3 @aB M ?_;refine qCK ((kL S 21 s (.vec [.agg cs,.agg ds] 8 true) rfl rfl).use fun n1 h1 _ _ a2=>?_);have g:=(a2 (n+1+1) om).trans ((zc):_=some (aK.cells [.int .i64 0,.int .i64 0,.str [],.bool false,.sl0,.sl0,.int .i64 0,.int .i64 0]));refine z2 @aO.eq_1 g ?_;exact qC9<|rfl
theorem Gs (a b:oQ)(same:Bool):cD Gl Gm Kp 18 [SD a,SD b,.bool same] (.int .i64 (mO a b same)):=by
 refine cD.fin fun n h _=>qB6 S 24 [.tmp 6] Tryz.func18 fun _ _=>?_;unfold SD mO;by_cases h1:a.lo>b.hi
 .refine zz ?_;exact qCI fun _ _ _=>by simp[h1]
 by_cases h2:a.hi<b.lo
 .cases same with
  |true=>
   cases hlf:a.left with
   |true=>
    refine zz ?_;exact qCI fun _ _ _=>by simp
   |false=>
    refine zz ?_;exact qCI fun _ _ _=>by simp[h1,h2]
  |false=>
   refine zz ?_;exact qCI fun _ _ _=>by simp[h1,h2]
 .cases same with
  |true=>
   cases hlf:a.left with
   |true=>
    refine zz ?_;exact qCI fun _ _ _=>by simp
   |false=>
    refine zz ?_;exact qCI fun _ _ _=>by simp[h1,h2]
  |false=>
   refine zz ?_;exact qCI fun _ _ _=>by simp[h1,h2]
omit S in
def gJ (F:Nat)(w:List UInt8)(x:Node):Option Bool:=
 match iV (iI w (gM F)) with
 |.ok y=>if y.plain&&decide (y.cnt<=1000000) then some (y.same x) else none
 |.error e=>if e=lT then none else some false
omit S in
def pJ (F:Nat)(w:List UInt8)(a e:Int):Option Bool:=
 match iV (iI w (gM F)) with
 |.ok _=>some (decide (0=e)&&decide (0=a))
 |.error f=>if f=lT then none else some (decide (f.err=e)&&decide (f.at'=a))
omit S in
theorem Ve {r:Except kY (List Node)}{e:kY}(hr:∀ e,r=.error e->e.err≠0)(h:iV r=.error e):e.err≠0:=by
 unfold iV at h;split at h
 .cases h
 .cases h;decide
 .cases h;exact hr _ rfl
theorem eN (K:oS Kp)(TT:mE Gl Gm Kp)(hA:Gl 1=some dL)(F:Nat)(hF:F<1000000000)(w:List UInt8)(hw:w.length<1000000000){x:Node}{v:AV}(ex:EN x v)(px:x.plain=true)(cx:x.cnt<=1000000){b:Bool}(hb:gJ F w x=some b):cD Gl Gm Kp 19 [.str w,v] (.bool b):=by
 refine cD.fin fun n h hl=>qB6 S 25 [.tmp 4] Tryz.func19 fun hB _=>?_;obtain⟨cs,rfl,O,M,a6⟩:=ex.shape;have ht:List.take 8 cs=cs:=List.take_of_length_le om;unfold gJ at hb;refine z4 O M ht @aB ?_;refine qCK (Vf S K TT hA F hF w hw (fun hc=>by rw[hc]at hb;cases hb) (fun y hy u n1 h1 ey Y a3 U=>?_) fun e he n1 h1 Y a3 U=>?_)
 .rw[hy]at hb;have g0:=(U n om).trans ((zc):_=some (aK.cells cs));by_cases hp:(y.plain&&decide (y.cnt<=1000000))=true
  case neg=>simp only[if_neg hp]at hb;cases hb
  simp only[if_pos hp,Option.some.injEq]at hb;simp only[Bool.and_eq_true,decide_eq_true_eq]at hp;obtain⟨ds,rfl,a2,a1,a7⟩:=ey.shape;have a4:List.take 8 ds=ds:=List.take_of_length_le om;refine z8 O a2 M a1 ht a4 @aB g0 ?_;refine qCK ((HD S y.cnt y x _ _ ey ex hp.1 px (Nat.le_refl _) cx hp.2).use fun n2 h2 a5 a9 a8=>?_);rw[hb];cases b with
  |true=>refine zz ?_;exact qC9<|rfl
  |false=>refine zz ?_;exact qC9<|rfl
 .rw[he]at hb;have aa:=Ve (fun e h=>yK h) he;by_cases hp:e=lT
  case pos=>simp only[if_pos hp]at hb;cases hb
  simp only[if_neg hp,Option.some.injEq]at hb;subst hb;refine z1 @sL.eq_1 ?_;exact qC9<|rfl
theorem mG (K:oS Kp)(TT:mE Gl Gm Kp)(hA:Gl 1=some dL)(F:Nat)(hF:F<1000000000)(w:List UInt8)(hw:w.length<1000000000)(a e:Int){b:Bool}(hb:pJ F w a e=some b):cD Gl Gm Kp 21 [.str w,.int .i64 a,.int .i64 e] (.bool b):=by
 refine cD.fin fun n h hl=>qB6 S 24 [.tmp 6] Tryz.func21 fun hB _=>?_;unfold pJ at hb;refine zz ?_;refine qCK (Vf S K TT hA F hF w hw (fun hc=>by rw[hc]at hb;cases hb) (fun y hy u n1 h1 ey a1 a3 a2=>?_) fun f hf n1 h1 a1 a3 a2=>?_)
 .rw[hy]at hb;simp only[Option.some.injEq]at hb;obtain⟨ds,rfl,O,M,a4⟩:=ey.shape;have U:List.take 8 ds=ds:=List.take_of_length_le om;by_cases Y:e=0
  .by_cases ha:a=0
   .subst Y ha;refine z4 O M U @aB ?_;exact qCI fun _ _ _=>by rw[<- hb];rfl
   .subst Y;refine z4 O M U @aB ?_;exact qCI fun _ _ _=>by rw[<- hb];simp;omega
  .refine z4 O M U @aB ?_;exact qCI fun _ _ _=>by rw[<- hb];simp;omega
 .rw[hf]at hb;by_cases hp:f=lT
  case pos=>simp only[if_pos hp]at hb;cases hb
  simp only[if_neg hp,Option.some.injEq]at hb;by_cases Y:f.err=e
  .by_cases ha:f.at'=a
   .subst Y ha;refine z1 @sL.eq_1 ?_;exact qCI fun _ _ _=>by rw[<- hb];simp
   .subst Y;refine z1 @sL.eq_1 ?_;exact qCI fun _ _ _=>by rw[<- hb];simp[ha]
  .refine z1 @sL.eq_1 ?_;exact qCI fun _ _ _=>by rw[<- hb];simp[Y]
def qCG:=@aO.eq_1
end
section
variable {Gl:qC6}{Gm:qC7}{Kp:qC8}(S:Seat Gm Kp)
def cT:Nat:=60
def nm (s:List UInt8):Node:=nd 14 s []
def inf (s:List UInt8)(a b:Node):Node:=nd 21 s [a,b]
def nA:Node:=nm [97]
def nB:Node:=nm [98]
def nC:Node:=nm [99]
def Jb (p q:List UInt8):List UInt8:=((([97,32]++p)++[32,98,32])++q)++[32,99]
def HO (p:List UInt8):List UInt8:=([97,32]++p)++[32,98,32]
def uY (p:List UInt8):List UInt8:=([97,32]++p)++[32,98,39]
def Jc (p q:List UInt8):List UInt8:=((p++[32,97,32])++q)++[32,98]
def Wq (p:List UInt8):List UInt8:=p++[32,97,32]
def pC (p:List UInt8):List UInt8:=p++[32,97,32,39]
def Ii (a b:List UInt8×oQ):Bool:=
 (match mO a.2 b.2 (a.1==b.1) with
 |1=>gJ cT (Jb a.1 b.1) (inf b.1 (inf a.1 nA nB) nC)
 |2=>gJ cT (Jb a.1 b.1) (inf a.1 nA (inf b.1 nB nC))
 |_=>pJ cT (Jb a.1 b.1) (HO a.1).length 31)==some true
def Ck (a:List UInt8×oQ):Bool:=gJ cT (uY a.1) (inf a.1 nA (nd 22 [] [nB]))==some true
def Ij (a b:List UInt8×oQ):Bool:=
 (match mO a.2 b.2 false with
 |1=>gJ cT (Jc a.1 b.1) (inf b.1 (nd 20 a.1 [nA]) nB)
 |2=>gJ cT (Jc a.1 b.1) (nd 20 a.1 [inf b.1 nA nB])
 |_=>pJ cT (Jc a.1 b.1) (Wq a.1).length 31)==some true
def sM (a:List UInt8×oQ):Bool:=
 (if a.2.hi<15 then gJ cT (pC a.1) (nd 20 a.1 [nd 22 [] [nA]]) else pJ cT (pC a.1) (Wq a.1).length 31)==some true
def MI (a:List UInt8×oQ):Bool:=a.1==[92,88]
structure Plain:Prop where
 inf:∀ a ∈ aV,MI a=false->∀ b ∈ aV,MI b=false->Ii a b=true
 infQ:∀ a ∈ aV,MI a=false->Ck a=true
 pre:∀ a ∈ jD,∀ b ∈ aV,MI b=false->Ij a b=true
 preQ:∀ a ∈ jD,sM a=true
theorem uL {l:List (List UInt8×oQ)}{s:List UInt8}{q:List UInt8×oQ}(h:nX l s=some q):q ∈ l/\q.1=s:=by
 unfold nX at h;exact⟨List.mem_of_find?_eq_some h,by simpa using List.find?_some h⟩
theorem Iq:(aV.all fun q=>decide (q.1.length<=20))=true:=kr
theorem Co {q:List UInt8×oQ}(h:q ∈ aV):q.1.length<=20:=by simpa using(List.all_eq_true.1 Iq) q h
def MS:AV:=aO 14 [97] .sl0
def YZ:AV:=aO 14 [98] .sl0
def nCV:AV:=aO 14 [99] .sl0
theorem lS:EN nA MS:=aJ .nil
theorem mZ:EN nB YZ:=aJ .nil
theorem Lx:EN nC nCV:=aJ .nil
theorem nZ {s:List UInt8}{a b:Node}{v u:AV}(ha:EN a v)(hb:EN b u):EN (inf s a b) (aO 21 s (.vec [v,u] 8 true)):=aJ (.vec (.cons ha (.cons hb .nil)))
theorem kK {k:Int}{s:List UInt8}{a:Node}{v:AV}(ha:EN a v):EN (nd k s [a]) (aO k s (.vec [v] 8 true)):=aJ (.vec (.cons ha .nil))
def Ek (c:UInt8):List AV:=[.int .i64 14,.int .i64 0,.str [c],.bool false,.sl0,.sl0,.int .i64 0,.int .i64 0]
theorem sW (a b:oQ)(same:Bool):mO a b same=1\/mO a b same=2\/mO a b same=0:=by
 unfold mO;split
 .exact .inl rfl
 .split
  .exact .inr (.inl rfl)
  .exact .inr (.inr rfl)
include S
theorem Il (K:oS Kp)(hk:Kp 121=(true,false))(TT:mE Gl Gm Kp)(hA:Gl 1=some dL)(hsane:cD Gl Gm Kp 15 [] (.bool true))(H:Plain)(p q:List UInt8):cD Gl Gm Kp 3 [.str p,.str q] (.bool true):=by
 refine cD.fin fun n h _=>aG.cut 163 [.tmp 4] 6 (fun E nn hh=>∃(b:List UInt8×oQ) (c5 cA cB:Nat),E=[(0,.str p),(1,.str b.1),(5,.ref c5 0),(7,.ref cA 0),(8,.ref cB 0)]/\b ∈ aV/\MI b=false/\p.length<=20/\hh.get c5=some (.cells [.int .i64 b.2.lo,.int .i64 b.2.hi,.bool b.2.left])/\
  hh.get cA=some (.cells (Ek 97))/\hh.get cB=some (.cells (Ek 98))) Tryz.func3 rfl (S.gm _ dc) (S.kp _ dc dc) rfl rfl (fun hB _=>?_) (fun hB E n1 h1 cb bc hI=>?_)
 .refine zz ?_;refine qCK (hsane.use fun n1 h1 cb bc _=>?_);refine zz ?_;refine qCK ((Vg S hk q).use fun n2 h2 cc d0 bb=>?_);unfold uQ;cases hfq:nX aV q with
  |none=>
   refine xx ?_;exact qC9<|rfl
  |some b=>
  obtain⟨a7,cz⟩:=uL hfq;have cy:=Co a7;subst cz;cases hX:b.1==[92,88] with
  |true=>
   refine x1 hX ?_;exact qC9<|rfl
  |false=>
  by_cases d2:p.length>20
  .refine x1 hX ?_;exact qC9<|rfl
  refine x1 hX ?_;refine qCK ((kC S [97]).use fun n3 h3 cd d1 b1=>?_);have co:=(b1 n2 om).trans ((zc):_=some (aK.cells [.int .i64 b.2.lo,.int .i64 b.2.hi,.bool b.2.left]));refine zz ?_;refine qCK ((kC S [98]).use fun n4 h4 bj c8 Y=>?_);have cp:=(Y n2 om).trans co;refine zz ?_;refine qCK ((kC S [99]).use fun n5 h5 bk c9 al=>?_);have cq:=(al n2 om).trans cp;refine z1 @qCG ?_;refine qCK ((Vg S hk p).use fun n6 h6 b6 bv a2=>?_);have ba:=(a2 n2 om).trans ((y1 cq):_=some (aK.cells [.int .i64 b.2.lo,.int .i64 b.2.hi,.bool b.2.left]));have a1:=(a2 n5 om).trans ((y1 @Ek.eq_1):_=some (aK.cells (Ek 97)));have b9:=(a2 (n5+1) om).trans ((y1 @Ek.eq_1):_=some (aK.cells (Ek 98)));have bz:=(a2 (n5+1+1) om).trans ((y1 @Ek.eq_1):_=some (aK.cells (Ek 99)));unfold uQ;cases hfp:nX aV p with
  |none=>
   refine xx ?_;refine fO.mq ⟨b,n2,n5,n5+1,rfl,a7,hX,by omega,y1 ba,y1 a1,y1 b9⟩
  |some a=>
  obtain⟨b0,bu⟩:=uL hfp;subst bu;cases hXa:a.1==[92,88] with
  |true=>
   refine x1 hXa ?_;refine fO.mq ⟨b,n2,n5,n5+1,rfl,a7,hX,by omega,y1 ba,y1 a1,y1 b9⟩
  |false=>
  have O:=H.inf a b0 hXa b a7 hX;have M:=H.infQ a b0 hXa;unfold Ek at a1 b9 bz;refine x2 hXa ba ?_;refine qCK ((Gs S a.2 b.2 (a.1==b.1)).use fun n7 h7 b7 bw an=>?_);have br:=(an n2 om).trans ((y1 ba):_=some (aK.cells [.int .i64 b.2.lo,.int .i64 b.2.hi,.bool b.2.left]));have aw:=(an n5 om).trans ((y2 a1 @Ek.eq_1):_=some (aK.cells (Ek 97)));have ax:=(an (n5+1) om).trans ((y2 b9 @Ek.eq_1):_=some (aK.cells (Ek 98)));have bp:=(an (n5+1+1) om).trans ((y2 bz @Ek.eq_1):_=some (aK.cells (Ek 99)));unfold Ek at aw ax bp;have ay:((HO a.1).length:Int)=((a.1.length+5:Nat):Int):=(by simp[HO];omega);have U:=aM 1 104 dc dc;unfold Ii at O;unfold Ck at M;simp only[beq_iff_eq]at M;rcases sW a.2 b.2 (a.1==b.1) with ht | ht | ht
  .rw[ht]at O;simp only[beq_iff_eq]at O;rw[ht];refine zz ?_;refine qCP [(5,6)] [(5,6)] kr ?_;refine g3 aw ax @aB ?_;refine qCN (fun _=>False) (fun _ _ h=>h.elim) ((gY S a.1 lS mZ).use fun n8 h8 ar bd ao=>?_);have cn:=(ao (n5+1+1) om).trans bp;refine g3 cn @qCG @aB ?_;refine qCN (fun _=>False) (fun _ _ h=>h.elim) ((gY S b.1 (nZ lS mZ) Lx).use fun n9 h9 a6 ap a8=>?_);refine g2 @qCG @aB ?_;refine qCN (fun _=>False) (fun _ _ h=>h.elim) ((eN S K TT hA cT dc (Jb a.1 b.1) (by simp[Jb];omega) (nZ (nZ lS mZ) Lx) rfl (Nat.le_of_ble_eq_true rfl) O).use fun n10 ae b2 be ah=>?_);have a5:∀ t,t<n7->ae.get t=h7.get t:=fun t ht=>(ah t om).trans ((a8 t om).trans (ao t ht));refine gg ?_;refine qCT fun nx ce cf=>?_;refine zz ?_;have ac:=(a5 n2 om).trans br;have a3:=(a5 n5 om).trans aw;have a4:=(a5 (n5+1) om).trans ax;refine qCP [(4,7)] [] kr ?_;refine u4 a3 a4 U @aB ?_;refine qCN (fun _=>False) (fun _ _ h=>h.elim) ((kL S 22 [] (.vec [YZ] 8 true) rfl rfl).use fun n11 c6 b3 bg ai=>?_);refine g2 @qCG @aB ?_;refine qCN (fun _=>False) (fun _ _ h=>h.elim) ((gY S a.1 lS (kK mZ)).use fun n12 c7 b4 bh aj=>?_);refine g2 @qCG @aB ?_;refine qCN (fun _=>False) (fun _ _ h=>h.elim) ((eN S K TT hA cT dc (uY a.1) (by simp[uY];omega) (nZ lS (kK mZ)) rfl (Nat.le_of_ble_eq_true rfl) M).use fun n13 az b5 bi ak=>?_);have Y:∀ t,t<n7->az.get t=ae.get t:=fun t ht=>(ak t om).trans ((aj t om).trans (ai t om));have ad:=(Y n2 om).trans ac;have a9:=(Y n5 om).trans a3;have aa:=(Y (n5+1) om).trans a4;refine gg ?_;refine qCT fun cg bl bm=>?_;refine zz ?_;refine fO.mq ⟨b,n2,n5,n5+1,rfl,a7,hX,by omega,ad,a9,aa⟩
  .rw[ht]at O;simp only[beq_iff_eq]at O;rw[ht];refine zz ?_;refine qCP [(2,6)] [] kr ?_;refine g4 aw ax bp @aB ?_;refine qCN (fun _=>False) (fun _ _ h=>h.elim) ((gY S b.1 mZ Lx).use fun n8 h8 ar bd ao=>?_);refine g2 @qCG @aB ?_;refine qCN (fun _=>False) (fun _ _ h=>h.elim) ((gY S a.1 lS (nZ mZ Lx)).use fun n9 h9 a6 ap a8=>?_);refine g2 @qCG @aB ?_;refine qCN (fun _=>False) (fun _ _ h=>h.elim) ((eN S K TT hA cT dc (Jb a.1 b.1) (by simp[Jb];omega) (nZ lS (nZ mZ Lx)) rfl (Nat.le_of_ble_eq_true rfl) O).use fun n10 ae b2 be ah=>?_);have a5:∀ t,t<n7->ae.get t=h7.get t:=fun t ht=>(ah t om).trans ((a8 t om).trans (ao t ht));refine gg ?_;refine qCT fun nx ce cf=>?_;refine zz ?_;have ac:=(a5 n2 om).trans br;have a3:=(a5 n5 om).trans aw;have a4:=(a5 (n5+1) om).trans ax;refine qCP [(4,7)] [] kr ?_;refine u4 a3 a4 U @aB ?_;refine qCN (fun _=>False) (fun _ _ h=>h.elim) ((kL S 22 [] (.vec [YZ] 8 true) rfl rfl).use fun n11 c6 b3 bg ai=>?_);refine g2 @qCG @aB ?_;refine qCN (fun _=>False) (fun _ _ h=>h.elim) ((gY S a.1 lS (kK mZ)).use fun n12 c7 b4 bh aj=>?_);refine g2 @qCG @aB ?_;refine qCN (fun _=>False) (fun _ _ h=>h.elim) ((eN S K TT hA cT dc (uY a.1) (by simp[uY];omega) (nZ lS (kK mZ)) rfl (Nat.le_of_ble_eq_true rfl) M).use fun n13 az b5 bi ak=>?_);have Y:∀ t,t<n7->az.get t=ae.get t:=fun t ht=>(ak t om).trans ((aj t om).trans (ai t om));have ad:=(Y n2 om).trans ac;have a9:=(Y n5 om).trans a3;have aa:=(Y (n5+1) om).trans a4;refine gg ?_;refine qCT fun cg bl bm=>?_;refine zz ?_;refine fO.mq ⟨b,n2,n5,n5+1,rfl,a7,hX,by omega,ad,a9,aa⟩
  .rw[ht]at O;simp only[beq_iff_eq]at O;rw[ht];rw[ay]at O;refine xx ?_;refine qCK ((mG S K TT hA cT dc (Jb a.1 b.1) (by simp[Jb];omega) _ 31 O).use fun n10 ae b2 be ah=>?_);have a5:∀ t,t<n7->ae.get t=h7.get t:=fun t ht=>ah t ht;refine zz ?_;have ac:=(a5 n2 om).trans br;have a3:=(a5 n5 om).trans aw;have a4:=(a5 (n5+1) om).trans ax;refine qCP [(4,7)] [] kr ?_;refine u4 a3 a4 U @aB ?_;refine qCN (fun _=>False) (fun _ _ h=>h.elim) ((kL S 22 [] (.vec [YZ] 8 true) rfl rfl).use fun n11 c6 b3 bg ai=>?_);refine g2 @qCG @aB ?_;refine qCN (fun _=>False) (fun _ _ h=>h.elim) ((gY S a.1 lS (kK mZ)).use fun n12 c7 b4 bh aj=>?_);refine g2 @qCG @aB ?_;refine qCN (fun _=>False) (fun _ _ h=>h.elim) ((eN S K TT hA cT dc (uY a.1) (by simp[uY];omega) (nZ lS (kK mZ)) rfl (Nat.le_of_ble_eq_true rfl) M).use fun n13 az b5 bi ak=>?_);have Y:∀ t,t<n7->az.get t=ae.get t:=fun t ht=>(ak t om).trans ((aj t om).trans (ai t om));have ad:=(Y n2 om).trans ac;have a9:=(Y n5 om).trans a3;have aa:=(Y (n5+1) om).trans a4;refine gg ?_;refine qCT fun cg bl bm=>?_;refine zz ?_;refine fO.mq ⟨b,n2,n5,n5+1,rfl,a7,hX,by omega,ad,a9,aa⟩
 .obtain⟨b,c5,cA,cB,rfl,a7,cx,_,g5,gA,gB⟩:=hI;have cy:=Co a7;have ct:=aN bc g5;have cu:=aN bc gA;have cw:=aN bc gB;refine zz ?_;refine qCK ((CY S p).use fun n2 h2 cc d0 bb=>?_);have ch:=(bb c5 ct).trans g5;have ci:=(bb cA cu).trans gA;have cj:=(bb cB cw).trans gB;unfold uQ;cases hfq:nX jD p with
  |none=>
   refine xx ?_;exact qC9<|rfl
  |some a=>
  obtain⟨b0,bu⟩:=uL hfq;subst bu;have O:=H.pre a b0 b a7 cx;have M:=H.preQ a b0;refine x1 ch ?_;refine qCK ((Gs S a.2 b.2 false).use fun n3 h3 cd d1 b1=>?_);have au:=(b1 cA om).trans ((y2 ci @Ek.eq_1):_=some (aK.cells (Ek 97)));have b8:=(b1 cB om).trans ((y2 cj @Ek.eq_1):_=some (aK.cells (Ek 98)));have bq:=(b1 n2 om).trans ((zc):_=some (aK.cells [.int .i64 a.2.lo,.int .i64 a.2.hi,.bool a.2.left]));unfold Ek at au b8;have U:=aM 1 104 dc dc;have ay:((Wq a.1).length:Int)=((a.1.length+3:Nat):Int):=(by simp[Wq]);unfold Ij at O;rcases sW a.2 b.2 false with ht | ht | ht
  .rw[ht]at O;simp only[beq_iff_eq]at O;rw[ht];refine zz ?_;refine qCP [(5,6)] [(5,6)] kr ?_;refine g4 au b8 U @aB ?_;refine qCN (fun _=>False) (fun _ _ h=>h.elim) ((kL S 20 a.1 (.vec [MS] 8 true) rfl rfl).use fun n4 h4 bj c8 Y=>?_);have ck:=(Y cB om).trans b8;refine g3 ck @qCG @aB ?_;refine qCN (fun _=>False) (fun _ _ h=>h.elim) ((gY S b.1 (kK lS) mZ).use fun n5 h5 bk c9 al=>?_);refine g2 @qCG @aB ?_;refine qCN (fun _=>False) (fun _ _ h=>h.elim) ((eN S K TT hA cT dc (Jc a.1 b.1) (by simp[Jc];omega) (nZ (kK lS) mZ) rfl (Nat.le_of_ble_eq_true rfl) O).use fun n6 h6 b6 bv a2=>?_);have a1:=(a2 cA om).trans ((al cA om).trans ((Y cA om).trans au));have ab:=(a2 n2 om).trans ((al n2 om).trans ((Y n2 om).trans bq));refine gg ?_;refine qCT fun nx ce cf=>?_;unfold sM at M;by_cases ag:a.2.hi<15
   .rw[if_pos ag]at M;simp only[beq_iff_eq]at M;refine x4 a1 ab U @aB ?_;refine qCK ((kL S 22 [] (.vec [MS] 8 true) rfl rfl).use fun n7 h7 b7 bw an=>?_);refine z3 @qCG @aB U ?_;refine qCK ((kL S 20 a.1 (.vec [aO 22 [] (.vec [MS] 8 true)] 8 true) rfl rfl).use fun n8 h8 ar bd ao=>?_);refine z2 @qCG @aB ?_;refine qCK ((eN S K TT hA cT dc (pC a.1) (by simp[pC];omega) (kK (kK lS)) rfl (Nat.le_of_ble_eq_true rfl) M).use fun n9 h9 a6 ap a8=>?_);refine zz ?_;exact qC9<|rfl
   .rw[if_neg ag,ay]at M;simp only[beq_iff_eq]at M;refine x2 a1 ab ?_;refine qCK ((mG S K TT hA cT dc (pC a.1) (by simp[pC];omega) _ 31 M).use fun n9 h9 a6 ap a8=>?_);refine zz ?_;exact qC9<|rfl
  .rw[ht]at O;simp only[beq_iff_eq]at O;rw[ht];refine z4 au b8 U @aB ?_;refine qCK ((gY S b.1 lS mZ).use fun n4 h4 bj c8 Y=>?_);refine z3 @qCG @aB U ?_;refine qCK ((kL S 20 a.1 (.vec [aO 21 b.1 (.vec [MS,YZ] 8 true)] 8 true) rfl rfl).use fun n5 h5 bk c9 al=>?_);refine z2 @qCG @aB ?_;refine qCK ((eN S K TT hA cT dc (Jc a.1 b.1) (by simp[Jc];omega) (kK (nZ lS mZ)) rfl (Nat.le_of_ble_eq_true rfl) O).use fun n6 h6 b6 bv a2=>?_);have a1:=(a2 cA om).trans ((al cA om).trans ((Y cA om).trans au));have ab:=(a2 n2 om).trans ((al n2 om).trans ((Y n2 om).trans bq));unfold sM at M;by_cases ag:a.2.hi<15
   .rw[if_pos ag]at M;simp only[beq_iff_eq]at M;refine x4 a1 ab U @aB ?_;refine qCK ((kL S 22 [] (.vec [MS] 8 true) rfl rfl).use fun n7 h7 b7 bw an=>?_);refine z3 @qCG @aB U ?_;refine qCK ((kL S 20 a.1 (.vec [aO 22 [] (.vec [MS] 8 true)] 8 true) rfl rfl).use fun n8 h8 ar bd ao=>?_);refine z2 @qCG @aB ?_;refine qCK ((eN S K TT hA cT dc (pC a.1) (by simp[pC];omega) (kK (kK lS)) rfl (Nat.le_of_ble_eq_true rfl) M).use fun n9 h9 a6 ap a8=>?_);refine zz ?_;exact qC9<|rfl
   .rw[if_neg ag,ay]at M;simp only[beq_iff_eq]at M;refine x2 a1 ab ?_;refine qCK ((mG S K TT hA cT dc (pC a.1) (by simp[pC];omega) _ 31 M).use fun n9 h9 a6 ap a8=>?_);refine zz ?_;exact qC9<|rfl
  .rw[ht]at O;simp only[beq_iff_eq]at O;rw[ht];rw[ay]at O;refine xx ?_;refine qCK ((mG S K TT hA cT dc (Jc a.1 b.1) (by simp[Jc];omega) _ 31 O).use fun n6 h6 b6 bv a2=>?_);have a1:=(a2 cA om).trans au;have ab:=(a2 n2 om).trans bq;unfold sM at M;by_cases ag:a.2.hi<15
   .rw[if_pos ag]at M;simp only[beq_iff_eq]at M;refine x4 a1 ab U @aB ?_;refine qCK ((kL S 22 [] (.vec [MS] 8 true) rfl rfl).use fun n7 h7 b7 bw an=>?_);refine z3 @qCG @aB U ?_;refine qCK ((kL S 20 a.1 (.vec [aO 22 [] (.vec [MS] 8 true)] 8 true) rfl rfl).use fun n8 h8 ar bd ao=>?_);refine z2 @qCG @aB ?_;refine qCK ((eN S K TT hA cT dc (pC a.1) (by simp[pC];omega) (kK (kK lS)) rfl (Nat.le_of_ble_eq_true rfl) M).use fun n9 h9 a6 ap a8=>?_);refine zz ?_;exact qC9<|rfl
   .rw[if_neg ag,ay]at M;simp only[beq_iff_eq]at M;refine x2 a1 ab ?_;refine qCK ((mG S K TT hA cT dc (pC a.1) (by simp[pC];omega) _ 31 M).use fun n9 h9 a6 ap a8=>?_);refine zz ?_;exact qC9<|rfl
end
theorem sn1:gJ cT [97,32,43,32,98,32,42,32,99,32,45,32,100] (nd 21 [43] [(nm [97]),(nd 21 [45] [(nd 21 [42] [(nm [98]),(nm [99])]),(nm [100])])])=some true:=kr
theorem sn2:pJ cT [97,32,47,92,32,98,32,92,47,32,99] 7 31=some true:=kr
theorem sn3:pJ cT [97,32,61,32,98,32,61,32,99] 6 31=some true:=kr
theorem sn4:gJ cT [126,97,32,61,32,98] (nd 20 [126] [(nd 21 [61] [(nm [97]),(nm [98])])])=some true:=kr
theorem sn5:gJ cT [45,120,39] (nd 20 [45] [(nd 22 [] [(nm [120])])])=some true:=kr
theorem sn6:pJ cT [91,93,120,39] 3 31=some true:=kr
theorem sn7:gJ cT [97,32,92,88,32,98,32,92,88,32,99] (nd 41 [] [(nm [97]),(nm [98]),(nm [99])])=some true:=kr
theorem sn8:gJ cT [40,97,32,92,88,32,98,41,32,92,88,32,99] (nd 41 [] [(nd 41 [] [(nm [97]),(nm [98])]),(nm [99])])=some true:=kr
theorem sn9:gJ cT [47,92,32,97,10,47,92,32,98,10,32,32,32,47,92,32,99] (nd 23 [47,92] [(nm [97]),(nd 21 [47,92] [(nm [98]),(nm [99])])])=some true:=kr
theorem sn10:gJ cT [47,92,32,97,10,47,92,32,92,47,32,98,10,32,32,32,92,47,32,99] (nd 23 [47,92] [(nm [97]),(nd 23 [92,47] [(nm [98]),(nm [99])])])=some true:=kr
theorem sn11:gJ cT [91,120,32,92,105,110,32,83,32,124,45,62,32,120,93] (nd 30 [] [(nd 26 [] [(nm [120]),(nm [83])]),(nm [120])])=some true:=kr
theorem sn12:gJ cT [91,120,32,92,105,110,32,83,93,95,118] (nd 46 [] [(nd 21 [92,105,110] [(nm [120]),(nm [83])]),(nm [118])])=some true:=kr
theorem sn13:gJ cT [91,83,32,45,62,32,84,93] (nd 31 [] [(nm [83]),(nm [84])])=some true:=kr
theorem sn14:gJ cT [91,97,32,58,32,83,93] (nd 33 [] [(nd 34 [97] [(nm [83])])])=some true:=kr
theorem sn15:gJ cT [123,120,32,92,105,110,32,83,32,58,32,97,125] (nd 28 [] [(nd 26 [] [(nm [120]),(nm [83])]),(nm [97])])=some true:=kr
theorem sn16:gJ cT [123,120,32,58,32,120,32,92,105,110,32,83,125] (nd 29 [] [(nm [120]),(nd 26 [] [(nm [120]),(nm [83])])])=some true:=kr
theorem sn17:gJ cT [123,40,120,32,92,105,110,32,83,41,32,58,32,120,32,92,105,110,32,83,125] (nd 29 [] [(nd 21 [92,105,110] [(nm [120]),(nm [83])]),(nd 26 [] [(nm [120]),(nm [83])])])=some true:=kr
theorem sn18:gJ cT [70,111,108,100,40,43,44,32,76,65,77,66,68,65,32,120,32,58,32,120,41] (nd 15 [70,111,108,100] [(nd 50 [43] []),(nd 49 [] [(nd 12 [120] []),(nm [120])])])=some true:=kr
theorem sn19:pJ cT [97,32,98] 2 30=some true:=kr
theorem sn20:pJ cT [40,97] 2 30=some true:=kr
def Hy (F:Nat)(w:List UInt8)(x:Node):Bool:=
 match iV (iI w (fZ F)) with
 |.ok y=>y.plain&&decide (y.cnt<=1000000)&&y.same x
 |.error _=>false
theorem Rp {F:Nat}{w:List UInt8}{x:Node}(h:Hy F w x=true):∃ y,iV (iI w (fZ F))=.ok y/\y.plain=true/\y.cnt<=1000000/\y.same x=true:=by
 unfold Hy at h;cases hc:iV (iI w (fZ F)) with
 |error e=>rw[hc]at h;cases h
 |ok y=>
  rw[hc]at h;simp only[Bool.and_eq_true,decide_eq_true_eq]at h;exact⟨y,rfl,h.1.1,h.1.2,h.2⟩
theorem snM:Hy cT [45,45,45,45,32,77,79,68,85,76,69,32,77,32,45,45,45,45,32,86,65,82,73,65,66,76,69,32,120,32,92,105,110,32,83,32,73,110,105,116,32,61,61,32,120,32,61,32,97,32,61,61,61,61] (nd 1 [77] [(nd 4 [] [(nd 13 [120] [(nm [83])])]),(nd 8 [73,110,105,116] [(nd 21 [61] [(nm [120]),(nm [97])])])])=true:=kr
section
variable {Gl:qC6}{Gm:qC7}{Kp:qC8}(S:Seat Gm Kp)
def bP (k:Int)(s:List UInt8)(lv:AV):List AV:=[.int .i64 k,.int .i64 0,.str s,.bool false,.sl0,lv,.int .i64 0,.int .i64 0]
def bX (N:Nat)(h:Hp)(l:List (Nat×aK)):Prop:=∀ q ∈ l,q.1<N/\h.get q.1=some q.2
theorem bX.nil {N:Nat}{h:Hp}:bX N h []:=fun _ M=>by cases M
theorem bX.cons {N a:Nat}{h:Hp}{x:aK}{l:List (Nat×aK)}(g:h.get a=some x)(ha:a<N)(r:bX N h l):bX N h ((a,x)::l):=fun q M=>by
 rcases List.mem_cons.1 M with rfl | M
 .exact⟨ha,g⟩
 .exact r q M
theorem bX.keep {N n:Nat}{h h':Hp}{l:List (Nat×aK)}(F:bX N h l)(k:∀ t,t<n->h'.get t=h.get t)(hN:N<=n):bX N h' l:=fun q M=>⟨(F q M).1,(k _ (Nat.lt_of_lt_of_le (F q M).1 hN)).trans (F q M).2⟩
theorem bX.g1 {N:Nat}{h:Hp}{a:Nat}{x:aK}{l:List (Nat×aK)}(F:bX N h ((a,x)::l)):h.get a=some x:=(F (a,x) sm).2
theorem bX.g2 {N:Nat}{h:Hp}{p1:Nat×aK}{a:Nat}{x:aK}{l:List (Nat×aK)}(F:bX N h (p1::(a,x)::l)):h.get a=some x:=(F (a,x) sm).2
theorem bX.g3 {N:Nat}{h:Hp}{p1 p2:Nat×aK}{a:Nat}{x:aK}{l:List (Nat×aK)}(F:bX N h (p1::p2::(a,x)::l)):h.get a=some x:=(F (a,x) sm).2
theorem bX.g4 {N:Nat}{h:Hp}{p1 p2 p3:Nat×aK}{a:Nat}{x:aK}{l:List (Nat×aK)}(F:bX N h (p1::p2::p3::(a,x)::l)):h.get a=some x:=(F (a,x) sm).2
theorem bX.g5 {N:Nat}{h:Hp}{p1 p2 p3 p4:Nat×aK}{a:Nat}{x:aK}{l:List (Nat×aK)}(F:bX N h (p1::p2::p3::p4::(a,x)::l)):h.get a=some x:=(F (a,x) sm).2
theorem bX.g6 {N:Nat}{h:Hp}{p1 p2 p3 p4 p5:Nat×aK}{a:Nat}{x:aK}{l:List (Nat×aK)}(F:bX N h (p1::p2::p3::p4::p5::(a,x)::l)):h.get a=some x:=(F (a,x) sm).2
theorem bX.g7 {N:Nat}{h:Hp}{p1 p2 p3 p4 p5 p6:Nat×aK}{a:Nat}{x:aK}{l:List (Nat×aK)}(F:bX N h (p1::p2::p3::p4::p5::p6::(a,x)::l)):h.get a=some x:=(F (a,x) sm).2
theorem bX.g8 {N:Nat}{h:Hp}{p1 p2 p3 p4 p5 p6 p7:Nat×aK}{a:Nat}{x:aK}{l:List (Nat×aK)}(F:bX N h (p1::p2::p3::p4::p5::p6::p7::(a,x)::l)):h.get a=some x:=(F (a,x) sm).2
theorem ud {f:FuncId}{args:List AV}{v:AV}(p:cD Gl Gm Kp f args v){n N:Nat}{h:Hp}{l:List (Nat×aK)}{B:Nat->Prop}{Q t}(F:bX N h l)(k:∀ n' h',n<=n'->aE n' h'->bX N h' l->Q (fun _=>False) (.returned v) n' h')(hN:N<=n:=by omega):aZ Tryz.prog Gl Gm Kp f args n h B Q t:=
 qCN (fun _=>False) (fun _ _ h=>h.elim) (p.use fun n' h' a b c=>k n' h' a b (F.keep c hN))
theorem uc {f:FuncId}{args:List AV}{v:AV}(p:cD Gl Gm Kp f args v){n N:Nat}{h:Hp}{l:List (Nat×aK)}{B:Nat->Prop}{Q t}(F:bX N h l)(k:∀ n' h',n<=n'->aE n' h'->bX N h' l->Q (.returned v) n' h')(hN:N<=n:=by omega):aA Tryz.prog Gl Gm Kp f args n h B Q t:=
 qCK (p.use fun n' h' a b c=>k n' h' a b (F.keep c hN))
include S
theorem gF (k:Int)(s:List UInt8){xs:List AV}:cD Gl Gm Kp 22 [.int .i64 k,.str s,.vec xs 8 true] (aO k s (.vec xs 8 true)):=kL S k s _ rfl rfl
theorem SJ (K:oS Kp)(TT:mE Gl Gm Kp)(hA:Gl 1=some dL):cD Gl Gm Kp 15 [] (.bool true):=by
 refine cD.fin fun n0 h0 _=>qB6 S 192 [.tmp 0] Tryz.func15 fun _ _=>?_;have e1:=aM 1 104 dc dc;have e2:=aM 2 104 dc dc;have e3:=aM 3 104 dc dc;have M:=And.intro @qCG (And.intro @aB (And.intro e1 (And.intro e2 e3)));refine zz ?_;refine qCK ((kC S [97]).use fun n1 h1 _ _ _=>?_);refine z1 (M) ?_;refine qCK ((kC S [98]).use fun n2 h2 _ _ _=>?_);refine z1 (M) ?_;refine qCK ((kC S [99]).use fun _ _ _ _ _=>?_);refine z1 (M) ?_;refine qCK ((kC S [100]).use fun n4 _ _ _ _=>?_);refine z1 (M) ?_;refine qCP [(0,3),(3,4),(0,5)] [(3,4)] kr ?_;refine g1 (M) ?_;refine qCN (fun _=>False) (fun _ _ h=>h.elim) ((gY S [42] (aJ .nil) (aJ .nil)).use fun n5 _ _ _ d5=>?_);have d1:=(d5 (n4) om).trans ((y2 @bP.eq_1 @qCG):_=some (aK.cells (bP 14 [97] .sl0)));have e4:n4<n4+1+1+1+1:=om;have d2:=(d5 (n4+1) om).trans ((y2 @bP.eq_1 @qCG):_=some (aK.cells (bP 14 [98] .sl0)));have e5:n4+1<n4+1+1+1+1:=om;have d3:=(d5 (n4+1+1) om).trans ((y2 @bP.eq_1 @qCG):_=some (aK.cells (bP 14 [99] .sl0)));have e6:n4+1+1<n4+1+1+1+1:=om;have d4:=(d5 (n4+1+1+1) om).trans ((y2 @bP.eq_1 @qCG):_=some (aK.cells (bP 14 [100] .sl0)));have e7:n4+1+1+1<n4+1+1+1+1:=om
 try simp only[bP,aO]at d1
 try simp only[bP,aO]at d2
 try simp only[bP,aO]at d3
 try simp only[bP,aO]at d4
 have F5:=(bX.cons d1 e4 (bX.cons d2 e5 (bX.cons d3 e6 (bX.cons d4 e7 bX.nil))));refine g5 d1 d2 d3 d4 (M) ?_;refine ud (gY S [45] (aJ (.vec (EV.cons (aJ .nil) (EV.cons (aJ .nil) EV.nil)))) (aJ .nil)) F5 fun n6 _ _ _ F6=>?_;refine g5 F6.g1 F6.g2 F6.g3 F6.g4 (M) ?_;refine ud (gY S [43] (aJ .nil) (aJ (.vec (EV.cons (aJ (.vec (EV.cons (aJ .nil) (EV.cons (aJ .nil) EV.nil)))) (EV.cons (aJ .nil) EV.nil))))) F6 fun n7 _ _ _ F7=>?_;refine g5 F7.g1 F7.g2 F7.g3 F7.g4 (M) ?_;refine ud (eN S K TT hA cT dc [97,32,43,32,98,32,42,32,99,32,45,32,100] dc (x:=(nd 21 [43] [(nm [97]),(nd 21 [45] [(nd 21 [42] [(nm [98]),(nm [99])]),(nm [100])])])) (aJ (.vec (EV.cons (aJ .nil) (EV.cons (aJ (.vec (EV.cons (aJ (.vec (EV.cons (aJ .nil) (EV.cons (aJ .nil) EV.nil)))) (EV.cons (aJ .nil) EV.nil)))) EV.nil)))) rfl (Nat.le_of_ble_eq_true rfl) sn1) F7 fun n8 _ _ _ F8=>?_;refine g5 F8.g1 F8.g2 F8.g3 F8.g4 (M) ?_;refine ud (mG S K TT hA cT dc [97,32,47,92,32,98,32,92,47,32,99] dc 7 31 sn2) F8 fun n9 _ _ _ F9=>?_;refine g5 F9.g1 F9.g2 F9.g3 F9.g4 (M) ?_;refine ud (mG S K TT hA cT dc [97,32,61,32,98,32,61,32,99] dc 6 31 sn3) F9 fun n10 _ _ _ aa=>?_;refine g5 aa.g1 aa.g2 aa.g3 aa.g4 (M) ?_;refine qCT fun _ _ _=>?_;refine z4 aa.g1 aa.g2 aa.g3 aa.g4 ?_;refine uc (kC S [120]) aa fun n11 _ _ _ aj=>?_;refine z5 aj.g1 aj.g2 aj.g3 aj.g4 (M) ?_;refine qCK ((gY S [61] (aJ .nil) (aJ .nil)).use fun n12 _ _ _ ap=>?_);have bg:=(ap (n4) om).trans ((y3 aj.g1 @bP.eq_1 @qCG):_=some (aK.cells (bP 14 [97] .sl0)));have d6:n4<n11+1:=om;have bk:=(ap (n4+1) om).trans ((y3 aj.g2 @bP.eq_1 @qCG):_=some (aK.cells (bP 14 [98] .sl0)));have da:n4+1<n11+1:=om;have bq:=(ap (n4+1+1) om).trans ((y3 aj.g3 @bP.eq_1 @qCG):_=some (aK.cells (bP 14 [99] .sl0)));have df:n4+1+1<n11+1:=om;have bw:=(ap (n4+1+1+1) om).trans ((y3 aj.g4 @bP.eq_1 @qCG):_=some (aK.cells (bP 14 [100] .sl0)));have dk:n4+1+1+1<n11+1:=om;have ce:=(ap (n11) om).trans ((y2 @bP.eq_1 @qCG):_=some (aK.cells (bP 14 [120] .sl0)));have dx:n11<n11+1:=om
 try simp only[bP,aO]at bg
 try simp only[bP,aO]at bk
 try simp only[bP,aO]at bq
 try simp only[bP,aO]at bw
 try simp only[bP,aO]at ce
 have eb:=(bX.cons bg d6 (bX.cons bk da (bX.cons bq df (bX.cons bw dk (bX.cons ce dx bX.nil)))));refine z6 bg bk bq bw ce (M) ?_;refine uc (gF S 20 [126]) eb fun n13 _ _ _ ci=>?_;refine z6 ci.g1 ci.g2 ci.g3 ci.g4 ci.g5 (M) ?_;refine uc (eN S K TT hA cT dc [126,97,32,61,32,98] dc (x:=(nd 20 [126] [(nd 21 [61] [(nm [97]),(nm [98])])])) (aJ (.vec (EV.cons (aJ (.vec (EV.cons (aJ .nil) (EV.cons (aJ .nil) EV.nil)))) EV.nil))) rfl (Nat.le_of_ble_eq_true rfl) sn4) ci fun n14 _ _ _ cj=>?_;refine z6 cj.g1 cj.g2 cj.g3 cj.g4 cj.g5 (M) ?_;refine uc (gF S 22 []) cj fun n15 _ _ _ ck=>?_;refine z6 ck.g1 ck.g2 ck.g3 ck.g4 ck.g5 (M) ?_;refine uc (gF S 20 [45]) ck fun n16 _ _ _ cn=>?_;refine z6 cn.g1 cn.g2 cn.g3 cn.g4 cn.g5 (M) ?_;refine uc (eN S K TT hA cT dc [45,120,39] dc (x:=(nd 20 [45] [(nd 22 [] [(nm [120])])])) (aJ (.vec (EV.cons (aJ (.vec (EV.cons (aJ .nil) EV.nil))) EV.nil))) rfl (Nat.le_of_ble_eq_true rfl) sn5) cn fun n17 _ _ _ co=>?_;refine z6 co.g1 co.g2 co.g3 co.g4 co.g5 (M) ?_;refine uc (mG S K TT hA cT dc [91,93,120,39] dc 3 31 sn6) co fun n18 _ _ _ a7=>?_;refine z6 a7.g1 a7.g2 a7.g3 a7.g4 a7.g5 (M) ?_;refine qCP [(11,12)] [(11,12)] kr ?_;refine g6 a7.g1 a7.g2 a7.g3 a7.g4 a7.g5 (M) ?_;refine ud (gF S 41 []) a7 fun n19 _ _ _ cp=>?_;refine g6 cp.g1 cp.g2 cp.g3 cp.g4 cp.g5 (M) ?_;refine ud (eN S K TT hA cT dc [97,32,92,88,32,98,32,92,88,32,99] dc (x:=(nd 41 [] [(nm [97]),(nm [98]),(nm [99])])) (aJ (.vec (EV.cons (aJ .nil) (EV.cons (aJ .nil) (EV.cons (aJ .nil) EV.nil))))) rfl (Nat.le_of_ble_eq_true rfl) sn7) cp fun n20 _ _ _ cq=>?_;refine g6 cq.g1 cq.g2 cq.g3 cq.g4 cq.g5 (M) ?_;refine ud (gF S 41 []) cq fun n21 _ _ _ ct=>?_;refine g6 ct.g1 ct.g2 ct.g3 ct.g4 ct.g5 (M) ?_;refine ud (gF S 41 []) ct fun n22 _ _ _ cu=>?_;refine g6 cu.g1 cu.g2 cu.g3 cu.g4 cu.g5 (M) ?_;refine ud (eN S K TT hA cT dc [40,97,32,92,88,32,98,41,32,92,88,32,99] dc (x:=(nd 41 [] [(nd 41 [] [(nm [97]),(nm [98])]),(nm [99])])) (aJ (.vec (EV.cons (aJ (.vec (EV.cons (aJ .nil) (EV.cons (aJ .nil) EV.nil)))) (EV.cons (aJ .nil) EV.nil)))) rfl (Nat.le_of_ble_eq_true rfl) sn8) cu fun n23 _ _ _ a3=>?_;refine g6 a3.g1 a3.g2 a3.g3 a3.g4 a3.g5 (M) ?_;refine qCT fun _ _ _=>?_;refine z5 a3.g1 a3.g2 a3.g3 a3.g4 a3.g5 ?_;refine qCP [(0,3),(9,13)] [] kr ?_;refine g6 a3.g1 a3.g2 a3.g3 a3.g4 a3.g5 (M) ?_;refine ud (gY S [47,92] (aJ .nil) (aJ .nil)) a3 fun n24 _ _ _ cw=>?_;refine g6 cw.g1 cw.g2 cw.g3 cw.g4 cw.g5 (M) ?_;refine ud (gF S 23 [47,92]) cw fun n25 _ _ _ cx=>?_;refine g6 cx.g1 cx.g2 cx.g3 cx.g4 cx.g5 (M) ?_;refine ud (eN S K TT hA cT dc [47,92,32,97,10,47,92,32,98,10,32,32,32,47,92,32,99] dc (x:=(nd 23 [47,92] [(nm [97]),(nd 21 [47,92] [(nm [98]),(nm [99])])])) (aJ (.vec (EV.cons (aJ .nil) (EV.cons (aJ (.vec (EV.cons (aJ .nil) (EV.cons (aJ .nil) EV.nil)))) EV.nil)))) rfl (Nat.le_of_ble_eq_true rfl) sn9) cx fun n26 _ _ _ cz=>?_;refine g6 cz.g1 cz.g2 cz.g3 cz.g4 cz.g5 (M) ?_;refine ud (gF S 23 [92,47]) cz fun n27 _ _ _ cA=>?_;refine g6 cA.g1 cA.g2 cA.g3 cA.g4 cA.g5 (M) ?_;refine ud (gF S 23 [47,92]) cA fun n28 _ _ _ cB=>?_;refine g6 cB.g1 cB.g2 cB.g3 cB.g4 cB.g5 (M) ?_;refine ud (eN S K TT hA cT dc [47,92,32,97,10,47,92,32,92,47,32,98,10,32,32,32,92,47,32,99] dc (x:=(nd 23 [47,92] [(nm [97]),(nd 23 [92,47] [(nm [98]),(nm [99])])])) (aJ (.vec (EV.cons (aJ .nil) (EV.cons (aJ (.vec (EV.cons (aJ .nil) (EV.cons (aJ .nil) EV.nil)))) EV.nil)))) rfl (Nat.le_of_ble_eq_true rfl) sn10) cB fun n29 _ _ _ a4=>?_;refine g6 a4.g1 a4.g2 a4.g3 a4.g4 a4.g5 (M) ?_;refine qCT fun _ _ _=>?_;refine z5 a4.g1 a4.g2 a4.g3 a4.g4 a4.g5 ?_;refine qCP [(0,1),(0,4),(1,4),(3,4)] [(1,4),(3,4)] kr ?_;refine g6 a4.g1 a4.g2 a4.g3 a4.g4 a4.g5 (M) ?_;refine ud (kC S [83]) a4 fun n30 _ _ _ d0=>?_;refine g6 d0.g1 d0.g2 d0.g3 d0.g4 d0.g5 (M) ?_;refine ud (gF S 26 []) d0 fun n31 _ _ _ Y=>?_;refine g6 Y.g1 Y.g2 Y.g3 Y.g4 Y.g5 (M) ?_;refine eL.lt om fun ef _ _ e9=>?_;have eh:n31<ef:=aN e9 (x:=.cells (bP 26 [] (.vec [aO 14 [120] .sl0,aO 14 [83] .sl0] 8 true))) (y2 @bP.eq_1 @qCG);refine z5 Y.g1 Y.g2 Y.g3 Y.g4 Y.g5 ?_;refine qCP [(7,8)] [] kr ?_;refine g6 Y.g1 Y.g2 Y.g3 Y.g4 Y.g5 (M) ?_;refine qCN (fun _=>False) (fun _ _ h=>h.elim) ((gF S 30 []).use fun n32 _ _ _ a9=>?_);have bh:=(a9 (n4) om).trans ((y3 Y.g1 @bP.eq_1 @qCG):_=some (aK.cells (bP 14 [97] .sl0)));have d7:n4<n31+1:=om;have bl:=(a9 (n4+1) om).trans ((y3 Y.g2 @bP.eq_1 @qCG):_=some (aK.cells (bP 14 [98] .sl0)));have db:n4+1<n31+1:=om;have br:=(a9 (n4+1+1) om).trans ((y3 Y.g3 @bP.eq_1 @qCG):_=some (aK.cells (bP 14 [99] .sl0)));have dh:n4+1+1<n31+1:=om;have bz:=(a9 (n4+1+1+1) om).trans ((y3 Y.g4 @bP.eq_1 @qCG):_=some (aK.cells (bP 14 [100] .sl0)));have dm:n4+1+1+1<n31+1:=om;have cf:=(a9 (n11) om).trans ((y3 Y.g5 @bP.eq_1 @qCG):_=some (aK.cells (bP 14 [120] .sl0)));have dy:n11<n31+1:=om;have cb:=(a9 (n31) om).trans ((y2 @bP.eq_1 @qCG):_=some (aK.cells (bP 26 [] (.vec [aO 14 [120] .sl0,aO 14 [83] .sl0] 8 true))));have du:n31<n31+1:=om
 try simp only[bP,aO]at bh
 try simp only[bP,aO]at bl
 try simp only[bP,aO]at br
 try simp only[bP,aO]at bz
 try simp only[bP,aO]at cf
 try simp only[bP,aO]at cb
 have ec:=(bX.cons bh d7 (bX.cons bl db (bX.cons br dh (bX.cons bz dm (bX.cons cf dy (bX.cons cb du bX.nil))))));refine g7 bh bl br bz cf cb (M) ?_;refine ud (eN S K TT hA cT dc [91,120,32,92,105,110,32,83,32,124,45,62,32,120,93] dc (x:=(nd 30 [] [(nd 26 [] [(nm [120]),(nm [83])]),(nm [120])])) (aJ (.vec (EV.cons (aJ (.vec (EV.cons (aJ .nil) (EV.cons (aJ .nil) EV.nil)))) (EV.cons (aJ .nil) EV.nil)))) rfl (Nat.le_of_ble_eq_true rfl) sn11) ec fun n33 _ _ _ ar=>?_;refine g7 ar.g1 ar.g2 ar.g3 ar.g4 ar.g5 ar.g6 (M) ?_;refine ud (kC S [83]) ar fun n34 _ _ _ au=>?_;refine g7 au.g1 au.g2 au.g3 au.g4 au.g5 au.g6 (M) ?_;refine ud (gY S [92,105,110] (aJ .nil) (aJ .nil)) au fun n35 _ _ _ aw=>?_;refine g7 aw.g1 aw.g2 aw.g3 aw.g4 aw.g5 aw.g6 (M) ?_;refine ud (kC S [118]) aw fun n36 _ _ _ ax=>?_;refine g7 ax.g1 ax.g2 ax.g3 ax.g4 ax.g5 ax.g6 (M) ?_;refine ud (gF S 46 []) ax fun n37 _ _ _ ay=>?_;refine g7 ay.g1 ay.g2 ay.g3 ay.g4 ay.g5 ay.g6 (M) ?_;refine ud (eN S K TT hA cT dc [91,120,32,92,105,110,32,83,93,95,118] dc (x:=(nd 46 [] [(nd 21 [92,105,110] [(nm [120]),(nm [83])]),(nm [118])])) (aJ (.vec (EV.cons (aJ (.vec (EV.cons (aJ .nil) (EV.cons (aJ .nil) EV.nil)))) (EV.cons (aJ .nil) EV.nil)))) rfl (Nat.le_of_ble_eq_true rfl) sn12) ay fun n38 _ _ _ az=>?_;refine g7 az.g1 az.g2 az.g3 az.g4 az.g5 az.g6 (M) ?_;refine ud (kC S [83]) az fun n39 _ _ _ b0=>?_;refine g7 b0.g1 b0.g2 b0.g3 b0.g4 b0.g5 b0.g6 (M) ?_;refine ud (kC S [84]) b0 fun n40 _ _ _ b1=>?_;refine g7 b1.g1 b1.g2 b1.g3 b1.g4 b1.g5 b1.g6 (M) ?_;refine ud (gF S 31 []) b1 fun n41 _ _ _ b2=>?_;refine g7 b2.g1 b2.g2 b2.g3 b2.g4 b2.g5 b2.g6 (M) ?_;refine ud (eN S K TT hA cT dc [91,83,32,45,62,32,84,93] dc (x:=(nd 31 [] [(nm [83]),(nm [84])])) (aJ (.vec (EV.cons (aJ .nil) (EV.cons (aJ .nil) EV.nil)))) rfl (Nat.le_of_ble_eq_true rfl) sn13) b2 fun n42 _ _ _ b3=>?_;refine g7 b3.g1 b3.g2 b3.g3 b3.g4 b3.g5 b3.g6 (M) ?_;refine ud (kC S [83]) b3 fun n43 _ _ _ b4=>?_;refine g7 b4.g1 b4.g2 b4.g3 b4.g4 b4.g5 b4.g6 (M) ?_;refine ud (gF S 34 [97]) b4 fun n44 _ _ _ b5=>?_;refine g7 b5.g1 b5.g2 b5.g3 b5.g4 b5.g5 b5.g6 (M) ?_;refine ud (gF S 33 []) b5 fun n45 _ _ _ b6=>?_;refine g7 b6.g1 b6.g2 b6.g3 b6.g4 b6.g5 b6.g6 (M) ?_;refine ud (eN S K TT hA cT dc [91,97,32,58,32,83,93] dc (x:=(nd 33 [] [(nd 34 [97] [(nm [83])])])) (aJ (.vec (EV.cons (aJ (.vec (EV.cons (aJ .nil) EV.nil))) EV.nil))) rfl (Nat.le_of_ble_eq_true rfl) sn14) b6 fun n46 _ _ _ a1=>?_;refine g7 a1.g1 a1.g2 a1.g3 a1.g4 a1.g5 a1.g6 (M) ?_;refine qCT fun _ _ _=>?_;refine z6 a1.g1 a1.g2 a1.g3 a1.g4 a1.g5 a1.g6 ?_;refine qCP [(15,16),(16,18),(17,18)] [(16,18),(17,18)] kr ?_;refine g7 a1.g1 a1.g2 a1.g3 a1.g4 a1.g5 a1.g6 (M) ?_;refine ud (gF S 28 []) a1 fun n47 _ _ _ b7=>?_;refine g7 b7.g1 b7.g2 b7.g3 b7.g4 b7.g5 b7.g6 (M) ?_;refine ud (eN S K TT hA cT dc [123,120,32,92,105,110,32,83,32,58,32,97,125] dc (x:=(nd 28 [] [(nd 26 [] [(nm [120]),(nm [83])]),(nm [97])])) (aJ (.vec (EV.cons (aJ (.vec (EV.cons (aJ .nil) (EV.cons (aJ .nil) EV.nil)))) (EV.cons (aJ .nil) EV.nil)))) rfl (Nat.le_of_ble_eq_true rfl) sn15) b7 fun n48 _ _ _ b8=>?_;refine g7 b8.g1 b8.g2 b8.g3 b8.g4 b8.g5 b8.g6 (M) ?_;refine ud (gF S 29 []) b8 fun n49 _ _ _ b9=>?_;refine g7 b9.g1 b9.g2 b9.g3 b9.g4 b9.g5 b9.g6 (M) ?_;refine ud (eN S K TT hA cT dc [123,120,32,58,32,120,32,92,105,110,32,83,125] dc (x:=(nd 29 [] [(nm [120]),(nd 26 [] [(nm [120]),(nm [83])])])) (aJ (.vec (EV.cons (aJ .nil) (EV.cons (aJ (.vec (EV.cons (aJ .nil) (EV.cons (aJ .nil) EV.nil)))) EV.nil)))) rfl (Nat.le_of_ble_eq_true rfl) sn16) b9 fun n50 _ _ _ ba=>?_;refine g7 ba.g1 ba.g2 ba.g3 ba.g4 ba.g5 ba.g6 (M) ?_;refine ud (kC S [83]) ba fun n51 _ _ _ bb=>?_;refine g7 bb.g1 bb.g2 bb.g3 bb.g4 bb.g5 bb.g6 (M) ?_;refine ud (gY S [92,105,110] (aJ .nil) (aJ .nil)) bb fun n52 _ _ _ bc=>?_;refine g7 bc.g1 bc.g2 bc.g3 bc.g4 bc.g5 bc.g6 (M) ?_;refine ud (gF S 29 []) bc fun n53 _ _ _ bd=>?_;refine g7 bd.g1 bd.g2 bd.g3 bd.g4 bd.g5 bd.g6 (M) ?_;refine ud (eN S K TT hA cT dc [123,40,120,32,92,105,110,32,83,41,32,58,32,120,32,92,105,110,32,83,125] dc (x:=(nd 29 [] [(nd 21 [92,105,110] [(nm [120]),(nm [83])]),(nd 26 [] [(nm [120]),(nm [83])])])) (aJ (.vec (EV.cons (aJ (.vec (EV.cons (aJ .nil) (EV.cons (aJ .nil) EV.nil)))) (EV.cons (aJ (.vec (EV.cons (aJ .nil) (EV.cons (aJ .nil) EV.nil)))) EV.nil)))) rfl (Nat.le_of_ble_eq_true rfl) sn17) bd fun n54 _ _ _ a2=>?_;refine g7 a2.g1 a2.g2 a2.g3 a2.g4 a2.g5 a2.g6 (M) ?_;refine qCT fun _ _ _=>?_;refine z6 a2.g1 a2.g2 a2.g3 a2.g4 a2.g5 a2.g6 ?_;refine qCP [(0,1),(0,4),(1,4),(3,4)] [(0,1),(0,4),(3,4)] kr ?_;refine g7 a2.g1 a2.g2 a2.g3 a2.g4 a2.g5 a2.g6 (M) ?_;refine ud (kL S 12 [120] .sl0 rfl rfl) a2 fun n55 _ _ _ be=>?_;refine g7 be.g1 be.g2 be.g3 be.g4 be.g5 be.g6 (M) ?_;refine ud (gF S 49 []) be fun n56 _ _ _ O=>?_;refine g7 O.g1 O.g2 O.g3 O.g4 O.g5 O.g6 (M) ?_;refine eL.lt om fun eg _ _ ea=>?_;have ei:n56<eg:=aN ea (x:=.cells (bP 49 [] (.vec [aO 12 [120] .sl0,aO 14 [120] .sl0] 8 true))) (y2 @bP.eq_1 @qCG);refine z6 O.g1 O.g2 O.g3 O.g4 O.g5 O.g6 ?_;refine qCP [(0,1)] [(0,1)] kr ?_;refine g7 O.g1 O.g2 O.g3 O.g4 O.g5 O.g6 (M) ?_
 refine qCN (fun _=>False) (fun _ _ h=>h.elim) ((kL S 50 [43] .sl0 rfl rfl).use fun n57 _ _ _ a8=>?_);have bi:=(a8 (n4) om).trans ((y3 O.g1 @bP.eq_1 @qCG):_=some (aK.cells (bP 14 [97] .sl0)));have d8:n4<n56+1:=om;have bm:=(a8 (n4+1) om).trans ((y3 O.g2 @bP.eq_1 @qCG):_=some (aK.cells (bP 14 [98] .sl0)));have dd:n4+1<n56+1:=om;have bu:=(a8 (n4+1+1) om).trans ((y3 O.g3 @bP.eq_1 @qCG):_=some (aK.cells (bP 14 [99] .sl0)));have di:n4+1+1<n56+1:=om;have c5:=(a8 (n4+1+1+1) om).trans ((y3 O.g4 @bP.eq_1 @qCG):_=some (aK.cells (bP 14 [100] .sl0)));have dn:n4+1+1+1<n56+1:=om;have cg:=(a8 (n11) om).trans ((y3 O.g5 @bP.eq_1 @qCG):_=some (aK.cells (bP 14 [120] .sl0)));have dz:n11<n56+1:=om;have cc:=(a8 (n31) om).trans ((y3 O.g6 @bP.eq_1 @qCG):_=some (aK.cells (bP 26 [] (.vec [aO 14 [120] .sl0,aO 14 [83] .sl0] 8 true))));have dv:n31<n56+1:=om;have c7:=(a8 (n56) om).trans ((y2 @bP.eq_1 @qCG):_=some (aK.cells (bP 49 [] (.vec [aO 12 [120] .sl0,aO 14 [120] .sl0] 8 true))));have dq:n56<n56+1:=om
 try simp only[bP,aO]at bi
 try simp only[bP,aO]at bm
 try simp only[bP,aO]at bu
 try simp only[bP,aO]at c5
 try simp only[bP,aO]at cg
 try simp only[bP,aO]at cc
 try simp only[bP,aO]at c7
 have ed:=(bX.cons bi d8 (bX.cons bm dd (bX.cons bu di (bX.cons c5 dn (bX.cons cg dz (bX.cons cc dv (bX.cons c7 dq bX.nil)))))));refine g8 bi bm bu c5 cg cc c7 (M) ?_;refine ud (gF S 15 [70,111,108,100]) ed fun n58 _ _ _ ak=>?_;refine g8 ak.g1 ak.g2 ak.g3 ak.g4 ak.g5 ak.g6 ak.g7 (M) ?_;refine ud (eN S K TT hA cT dc [70,111,108,100,40,43,44,32,76,65,77,66,68,65,32,120,32,58,32,120,41] dc (x:=(nd 15 [70,111,108,100] [(nd 50 [43] []),(nd 49 [] [(nd 12 [120] []),(nm [120])])])) (aJ (.vec (EV.cons (aJ .nil) (EV.cons (aJ (.vec (EV.cons (aJ .nil) (EV.cons (aJ .nil) EV.nil)))) EV.nil)))) rfl (Nat.le_of_ble_eq_true rfl) sn18) ak fun n59 _ _ _ al=>?_;refine g8 al.g1 al.g2 al.g3 al.g4 al.g5 al.g6 al.g7 (M) ?_;refine ud (mG S K TT hA cT dc [97,32,98] dc 2 30 sn19) al fun n60 _ _ _ an=>?_;refine g8 an.g1 an.g2 an.g3 an.g4 an.g5 an.g6 an.g7 (M) ?_;refine ud (mG S K TT hA cT dc [40,97] dc 2 30 sn20) an fun n61 _ _ _ a5=>?_;refine g8 a5.g1 a5.g2 a5.g3 a5.g4 a5.g5 a5.g6 a5.g7 (M) ?_;refine qCT fun _ _ _=>?_;refine z7 a5.g1 a5.g2 a5.g3 a5.g4 a5.g5 a5.g6 a5.g7 ?_;obtain⟨y,hy,py,cy,sy⟩:=Rp snM;refine qCK (Ws S K TT hA cT dc [45,45,45,45,32,77,79,68,85,76,69,32,77,32,45,45,45,45,32,86,65,82,73,65,66,76,69,32,120,32,92,105,110,32,83,32,73,110,105,116,32,61,61,32,120,32,61,32,97,32,61,61,61,61] dc (fun hc=>by rw[hy]at hc;cases hc) (fun z hz u n62 _ ez _ _ e8=>?_) fun e he=>by rw[hy]at he;cases he);obtain rfl:y=z:=Except.ok.inj (hy.symm.trans hz);obtain⟨cs,rfl,ai,ah,_⟩:=ez.shape;have ht:List.take 8 cs=cs:=List.take_of_length_le om;have U:=a5.keep e8 om;refine z11 U.g1 U.g2 U.g3 U.g4 U.g5 U.g6 U.g7 ai ht ah @aB ?_;refine qCP [(3,4),(3,6),(3,8),(4,9),(6,9),(8,9),(4,10),(6,10),(8,10),(3,11),(3,13),(3,15)] [(4,9),(6,9),(8,9),(4,10),(6,10),(8,10)] kr ?_;refine vW U.g1 U.g2 U.g3 U.g4 U.g5 U.g6 U.g7 (M) ai ht ah ?_;refine qCN (fun _=>False) (fun _ _ h=>h.elim) ((kC S [83]).use fun n63 _ _ _ a6=>?_);have bj:=(a6 (n4) om).trans ((y3 U.g1 @bP.eq_1 @qCG):_=some (aK.cells (bP 14 [97] .sl0)));have d9:n4<n62+1:=om;have bp:=(a6 (n4+1) om).trans ((y3 U.g2 @bP.eq_1 @qCG):_=some (aK.cells (bP 14 [98] .sl0)));have de:n4+1<n62+1:=om;have bv:=(a6 (n4+1+1) om).trans ((y3 U.g3 @bP.eq_1 @qCG):_=some (aK.cells (bP 14 [99] .sl0)));have dj:n4+1+1<n62+1:=om;have c6:=(a6 (n4+1+1+1) om).trans ((y3 U.g4 @bP.eq_1 @qCG):_=some (aK.cells (bP 14 [100] .sl0)));have dp:n4+1+1+1<n62+1:=om;have ch:=(a6 (n11) om).trans ((y3 U.g5 @bP.eq_1 @qCG):_=some (aK.cells (bP 14 [120] .sl0)));have e0:n11<n62+1:=om;have cd:=(a6 (n31) om).trans ((y3 U.g6 @bP.eq_1 @qCG):_=some (aK.cells (bP 26 [] (.vec [aO 14 [120] .sl0,aO 14 [83] .sl0] 8 true))));have dw:n31<n62+1:=om;have c8:=(a6 (n56) om).trans ((y3 U.g7 @bP.eq_1 @qCG):_=some (aK.cells (bP 49 [] (.vec [aO 12 [120] .sl0,aO 14 [120] .sl0] 8 true))));have dr:n56<n62+1:=om;have c9:=(a6 (n62) om).trans ((y2 @bP.eq_1 @qCG):_=some (aK.cells (cs)));have dt:n62<n62+1:=om
 try simp only[bP,aO]at bj
 try simp only[bP,aO]at bp
 try simp only[bP,aO]at bv
 try simp only[bP,aO]at c6
 try simp only[bP,aO]at ch
 try simp only[bP,aO]at cd
 try simp only[bP,aO]at c8
 try simp only[bP,aO]at c9
 have ee:=(bX.cons bj d9 (bX.cons bp de (bX.cons bv dj (bX.cons c6 dp (bX.cons ch e0 (bX.cons cd dw (bX.cons c8 dr (bX.cons c9 dt bX.nil))))))));refine Bg bj bp bv c6 ch cd c8 c9 (M) ai ht ah ?_;refine ud (gF S 13 [120]) ee fun n64 _ _ _ ab=>?_;refine Bg ab.g1 ab.g2 ab.g3 ab.g4 ab.g5 ab.g6 ab.g7 ab.g8 (M) ai ht ah ?_;refine ud (gF S 4 []) ab fun n65 _ _ _ ac=>?_;refine Bg ac.g1 ac.g2 ac.g3 ac.g4 ac.g5 ac.g6 ac.g7 ac.g8 (M) ai ht ah ?_;refine ud (gY S [61] (aJ .nil) (aJ .nil)) ac fun n66 _ _ _ ad=>?_;refine Bg ad.g1 ad.g2 ad.g3 ad.g4 ad.g5 ad.g6 ad.g7 ad.g8 (M) ai ht ah ?_;refine ud (gF S 8 [73,110,105,116]) ad fun n67 _ _ _ ae=>?_;refine Bg ae.g1 ae.g2 ae.g3 ae.g4 ae.g5 ae.g6 ae.g7 ae.g8 (M) ai ht ah ?_;refine ud (gF S 1 [77]) ae fun n68 _ _ _ ag=>?_;refine Bg ag.g1 ag.g2 ag.g3 ag.g4 ag.g5 ag.g6 ag.g7 ag.g8 (M) ai ht ah ?_;refine ud (HD S y.cnt y (nd 1 [77] [(nd 4 [] [(nd 13 [120] [(nm [83])])]),(nd 8 [73,110,105,116] [(nd 21 [61] [(nm [120]),(nm [97])])])]) _ _ ez (aJ (.vec (EV.cons (aJ (.vec (EV.cons (aJ (.vec (EV.cons (aJ .nil) EV.nil))) EV.nil))) (EV.cons (aJ (.vec (EV.cons (aJ (.vec (EV.cons (aJ .nil) (EV.cons (aJ .nil) EV.nil)))) EV.nil))) EV.nil)))) py rfl (Nat.le_refl _) (Nat.le_of_ble_eq_true rfl) cy) ag fun n69 _ _ _ ao=>?_;rw[sy];refine Bg ao.g1 ao.g2 ao.g3 ao.g4 ao.g5 ao.g6 ao.g7 ao.g8 (M) ai ht ah ?_;refine qCT fun _ _ _=>?_;refine zz ?_;exact qC9<|rfl
def qCF:=@bP.eq_1
end
end Go.Proofs.Pa
namespace Go.Proofs.Pa
open Go.Ez
def bB (a:List UInt8×oQ):Bool:=MI a || aV.all fun b=>MI b || Ii a b
def oF (a:List UInt8×oQ):Bool:=aV.all fun b=>MI b || Ij a b
theorem Wu {α:Type}(p:α->Bool)(l:List α)(n:Nat)(h1:(l.take n).all p=true)(h2:(l.drop n).all p=true):l.all p=true:=by
 rw[<- List.take_append_drop n l,List.all_append,h1,h2]
 rfl
theorem cU {α:Type}(p:α->Bool)(l:List α)(k n:Nat)(h1:((l.drop k).take n).all p=true)(h2:(l.drop (k+n)).all p=true):(l.drop k).all p=true:=
 Wu p _ n h1 (by rw[List.drop_drop];exact h2)
theorem inf0:((aV.drop 0).take 2).all bB=true:=kr
theorem inf2:((aV.drop 2).take 2).all bB=true:=kr
theorem inf4:((aV.drop 4).take 2).all bB=true:=kr
theorem inf6:((aV.drop 6).take 2).all bB=true:=kr
theorem inf8:((aV.drop 8).take 2).all bB=true:=kr
theorem XD:((aV.drop 10).take 2).all bB=true:=kr
theorem XE:((aV.drop 12).take 2).all bB=true:=kr
theorem XF:((aV.drop 14).take 2).all bB=true:=kr
theorem XG:((aV.drop 16).take 2).all bB=true:=kr
theorem XH:((aV.drop 18).take 2).all bB=true:=kr
theorem XI:((aV.drop 20).take 2).all bB=true:=kr
theorem XJ:((aV.drop 22).take 2).all bB=true:=kr
theorem XK:((aV.drop 24).take 2).all bB=true:=kr
theorem XL:((aV.drop 26).take 2).all bB=true:=kr
theorem XM:((aV.drop 28).take 2).all bB=true:=kr
theorem XN:((aV.drop 30).take 2).all bB=true:=kr
theorem XO:((aV.drop 32).take 2).all bB=true:=kr
theorem XP:((aV.drop 34).take 2).all bB=true:=kr
theorem XQ:((aV.drop 36).take 2).all bB=true:=kr
theorem XR:((aV.drop 38).take 2).all bB=true:=kr
theorem XS:((aV.drop 40).take 2).all bB=true:=kr
theorem XT:((aV.drop 42).take 2).all bB=true:=kr
theorem XU:((aV.drop 44).take 2).all bB=true:=kr
theorem XV:((aV.drop 46).take 2).all bB=true:=kr
theorem XW:((aV.drop 48).take 2).all bB=true:=kr
theorem XY:((aV.drop 50).take 2).all bB=true:=kr
theorem XZ:((aV.drop 52).take 2).all bB=true:=kr
theorem YA:((aV.drop 54).take 2).all bB=true:=kr
theorem YB:((aV.drop 56).take 2).all bB=true:=kr
theorem pre0:((jD.drop 0).take 3).all oF=true:=kr
theorem pre3:((jD.drop 3).take 3).all oF=true:=kr
theorem pre6:((jD.drop 6).take 3).all oF=true:=kr
theorem FM:(aV.all fun a=>MI a || Ck a)=true:=kr
theorem GU:(jD.all sM)=true:=kr
theorem RN:(aV.drop 58).all bB=true:=rfl
theorem Zn:(aV.drop 56).all bB=true:=cU bB aV 56 2 YB RN
theorem Zm:(aV.drop 54).all bB=true:=cU bB aV 54 2 YA Zn
theorem Zl:(aV.drop 52).all bB=true:=cU bB aV 52 2 XZ Zm
theorem Zk:(aV.drop 50).all bB=true:=cU bB aV 50 2 XY Zl
theorem Zj:(aV.drop 48).all bB=true:=cU bB aV 48 2 XW Zk
theorem Zi:(aV.drop 46).all bB=true:=cU bB aV 46 2 XV Zj
theorem Zh:(aV.drop 44).all bB=true:=cU bB aV 44 2 XU Zi
theorem Zg:(aV.drop 42).all bB=true:=cU bB aV 42 2 XT Zh
theorem Zf:(aV.drop 40).all bB=true:=cU bB aV 40 2 XS Zg
theorem Ze:(aV.drop 38).all bB=true:=cU bB aV 38 2 XR Zf
theorem Zd:(aV.drop 36).all bB=true:=cU bB aV 36 2 XQ Ze
theorem Zc:(aV.drop 34).all bB=true:=cU bB aV 34 2 XP Zd
theorem Zb:(aV.drop 32).all bB=true:=cU bB aV 32 2 XO Zc
theorem Za:(aV.drop 30).all bB=true:=cU bB aV 30 2 XN Zb
theorem Yz:(aV.drop 28).all bB=true:=cU bB aV 28 2 XM Za
theorem Yy:(aV.drop 26).all bB=true:=cU bB aV 26 2 XL Yz
theorem Yx:(aV.drop 24).all bB=true:=cU bB aV 24 2 XK Yy
theorem Yw:(aV.drop 22).all bB=true:=cU bB aV 22 2 XJ Yx
theorem Yv:(aV.drop 20).all bB=true:=cU bB aV 20 2 XI Yw
theorem Yu:(aV.drop 18).all bB=true:=cU bB aV 18 2 XH Yv
theorem Yt:(aV.drop 16).all bB=true:=cU bB aV 16 2 XG Yu
theorem Ys:(aV.drop 14).all bB=true:=cU bB aV 14 2 XF Yt
theorem Yr:(aV.drop 12).all bB=true:=cU bB aV 12 2 XE Ys
theorem Yq:(aV.drop 10).all bB=true:=cU bB aV 10 2 XD Yr
theorem FL:(aV.drop 8).all bB=true:=cU bB aV 8 2 inf8 Yq
theorem FK:(aV.drop 6).all bB=true:=cU bB aV 6 2 inf6 FL
theorem FJ:(aV.drop 4).all bB=true:=cU bB aV 4 2 inf4 FK
theorem FI:(aV.drop 2).all bB=true:=cU bB aV 2 2 inf2 FJ
theorem FH:(aV.drop 0).all bB=true:=cU bB aV 0 2 inf0 FI
theorem SH:(jD.drop 9).all oF=true:=rfl
theorem GT:(jD.drop 6).all oF=true:=cU oF jD 6 3 pre6 SH
theorem GR:(jD.drop 3).all oF=true:=cU oF jD 3 3 pre3 GT
theorem GQ:(jD.drop 0).all oF=true:=cU oF jD 0 3 pre0 GR
theorem AH:Plain:=by
 refine⟨fun a U M b hb O=>?_,fun a U M=>?_,fun a U b hb O=>?_,fun a U=>?_⟩
 .have h1:=(List.all_eq_true.1 FH) a U;unfold bB at h1;rw[M,Bool.false_or]at h1;have h2:=(List.all_eq_true.1 h1) b hb;rw[O,Bool.false_or]at h2;exact h2
 .have h1:=(List.all_eq_true.1 FM) a U;rw[M,Bool.false_or]at h1;exact h1
 .have h1:=(List.all_eq_true.1 GQ) a U;unfold oF at h1;have h2:=(List.all_eq_true.1 h1) b hb;rw[O,Bool.false_or]at h2;exact h2
 .exact(List.all_eq_true.1 GU) a U
end Go.Proofs.Pa
namespace Go.Proofs.Pa
open Go.Ez Go.Proofs.Vt
def TC (f:FuncId):Option (List AV->C aS):=if f=202 then some Tj else if f=210 then some xU else none
theorem OS:Seat TC IP:=⟨fun f M=>by
 unfold TC;rw[if_neg (fun h=>M (by simp[h])),if_neg (fun h=>M (by simp[h]))],HE.kp⟩
theorem RI {Gl:qC6}(hfree:mR Gl)(H:Gz Gl):CU Tryz.prog Gl TC:=by
 intro w0 B f g M args n h out e O;unfold TC at M;split at M
 .rename_i hf;subst hf;obtain rfl:=Option.some.inj M;exact Qc hfree H w0 B args n h out e O
 .split at M
  .rename_i hf;subst hf;obtain rfl:=Option.some.inj M;exact Ak w0 B args n h out e O
  .cases M
theorem AJ {Gl:qC6}(hfree:mR Gl)(hA:Gl 1=some dL)(H:Gz Gl)(p q:List UInt8) :
  ∃ Gm Kp fuel out,CU Tryz.prog Gl Gm/\fT Tryz.prog Gl Gm Kp fuel 3 [.str p,.str q] 0 []=some out/\out.val=.returned (.bool true):=by
 have M:mE Gl TC IP:=HQ rfl;have hp:=Il OS (Gl:=Gl) FX rfl M hA (SJ OS FX M hA) AH p q;obtain⟨F,out,e,fr,_,O⟩:=(hp 0 [] (fun e _ _=>e=.returned (.bool true)) fun _ _ _ _ _=>rfl).ok (fun _ _=>rfl);exact⟨TC,IP,F,out,RI hfree H,e,O out.nx (Nat.le_refl _) fr.lt⟩
end Go.Proofs.Pa
namespace Go.Ez
section
variable {P:Program}{Gl:qC6}{w0:Base}{B:Nat}{Gm:qC7}{Kp:qC8}
theorem pre_ops (A:∀ fuel,pL P Gl w0 B Gm Kp fuel)(ops:Array Oper):∀(l:List Oper) (F:Nat) (a:bE) (n:Nat) (h:Hp) (out:Out (mQ×bE)),eS P Gl Gm Kp F ops l a n h=some out->aE n h->out.val.1=.normal->
  Fr n h out/\∀(K:cG) (G:Gh) (w:World) (ro:Option Nat) (ca:Act),St w0 B Gl K G w n out.hi h (out.rd|||out.wr)->eT G ro a ca->∀(Q:Exit->Act->World->Prop) (is rest:List Nat),is.map (fun i=>ops[i]?)=l.map some->
   (∀ G' ca' w',eU G G' n out.nx->eO w0 B (K.merge out) G' w'->eT G' ro out.val.2 ca'->wpOpsIn (Fw ro) 0 P ops Q rest ca' w')->wpOpsIn (Fw ro) 0 P ops Q (is++rest) ca w
 |[],F,a,n,h,out,e,hl,hx=>by
  have e':out={val:=(.normal,a),nx:=n,hi:=n,hp:=h,rd:=0,wr:=0}:=by
   cases F<;>(unfold eS at e;cases e;rfl)
  subst e';refine⟨Fr.ret _ hl,fun K G w ro ca st O Q is rest M hq=>?_⟩;have:is=[]:=(by simpa using M);subst this;exact hq G ca w (eU.refl _ _ _) (by rw[gV];exact st.rel) O
 |o::r,F,a,n,h,out,e,hl,hx=>by
  cases F with
  |zero=>unfold eS at e;cases e
  |succ F=>
  unfold eS at e;cases hg:cI ops a o with
  |false=>rw[hg]at e;cases e
  |true=>
   rw[hg]at e;simp only[cond_true]at e;cases hw:dY ops a o with
   |false=>
    rw[hw]at e;simp only[cond_false]at e;obtain⟨f1,k1⟩:=pre_ops A ops r F _ _ _ _ e hl hx;refine⟨f1,fun K G w ro ca st O Q is rest M hq=>?_⟩;cases is with
    |nil=>simp at M
    |cons i is=>
     simp only[List.map_cons,List.cons.injEq]at M;simp only[List.cons_append,wpOpsIn,M.1,dO O.tmps hg,hw];exact⟨fun _ _=>trivial,k1 K G w ro _ st (O.put o.dst (by simp only[aF])) Q is rest M.2 hq⟩
   |true=>
    rw[hw]at e;simp only[cond_true]at e;obtain⟨m,p,e1,Y,rfl⟩:=C.bind_some e;obtain⟨f1,k1⟩:=(A F).op _ _ _ _ _ e1 hl;cases hv:m.val with
    |put x=>
     rw[hv]at Y;obtain⟨f2,k2⟩:=pre_ops A ops r F _ _ _ _ Y f1.lt hx;refine⟨f1.seq f2,fun K G w ro ca st O Q is rest M hq=>?_⟩;cases is with
     |nil=>simp at M
     |cons i is=>
      simp only[List.map_cons,List.cons.injEq]at M;simp only[List.cons_append,wpOpsIn,M.1,dO O.tmps hg,hw,if_true];refine⟨fun _ _=>trivial,k1 K G w ro ca st.left O _ _ fun G1 w1 g1 g2=>?_⟩;rw[hv];exact fun v a7=>k2 _ G1 w1 ro _ (st.right f1 g1 g2) ((O.mono g1.le).put o.dst a7) Q is rest M.2 (fun G2 U w2 a1 a2 a4=>
       hq G2 U w2 (eU.seq f1 f2 g1 a1) (by rw[<- cO f2];exact a2) a4)
    |dfr d=>
     rw[hv]at Y;obtain⟨f2,k2⟩:=pre_ops A ops r F _ _ _ _ Y f1.lt hx;refine⟨f1.seq f2,fun K G w ro ca st O Q is rest M hq=>?_⟩;cases is with
     |nil=>simp at M
     |cons i is=>
      simp only[List.map_cons,List.cons.injEq]at M;simp only[List.cons_append,wpOpsIn,M.1,dO O.tmps hg,hw,if_true];refine⟨fun _ _=>trivial,k1 K G w ro ca st.left O _ _ fun G1 w1 g1 g2=>?_⟩;rw[hv];intro dd a6;have a3:=O.mono g1.le;have a5:eT G1 ro {a with defers:=d::a.defers} {ca with defers:=dd::ca.defers}:=⟨a3.tmps,⟨dd,_,rfl,a6,a3.defers⟩,a3.rnd⟩;exact k2 _ G1 w1 ro _ (st.right f1 g1 g2) (a5.put o.dst (by simp only[aF])) Q is rest M.2 (fun G2 U w2 a1 a2 a4=>
       hq G2 U w2 (eU.seq f1 f2 g1 a1) (by rw[<- cO f2];exact a2) a4)
    |pan x=>
     rw[hv]at Y;simp only[C.ret,Option.some.injEq]at Y;subst Y;cases hx
end
section
variable {w0:Base}{B:Nat}{K K2:cG}{G G2:Gh}{w w2:World}
theorem eO.rebase (h:eO w0 B K G w)(X:Nat->Prop)(hX:∀ b,X b->b<w.heap.size)(hap:∀ o x I,K o=some x->G.nm o=some I->¬X I.blk):eO {toWorld:=w,S0:=G.S,X0:=X} B K G w where
 os:=rfl
 out:=rfl
 tape:=rfl
 size:=h.size
 old:=fun _ _=>rfl
 S:=h.S
 obj:=h.obj
 inj:=h.inj
 sep:=h.sep
 low:=fun _ _ _ _ M=>M
 stay:=fun b hb=>⟨rfl,hX b hb⟩
 apart:=hap
theorem eO.unbase (h:eO w0 B K G w){X:Nat->Prop}(hsub:∀ b,w0.X0 b->X b)(h2:eO {toWorld:=w,S0:=G.S,X0:=X} B K2 G2 w2):eO w0 B K2 G2 w2 where
 os:=h2.os.trans h.os
 out:=h2.out.trans h.out
 tape:=h2.tape.trans h.tape
 size:=h2.size
 old:=fun b hb=>(h2.old b hb).trans (h.old b hb)
 S:=h2.S
 obj:=h2.obj
 inj:=h2.inj
 sep:=h2.sep
 low:=fun b i v hb U=>h.low b i v hb (h2.low b i v hb U)
 stay:=fun b hb=>⟨(h2.stay b (hsub b hb)).1.trans (h.stay b hb).1,(h2.stay b (hsub b hb)).2⟩
 apart:=fun o x I Y M O=>h2.apart o x I Y M (hsub _ O)
end
open Go.ChangeMaps (setBlock)
section
variable {P:Program}{Gl:qC6}{Gm:qC7}{Kp:qC8}
structure iS (Gl:qC6)(w0:Base)(B L:Nat)(X:Nat->Obj->Prop)(ds:List mP)(E:Env)(n:Nat)(h:Hp)(G:Gh)(ca:Act)(w:World):Prop where
 lt:aE n h
 rel:eO w0 B h.get G w
 fresh:∀ o,n<=o->G.nm o=none
 gl:Pg G Gl
 keep:∀ b ob,X b ob->B<=b/\w.heap[b]?=some ob
 apart:∀ b ob,X b ob->∀ o x I,h.get o=some x->G.nm o=some I->I.blk≠b
 act:∃ a,Env.at ⟨L,ds,none⟩ E a/\eT G none a ca
theorem yA {α:Type}{n:Nat}{h:Hp}{out:Out α}(f:Fr n h out):cG.merge h.get out=out.hp.get:=by
 funext t
 unfold cG.merge;cases e:out.wr.testBit t with
 |true=>simp
 |false=>simpa using(f.keep t e).symm
theorem eO.turn {w0:Base}{B:Nat}{K:cG}{G:Gh}{w w':World}(h:eO w0 B K G w){r:Nat}(hB:B<=r)(h0:¬w0.X0 r)(hap:∀ o x I,K o=some x->G.nm o=some I->I.blk≠r)(hS:∀ i,G.S r i=none)
  (ho:∀ b,b≠r->w'.heap[b]?=w.heap[b]?) (hs:w'.heap.size=w.heap.size) (h1:w'.os=w.os) (h2:w'.output=w.output) (h3:w'.tape=w.tape):eO w0 B K G w':=by
 refine⟨h1.trans h.os,h2.trans h.out,h3.trans h.tape,hs ▸ h.size,fun b hb=>(ho b om).trans (h.old b hb),fun b i v O=>?_,fun o x Y=>?_,h.inj,h.sep,h.low,fun b hb=>⟨(ho b fun e=>h0 (e ▸ hb)).trans (h.stay b hb).1,hs ▸ (h.stay b hb).2⟩,h.apart⟩
 .have M:b≠r:=by
   rintro rfl;rw[hS i]at O;cases O
  have:=h.S b i v O;unfold World.cell? at this ⊢;simp only at this ⊢;rw[ho b M];exact this
 .obtain⟨I,ob,U,e2,e3,e4⟩:=h.obj o x Y;exact⟨I,ob,U,e2,(ho _ (hap o x I Y U)).trans e3,e4⟩
theorem DC {w0:Base}{B:Nat}{K:cG}{G:Gh}{w:World}(h:eO w0 B K G w){b:Nat}{ob:Obj}(hb:w.heap[b]?=some ob)(hn:∀ us el fz,ob≠.cells us el fz)(i:Nat):G.S b i=none:=by
 cases hv:G.S b i with
 |none=>rfl
 |some v=>
  have:=h.S b i v hv;unfold World.cell? at this;simp only[hb]at this;cases ob with
  |cells us el fz=>exact absurd rfl (hn us el fz)
  |_=>cases this
variable {w0:Base}{B L n:Nat}{X:Nat->Obj->Prop}{ds:List mP}{E:Env}{h:Hp}{G:Gh}{ca:Act}{w:World}
theorem iS.base (S:iS Gl w0 B L X ds E n h G ca w):eO {toWorld:=w,S0:=G.S,X0:=fun b=>∃ ob,X b ob} B h.get G w:=
 S.rel.rebase (fun b=>∃ ob,X b ob) (fun b ⟨ob,hb⟩=>(Array.getElem?_eq_some_iff.1 (S.keep b ob hb).2).1) (fun o x I hx hI ⟨ob,hb⟩=>S.apart _ ob hb o x I hx hI rfl)
theorem iS.step (hw0:∀ b,¬w0.X0 b)(S:iS Gl w0 B L X ds E n h G ca w){α:Type}{out:Out α}{G':Gh}{w':World}(f:Fr n h out)(g1:eU G G' n out.nx)
  (g2:eO {toWorld:=w,S0:=G.S,X0:=fun b=>∃ ob,X b ob} B (cG.merge h.get out) G' w') {L':Nat}{ds':List mP}{E':Env}{ca':Act} (act:∃ a,Env.at ⟨L',ds',none⟩ E' a/\eT G' none a ca'):iS Gl w0 B L' X ds' E' out.nx out.hp G' ca' w':=by
 rw[yA f]at g2;refine⟨f.lt,S.rel.unbase (fun b hb=>(hw0 b hb).elim) g2,fun o O=>?_,S.gl.mono g1.le,fun b ob hb=>⟨(S.keep b ob hb).1,(g2.stay b ⟨ob,hb⟩).1.trans (S.keep b ob hb).2⟩,fun b ob hb o x I U M e=>g2.apart o x I U M ⟨ob,e ▸ hb⟩,act⟩;cases hG:G'.nm o with
 |none=>rfl
 |some I=>
  cases hg:G.nm o with
  |none=>have:=g1.nm o I hG hg;omega
  |some J=>have:=S.fresh o (Nat.le_trans f.le O);rw[hg]at this;cases this
theorem iS.code (A:∀ fuel w0 B,pL P Gl w0 B Gm Kp fuel)(hw0:∀ b,¬w0.X0 b)(S:iS Gl w0 B L X ds E n h G ca w){c:Code}{k:dZ}(W:bF P Gl Gm Kp ⟨L,ds,none⟩ c E n h (fun _=>True) k){Q:Exit->Act->World->Prop}
  (hQ:∀ ex E' n' h' G' e ca' w',iS Gl w0 B L X ds E' n' h' G' ca' w'->n<=n'->G.le G'->k ex E' n' h'->fN G' ex e->Q e ca' w'):c.wpIn (Fw none) 0 P Q ca w:=by
 obtain⟨a,hE,O⟩:=S.act;obtain⟨F,out,E',e,fr,wr,M,U⟩:=W.ok a hE S.lt (fun _ _=>trivial);obtain⟨f1,k1⟩:=(A F {toWorld:=w,S0:=G.S,X0:=fun b=>∃ ob,X b ob} B).code c a n h out e S.lt;exact k1 h.get G w none ca ⟨fun _ _=>rfl,S.base,fun o h1 _=>S.fresh o h1,S.gl⟩ O Q fun G' ex ca' w' g1 g2 g3 g4=>hQ _ E' out.nx out.hp G' ex ca' w' (S.step hw0 fr g1 g2 ⟨_,M,g4⟩) fr.le g1.le U g3
theorem Aw {ops ops2:Array Oper}:∀(l:List Oper) (F:Nat) (a:bE),(∀ o ∈ l,o.guard=none)->eS P Gl Gm Kp F ops l a=eS P Gl Gm Kp F ops2 l a
 |[],F,a,_=>by cases F<;>(unfold eS;rfl)
 |o::l,0,a,_=>by unfold eS;rfl
 |o::l,F+1,a,hf=>by
  have M:=hf o List.mem_cons_self;have O:∀ a,eS P Gl Gm Kp F ops l a=eS P Gl Gm Kp F ops2 l a:=fun a=>Aw l F a fun o' h=>hf o' (List.mem_cons_of_mem _ h);unfold eS;simp only[cI,dY,M,cond_true,O]
theorem iS.ops (A:∀ fuel w0 B,pL P Gl w0 B Gm Kp fuel)(hw0:∀ b,¬w0.X0 b)(S:iS Gl w0 B L X ds E n h G ca w){ops:Array Oper}(l:List Oper)(is rest:List Nat)(his:is.map (fun i=>ops[i]?)=l.map some)(hfree:(l.all fun o=>o.guard.isNone)=true){post:Env->Nat->Hp->Prop}
  (hv:oL P Gl Gm Kp L (fun _=>True) (fun ex E' n' h'=>ex=.normal/\post E' n' h') l 0 [] E n h) {Q:Exit->Act->World->Prop}
  (hQ:∀ E' n' h' G' ca' w',iS Gl w0 B L X ds E' n' h' G' ca' w'->n<=n'->G.le G'->post E' n' h'->wpOpsIn (Fw none) 0 P ops Q rest ca' w'):wpOpsIn (Fw none) 0 P ops Q (is++rest) ca w:=by
 obtain⟨a,hE,O⟩:=S.act;obtain⟨F,out,E',e,fr,wr,M,hx,U⟩:=tQ (c:=⟨L,ds,none⟩) (ops:=l.toArray) l 0 [] E a n h (fun j=>by simp) (fun j d e=>by cases e) hE S.lt (fun _ _=>trivial) hv;rw[Aw (ops2:=ops) l F a fun o Y=>Option.isNone_iff_eq_none.1 (List.all_eq_true.1 hfree o Y)]at e;obtain⟨f1,k1⟩:=pre_ops (fun fuel=>A fuel {toWorld:=w,S0:=G.S,X0:=fun b=>∃ ob,X b ob} B) ops l F a n h out e S.lt hx;exact k1 h.get G w none ca ⟨fun _ _=>rfl,S.base,fun o h1 _=>S.fresh o h1,S.gl⟩ O Q is rest his fun G' ca' w' g1 g2 g3=>hQ E' out.nx out.hp G' ca' w' (S.step hw0 fr g1 g2 ⟨_,M,g3⟩) fr.le g1.le U
theorem rD {ops:Array Oper}{o:Oper}{i:Nat}{rest:List Nat}{Q:Exit->Act->World->Prop}(hi:ops[i]?=some o)(hg:o.guard=none){v:Value}{w':World}(hr:(execOp ca.eval o).run P w=.ok (.value v) w')
  (h:wpOpsIn (Fw none) 0 P ops Q rest (ca.put o.dst v) w'):wpOpsIn (Fw none) 0 P ops Q (i::rest) ca w:=by
 unfold wpOpsIn;simp only[hi];rw[if_pos (by unfold Region.wanted;rw[hg])];refine⟨fun _ _=>trivial,?_⟩;show o.uponIn (Fw none) 0 P ca _ Q ((o.semAt none ca.eval).run P w);rw[Oper.semAt_none,hr];exact h
theorem Fx {o:Oper}{it:Operand}{b:Bool}(ho:o.op=.next it b){x v:Value}{w':World}(hx:ca.eval it=x)(hr:(Instr.next x b o.type).run P w=.ok v w'):(execOp ca.eval o).run P w=.ok (.value v) w':=by
 unfold execOp;rw[ho];simp only[Sem.run_bind,hx,hr,Result.andThen_ok,Sem.run_pure]
theorem Ho {ops:Array Oper}{o:Oper}{i:Nat}{rest:List Nat}{Q:Exit->Act->World->Prop}{it:Operand}{r bm since c0 clock:Nat}{seen:Array Nat}{es:Array MapEntry}(hi:ops[i]?=some o)(hg:o.guard=none)(ho:o.op=.next it false)(hx:ca.eval it=.pointer (some ⟨r,0,none⟩))
  (hr:w.heap[r]?=some (.mapIter (some bm) since seen c0)) (hb:w.heap[bm]?=some (.map es clock)) (hold:∀ x ∈ es.toList,x.born<since) (hsc:since<=c0)
  (h1:(leftOf es seen).size=0->wpOpsIn (Fw none) 0 P ops Q rest (ca.put o.dst (.tuple #[.bool false])) w)
  (h2:∀ e w1,e ∈ (leftOf es seen).toList->(w1=w\/w1=w.drew)->wpOpsIn (Fw none) 0 P ops Q rest (ca.put o.dst (.tuple #[.bool true,e.key,e.val])) (setBlock w1 r (.mapIter (some bm) since (seen.push e.born) clock))):wpOpsIn (Fw none) 0 P ops Q (i::rest) ca w:=by
 rcases run_next_at (P:=P) w o.type r bm since c0 seen es clock hr hb hold hsc with⟨h0,hrun⟩ | ⟨e,he,w1,hw,hrun⟩
 .exact rD hi hg (Fx ho hx hrun) (h1 h0)
 .exact rD hi hg (Fx ho hx hrun) (h2 e w1 he hw)
theorem Qy {o:Oper}{it:Operand}(ho:o.op=.entry it){x v:Value}{w':World}(hx:ca.eval it=x)(hr:(Instr.entry x).run P w=.ok v w'):(execOp ca.eval o).run P w=.ok (.value v) w':=by
 unfold execOp;rw[ho];simp only[Sem.run_bind,hx,hr,Result.andThen_ok,Sem.run_pure]
theorem Qz {o:Oper}{t:TypeId}{it:Operand}(ho:o.op=.range t it){x v:Value}{w':World}(hx:ca.eval it=x)(hr:(Instr.range t x).run P w=.ok v w'):(execOp ca.eval o).run P w=.ok (.value v) w':=by
 unfold execOp;rw[ho];simp only[Sem.run_bind,hx,hr,Result.andThen_ok,Sem.run_pure]
theorem iS.put (S:iS Gl w0 B L X ds E n h G ca w){d:Option Tmp}(hd:iX L d=true){x:AV}{v:Value}(hv:aF G x v):iS Gl w0 B L X ds (E.put d x) n h G (ca.put d v) w:=by
 obtain⟨a,hE,M⟩:=S.act;exact {S with act:=⟨a.put d x,hE.put hd x,M.put d hv⟩}
theorem iS.less (S:iS Gl w0 B L X ds E n h G ca w){E0:Env}(hs:E0.sub E):iS Gl w0 B L X ds E0 n h G ca w:=by
 obtain⟨a,hE,M⟩:=S.act;exact {S with act:=⟨a,⟨hE.toof.sub hs,hE.ds,hE.rn⟩,M⟩}
theorem iS.eval (S:iS Gl w0 B L X ds E n h G ca w){t:Tmp}{x:AV}(hx:lk E t=some x):aF G x (ca.eval (.tmp t)):=by
 obtain⟨a,hE,O⟩:=S.act;have:=O.eval (.tmp t);have h2:=hE.val t x hx;have M:a.eval (.tmp t)=x:=by simp only[bE.eval,List.getD,h2,Option.getD_some]
 rwa [M]at this
theorem iS.subX (S:iS Gl w0 B L X ds E n h G ca w){X':Nat->Obj->Prop}(hX:∀ b y,X' b y->X b y):iS Gl w0 B L X' ds E n h G ca w:={S with keep:=fun b y hb=>S.keep b y (hX b y hb),apart:=fun b y hb=>S.apart b y (hX b y hb)}
theorem iS.freeze (S:iS Gl w0 B L X ds E n h G ca w){o:Nat}{x:aK}{I:lR}{ob:Obj}(hx:h.get o=some x)(hI:G.nm o=some I)(hB:B<=I.blk)(hob:w.heap[I.blk]?=some ob):iS Gl w0 B L (fun b y=>X b y\/(b=I.blk/\y=ob)) ds E n (h.del o) G ca w where
 lt:=fun t Y=>by rw[qCe];split;rfl;exact S.lt t Y
 rel:=S.rel.forget fun t y O=>by
  rw[qCe]at O;split at O
  .cases O
  .exact O
 fresh:=S.fresh
 gl:=S.gl
 keep:=fun b y hb=>by
  rcases hb with hb | ⟨rfl,rfl⟩
  .exact S.keep b y hb
  .exact⟨hB,hob⟩
 apart:=fun b y hb t z J M U=>by
  rw[qCe]at M;split at M
  .cases M
  .rename_i hne;rcases hb with hb | ⟨rfl,rfl⟩
   .exact S.apart b y hb t z J M U
   .exact fun e=>hne (S.rel.inj t o z x J I M hx U hI e)
 act:=S.act
theorem iS.alloc (S:iS Gl w0 B L X ds E n h G ca w)(ob:Obj):iS Gl w0 B L (fun b y=>X b y\/(b=w.heap.size/\y=ob)) ds E n h G ca (w.alloc ob) where
 lt:=S.lt
 rel:=S.rel.waste ob
 fresh:=S.fresh
 gl:=S.gl
 keep:=fun b y hb=>by
  rcases hb with hb | ⟨rfl,rfl⟩
  .obtain⟨k1,k2⟩:=S.keep b y hb;have a1:=(Array.getElem?_eq_some_iff.1 k2).1;refine⟨k1,?_⟩;show (w.heap.push ob)[b]?=_;rw[Array.getElem?_push,if_neg om];exact k2
  .refine⟨S.rel.size,?_⟩;show (w.heap.push y)[w.heap.size]?=_;simp
 apart:=fun b y hb t z J O M=>by
  rcases hb with hb | ⟨rfl,rfl⟩
  .exact S.apart b y hb t z J O M
  .obtain⟨U,ob',h1,_,Y,_⟩:=S.rel.obj t z O;obtain rfl:U=J:=Option.some.inj (h1.symm.trans M);have:=(Array.getElem?_eq_some_iff.1 Y).1;omega
 act:=S.act
theorem iS.turn (hw0:∀ b,¬w0.X0 b)(S:iS Gl w0 B L X ds E n h G ca w){r:Nat}{ob ob':Obj}(hX:X r ob)(hn:∀ us el fz,ob≠.cells us el fz){X':Nat->Obj->Prop}(hX':∀ b y,X' b y->(b=r/\y=ob')\/(b≠r/\X b y)){w':World}(hw:w'=w\/w'=w.drew) :
  iS Gl w0 B L X' ds E n h G ca (setBlock w' r ob'):=by
 obtain⟨hB,hr⟩:=S.keep r ob hX;have Y:=(Array.getElem?_eq_some_iff.1 hr).1;have O:w'.heap=w.heap:=(by rcases hw with rfl | rfl<;>rfl);have U:w'.os=w.os/\w'.output=w.output/\w'.tape=w.tape:=(by rcases hw with rfl | rfl<;>exact⟨rfl,rfl,rfl⟩);have M:∀ b,b≠r->(setBlock w' r ob').heap[b]?=w.heap[b]?:=fun b hb=>by
  show (w'.heap.setIfInBounds r ob')[b]?=_;rw[O,Array.getElem?_setIfInBounds,if_neg (Ne.symm hb)]
 refine {S with rel:=S.rel.turn hB (hw0 r) (fun o x I hx hI=>S.apart r ob hX o x I hx hI) (DC S.rel hr hn) M ?_ U.1 U.2.1 U.2.2,keep:=fun b y hb=>?_,apart:=fun b y hb=>?_}
 .show (w'.heap.setIfInBounds r ob').size=_;rw[Array.size_setIfInBounds,O]
 .rcases hX' b y hb with⟨rfl,rfl⟩ | ⟨hne,hb⟩
  .refine⟨hB,?_⟩;show (w'.heap.setIfInBounds b y)[b]?=_;rw[O,Array.getElem?_setIfInBounds,if_pos rfl,if_pos Y]
  .exact⟨(S.keep b y hb).1,(M b hne).trans (S.keep b y hb).2⟩
 .rcases hX' b y hb with⟨rfl,rfl⟩ | ⟨hne,hb⟩
  .exact S.apart b ob hX
  .exact S.apart b y hb
theorem iS.recall (hw0:∀ b,¬w0.X0 b)(S:iS Gl w0 B L X ds E n h G ca w){o:Nat}{x:aK}{I:lR}{ob:Obj}(hn:h.get o=none)(ho:o<n)(hI:G.nm o=some I)(hX:X I.blk ob)(hx:cK G I x ob)(hc:∀ us el fz,ob≠.cells us el fz):iS Gl w0 B L (fun _ _=>False) ds E n (h.put o x) G ca w:=by
 obtain⟨hB,hr⟩:=S.keep _ ob hX;have hg:∀ t,(h.put o x).get t=if t=o then some x else h.get t:=fun t=>qCf h o t x
 have cs:∀ t z,(h.put o x).get t=some z->(t=o/\z=x)\/(t≠o/\h.get t=some z):=fun t z M=>by
  rw[hg]at M;split at M
  .rename_i e;exact .inl ⟨e,(Option.some.inj M).symm⟩
  .rename_i e;exact .inr ⟨e,M⟩
 exact {
  lt:=fun t ht=>by rw[hg,if_neg om];exact S.lt t ht
  rel:={S.rel with
   obj:=fun t z M=>by
    rcases cs t z M with⟨rfl,rfl⟩ | ⟨_,M⟩
    .exact⟨I,ob,hI,hB,hr,hx⟩
    .exact S.rel.obj t z M
   inj:=fun t t' z z' J J' M Y U O e=>by
    rcases cs t z M with⟨rfl,rfl⟩ | ⟨h1,ha⟩
    .obtain rfl:=Option.some.inj (hI.symm.trans U);rcases cs t' z' Y with⟨rfl,rfl⟩ | ⟨h2,hb⟩
     .rfl
     .exact absurd e.symm (S.apart _ ob hX t' z' J' hb O)
    .rcases cs t' z' Y with⟨rfl,rfl⟩ | ⟨h2,hb⟩
     .obtain rfl:=Option.some.inj (hI.symm.trans O);exact absurd e (S.apart _ ob hX t z J ha U)
     .exact S.rel.inj t t' z z' J J' ha hb U O e
   sep:=fun t z J M U i=>by
    rcases cs t z M with⟨rfl,rfl⟩ | ⟨_,M⟩
    .obtain rfl:=Option.some.inj (hI.symm.trans U);exact DC S.rel hr hc i
    .exact S.rel.sep t z J M U i
   apart:=fun t z J _ _ hc=>hw0 _ hc}
  fresh:=S.fresh
  gl:=S.gl
  keep:=fun _ _ hb=>hb.elim
  apart:=fun _ _ hb=>hb.elim
  act:=S.act}
theorem iS.leave (A:∀ fuel w0 B,pL P Gl w0 B Gm Kp fuel)(S:iS Gl w0 B L (fun _ _=>False) ds E n h G ca w)(hw0:∀ b,¬w0.X0 b){fn:Func}{keep:Bool}{Q:aS->Nat->Hp->Prop}(hv:leaveD P Gl Gm Kp fn.results.toList keep (fun _=>True) Q E ds none n h){R:Ending->World->Prop}
  (hR:∀ v n' h' G' e w',(∀ n'',n'<=n''->aE n'' h'->Q v n'' h')->eO w0 B h'.get G' w'->G.le G'->aE n' h'->rV G' v e->R e w'):LeavesInM (Fw none) 0 P fn ca.tmps R ca.defers .returning w:=by
 obtain⟨a,hE,M⟩:=S.act;obtain⟨F,out,e,fr,wr,q⟩:=lY ds none a n h hE S.lt (fun _ _=>trivial) hv;obtain⟨f1,k1⟩:=(A F w0 B).leave fn keep a none n h out e S.lt;refine k1 h.get G w ca .returning ⟨fun _ _=>rfl,S.rel,fun o h1 _=>S.fresh o h1,S.gl⟩ M rfl R fun G' e w' g1 g2 g3=>?_;rw[yA fr]at g2;exact hR out.val out.nx out.hp G' e w' q g2 g1.le fr.lt g3
end
end Go.Ez
namespace Go.Proofs.Pa
open Go.Ez Go.Proofs.Vt
open Go.ChangeMaps (setBlock)
section
variable {Gl:qC6}
def Bo:Value->Nat
 |.string b=>if b.data.toList.any cW then 0 else b.data.toList.length
 |_=>0
def tV:AV->Nat
 |.str s=>if s.any cW then 0 else s.length
 |_=>0
theorem xW {G:Gh}{s:List UInt8}{v:Value}(h:aF G (.str s) v):Bo v=tV (.str s):=by
 simp only[aF]at h;subst h
 rfl
theorem fA.to {G:Gh}:∀{kv:List (AV×AV)}{l:List MapEntry},fA G kv l->∀ e ∈ l,∃ q ∈ kv,aF G q.1 e.key/\aF G q.2 e.val
 |[],l,h,e,he=>by subst h;cases he
 |(k,v)::r,l,h,e,he=>by
  obtain⟨x,es,rfl,h1,h2,M⟩:=h;rcases List.mem_cons.1 he with rfl | he
  .exact⟨(k,v),List.mem_cons_self,h1,h2⟩
  .obtain⟨q,U,O⟩:=fA.to M e he;exact⟨q,List.mem_cons_of_mem _ U,O⟩
theorem fA.fro {G:Gh}:∀{kv:List (AV×AV)}{l:List MapEntry},fA G kv l->∀ q ∈ kv,∃ e ∈ l,aF G q.1 e.key/\aF G q.2 e.val
 |[],l,h,q,hq=>by cases hq
 |(k,v)::r,l,h,q,hq=>by
  obtain⟨x,es,rfl,h1,h2,M⟩:=h;rcases List.mem_cons.1 hq with rfl | hq
  .exact⟨x,List.mem_cons_self,h1,h2⟩
  .obtain⟨e,U,O⟩:=fA.fro M q hq;exact⟨e,List.mem_cons_of_mem _ U,O⟩
def vE (es:Array MapEntry)(seen:Array Nat)(m:Nat):Prop:=(∀ x ∈ es.toList,seen.contains x.born=true->Bo x.key<=m)/\(m=0\/∃ x ∈ es.toList,m=Bo x.key)
theorem vE.start (es:Array MapEntry):vE es #[] 0:=⟨fun x _ h=>by simp at h,.inl rfl⟩
theorem vE.push {es:Array MapEntry}{seen:Array Nat}{m:Nat}(h:vE es seen m)(hn:(es.toList.map (·.born)).Nodup){e:MapEntry}(he:e ∈ es.toList):vE es (seen.push e.born) (max m (Bo e.key)):=by
 refine⟨fun x O M=>?_,?_⟩
 .rw[contains_push]at M;rcases Bool.or_eq_true_iff.1 M with M | M
  .exact Nat.le_trans (h.1 x O M) (Nat.le_max_left _ _)
  .obtain rfl:=born_inj hn O he (beq_iff_eq.1 M);exact Nat.le_max_right _ _
 .by_cases U:Bo e.key<=m
  .rw[Nat.max_eq_left U];exact h.2
  .rw[Nat.max_eq_right om];exact .inr ⟨e,he,rfl⟩
theorem Qd:(dF.all fun q=>(match q.1 with | .str s=>s.all (fun b=>decide (b.toNat<128))&&decide (s.length<1000000000) | _=>false)&&decide (tV q.1<=3))=true:=kr
theorem Ko:(dF.any fun q=>tV q.1==3)=true:=kr
theorem xM {q:AV×AV}(hq:q ∈ dF):∃ s,q.1=.str s/\(∀ b ∈ s,b.toNat<128)/\s.length<1000000000/\tV q.1<=3:=by
 have h:=List.all_eq_true.1 Qd q hq;obtain⟨k,v⟩:=q;rw[Bool.and_eq_true]at h;cases k<;>first | (simp only[Bool.false_eq_true,false_and]at h;done) | skip
 rename_i s;simp only[Bool.and_eq_true,decide_eq_true_eq,List.all_eq_true]at h;exact⟨s,rfl,h.1.1,h.1.2,h.2⟩
theorem vE.all {G:Gh}{es:Array MapEntry}{seen:Array Nat}{m:Nat}(h:vE es seen m)(hkv:fA G dF es.toList)(h0:(leftOf es seen).size=0):m=3:=by
 have M:=all_seen es seen h0;have a1:m<=3:=by
  rcases h.2 with rfl | ⟨x,hx,rfl⟩
  .omega
  .obtain⟨q,O,h1,_⟩:=fA.to hkv x hx;obtain⟨s,e,_,_,hs⟩:=xM O;rw[e]at h1 hs;rw[xW h1];exact hs
 obtain⟨q,O,Y⟩:=List.any_eq_true.1 Ko;obtain⟨e,he,h1,_⟩:=fA.fro hkv q O;obtain⟨s,U,_⟩:=xM O;rw[U]at h1 Y;have h4:=h.1 e he (M e he);rw[xW h1]at h4;have h5:=beq_iff_eq.1 Y;omega
def XX (bm:Nat)(es:Array MapEntry)(clk r:Nat)(seen:Array Nat):Nat->Obj->Prop:=fun b y=>(b=bm/\y=.map es clk)\/(b=r/\y=.mapIter (some bm) clk seen clk)
def DD (c1 tb cm wm d1 d2 d3 m n:Nat)(h:Hp):Prop:=h.get c1=some (.cells [.ref tb 0])/\h.get tb=some (.cells [.map cm,.map wm,.int .i64 m])/\h.get cm=none/\h.get wm=some (.map fR)/\h.get d1=some .dfr/\h.get d2=some .dfr/\h.get d3=some .dfr/\cm<n/\d1<d2/\d2<d3
theorem DD.ne {c1 tb cm wm d1 d2 d3 m n:Nat}{h:Hp}(t:DD c1 tb cm wm d1 d2 d3 m n h):tb≠cm/\tb≠wm/\cm≠wm/\c1≠cm/\d1≠cm/\d2≠cm/\d3≠cm/\c1≠tb/\wm≠tb/\d1≠tb/\d2≠tb/\d3≠tb/\tb≠d1/\tb≠d2/\tb≠d3/\wm≠d1/\wm≠d2/\wm≠d3/\cm≠d1/\cm≠d2/\cm≠d3:=by
 obtain⟨h1,h2,_,_,_,_,_,_⟩:=t;refine⟨?_,?_,?_,?_,?_,?_,?_,?_,?_,?_,?_,?_,?_,?_,?_,?_,?_,?_,?_,?_,?_⟩<;>(rintro rfl;simp_all)
variable {w0:Base}{B:Nat}(hfree:mR Gl)
def HP (d1 d2 d3:Nat):List mP:=[.collected d3,.collected d2,.collected d1]
include hfree
theorem Ct (fuel:Nat)(w0:Base)(B:Nat):pL Tryz.prog Gl w0 B TD IP fuel:=xG (Kp:=IP) GB hfree (FF Gl) fuel w0 B
theorem NO (hw0:∀ b,¬w0.X0 b){c1 tb cm wm d1 d2 d3 n bm clk r:Nat}{es:Array MapEntry}{seen:Array Nat}{h:Hp}{G:Gh}{a:Act}{w:World}{I:lR}(S:iS Gl w0 B 70 (XX bm es clk r seen) (HP d1 d2 d3) [(1,.ref c1 0),(51,.gref r 0)] n h G a w)
  (ht:DD c1 tb cm wm d1 d2 d3 3 n h) (hI:G.nm cm=some I) (hb:I.blk=bm) (hkv:fA G dF es.toList/\Dr es.toList clk) {R:Ending->World->Prop}
  (hR:∀(G1:Gh) (K1:cG) (w':World),eO w0 B K1 G1 w'->G.le G1->K1 tb=some (.cells [.map cm,.map wm,.int .i64 3])->K1 cm=some (.map dF)->K1 wm=some (.map fR)->∀ v,aF G1 (.ref tb 0) v->R (.returned v) w') {c:Code} (hc:Tryz.f202.body=some c) :
  (Cs 6 c).wpIn (Fw none) 0 Tryz.prog (bodyPostM (Fw none) 0 Tryz.prog Tryz.f202 R) a w:=by
 obtain rfl:=Option.some.inj hc;clear hc;obtain⟨e1,_,e3,e4,e5,e6,e7,_,_,_,_,_,a1,a2,a3,a4,a5,a6,a7,a8,a9⟩:=ht.ne;obtain⟨t1,t2,t3,t4,t5,t6,t7,t8,_,_⟩:=ht;subst hb;have S2:=S.recall hw0 (o:=cm) (x:=.map dF) (ob:=.map es clk) t3 t8 hI (.inl ⟨rfl,rfl⟩) (by simp only[cK];exact hkv) (fun _ _ _ h=>by cases h);have g1:(h.put cm (.map dF)).get c1=some (.cells [.ref tb 0]):=(by rw[qCf,if_neg e4];exact t1);have g2:(h.put cm (.map dF)).get tb=some (.cells [.map cm,.map wm,.int .i64 3]):=(by rw[qCf,if_neg e1];exact t2);have g3:(h.put cm (.map dF)).get cm=some (.map dF):=(by rw[qCf,if_pos rfl]);have g4:(h.put cm (.map dF)).get wm=some (.map fR):=(by rw[qCf,if_neg (Ne.symm e3)];exact t4);have g5:(h.put cm (.map dF)).get d1=some .dfr:=(by rw[qCf,if_neg e5];exact t5);have g6:(h.put cm (.map dF)).get d2=some .dfr:=(by rw[qCf,if_neg e6];exact t6);have g7:(h.put cm (.map dF)).get d3=some .dfr:=(by rw[qCf,if_neg e7];exact t7);generalize h.put cm (.map dF)=hh at *;refine S2.code (Ct hfree) hw0 (k:=fun ex E' n' h'=>ex=.ret/\fO (fun E' n' h'=>E'=[(0,.ref tb 0)]/\h'=hh) E' n' h' ⟨⟩) (aW ?_) ?_
 .refine z1 @g1 ?_;exact fO.mq ⟨rfl,rfl⟩
 .rintro ex E' n' h' G' e ca' w' Y hle hG ⟨rfl,E0,hsub,rfl,rfl⟩ hex;have Y:=Y.less hsub;simp only[fN]at hex;subst hex;show LeavesInM (Fw none) 0 Tryz.prog Tryz.f202 ca'.tmps R ca'.defers .returning w';refine Y.leave (Ct hfree) hw0 (keep:=false) (Q:=fun v _ h'=>v=.returned (.ref tb 0)/\h'.get tb=some (.cells [.map cm,.map wm,.int .i64 3])/\h'.get cm=some (.map dF)/\h'.get wm=some (.map fR)) ?_ ?_
  .show _/\_/\_/\_/\_/\_/\gS Tryz.prog Gl [.tmp 0] false _ _ _ _ _ _;refine⟨g7,trivial,?_,trivial,?_,trivial,?_⟩
   .rw[qCe,if_neg om];exact g6
   .rw[qCe,if_neg om,qCe,if_neg om];exact g5
   .have k:∀ t,t≠d1->t≠d2->t≠d3->(((h'.del d3).del d2).del d1).get t=h'.get t:=fun t a b c=>(by rw[qCe,if_neg a,qCe,if_neg b,qCe,if_neg c]);refine zz ?_;exact qC9<|⟨rfl,(k _ a1 a2 a3).trans g2,(k _ a7 a8 a9).trans g3,(k _ a4 a5 a6).trans g4⟩
  .intro v n2 h2 G2 e w2 hq U O aa M;obtain⟨rfl,q1,q2,q3⟩:=hq n2 (Nat.le_refl _) aa;simp only[rV]at M;obtain⟨v',rfl,ab⟩:=M;exact hR G2 h2.get w2 U (Gh.le_trans hG O) q1 q2 q3 v' ab
end
section
variable {Gl:qC6}
def TH (Gl:qC6)(w0:Base)(B c1 tb cm wm d1 d2 d3 bm clk r:Nat)(es:Array MapEntry)(G0:Gh)(a:Act)(w:World):Prop:=
 ∃ seen n h G m,iS Gl w0 B 70 (XX bm es clk r seen) (HP d1 d2 d3) [(1,.ref c1 0),(51,.gref r 0)] n h G a w/\G0.le G/\DD c1 tb cm wm d1 d2 d3 m n h/\vE es seen m
def Lk (es:Array MapEntry)(r:Nat)(_:Act)(w:World):Nat:=match w.heap[r]? with
 |some (.mapIter _ _ seen _)=>(leftOf es seen).size
 |_=>0
theorem YR (m d:Nat):mM tY (.int .i64 m) [.int .i64 d]=some (.int .i64 (max m d:Nat)):=by
 show mM tY (.int .i64 m) [.int .i64 d]=_;simp only[mM,tY];by_cases h:(m:Int)<d
 .simp[h];omega
 .simp[h];omega
theorem qA9 (hfree:mR Gl)(hA:Gl 1=some dL):Gz Gl:=by
 intro w Sx hS ah R hR;have O:∀ b,¬({toWorld:=w,S0:=Sx}:Base).X0 b:=fun _ h=>h;have hc:Tryz.f202.body=some _:=rfl;refine BM hfree hA hc w Sx hS ah R fun out E ds G1 ca w' hE hT fr g1 g2 az=>?_;obtain⟨_,d1,d2,d3,c1,tb,cm,wm,rfl,e1,ae,ag,a1,a7,ar,au,aw,_,_,_,_,_,_,_,_,ax,ay⟩:=hT;have S0:iS Gl {toWorld:=w,S0:=Sx} w.heap.size 70 (fun _ _=>False) (HP d1 d2 d3) [(1,.ref c1 0)] out.nx out.hp G1 ca w':=by
  refine⟨fr.lt,?_,fun o _=>?_,ah.mono g1.le,fun _ _ h=>h.elim,fun _ _ h=>h.elim,_,⟨hE.toof.sub (Env.sub.cons e1 Env.sub.nil),hE.ds,hE.rn⟩,az⟩
  .rw[<- yA fr];exact g2
  .cases hG:G1.nm o with
   |none=>rfl
   |some I=>have:=g1.nm o I hG rfl;omega
 refine wpIn_seq (wpIn_seq (wpIn_region ?_));show wpOpsIn _ _ _ _ _ ([0,1,2,3]++[4]) _ _;refine S0.ops (Ct hfree) O [_,_,_,_] [0,1,2,3] [4] rfl rfl (post:=fun E' n' h'=>fO (fun E' n' h'=>E'=[(1,.ref c1 0),(50,.map cm)]/\out.nx=n'/\out.hp=h') E' n' h' ⟨⟩) ?_ ?_
 .simp only[List.getElem_toArray,List.getElem_cons_succ,List.getElem_cons_zero];refine z2 ae ag ?_;exact fO.mq ⟨rfl,rfl,rfl⟩
 rintro E' n' h' G2 ca2 w2 S1 hle2 hG2 ⟨E0,hsub,rfl,rfl,rfl⟩;have S1:=S1.less hsub;obtain⟨I,ob,k1,k2,k3,k4⟩:=S1.rel.obj cm _ a1;cases ob with
 |map es clk=>
  simp only[cK]at k4;have ev:ca2.eval (.tmp 50)=.map (some I.blk):=by
   have:=S1.eval (t:=50) (x:=.map cm) rfl;simp only[aF]at this;obtain⟨J,j1,j2⟩:=this;rw[j2];obtain rfl:=Option.some.inj (j1.symm.trans k1)
   rfl
  refine rD rfl rfl (Qz rfl ev (run_range_map w2 253 9 9 I.blk es clk kr k3)) ?_;have S2:=((S1.freeze a1 k1 k2 k3).alloc (.mapIter (some I.blk) clk #[] clk)).put (d:=some 51) rfl (x:=.gref w2.heap.size 0) (v:=.pointer (some ⟨w2.heap.size,0,none⟩)) (by simp only[aF]);have S3:=(S2.subX (X':=XX I.blk es clk w2.heap.size #[]) (fun b y hb=>hb.elim (fun h=>.inl (.inr h)) .inr)).less (E0:=[(1,.ref c1 0),(51,.gref w2.heap.size 0)]) sb;have b2:=aN S1.lt a1;have n1:c1≠cm:=(by rintro rfl;simp_all);have n2:tb≠cm:=(by rintro rfl;simp_all);have n3:wm≠cm:=by
   rintro rfl;rw[a1]at a7;have h1:=congrArg List.length (aK.map.inj (Option.some.inj a7));have h2:(dF.length==fR.length)=false:=kr;rw[h1]at h2;simp at h2
  have n4:d1≠cm:=(by rintro rfl;simp_all);have n5:d2≠cm:=(by rintro rfl;simp_all);have n6:d3≠cm:=(by rintro rfl;simp_all);have b0:DD c1 tb cm wm d1 d2 d3 0 out.nx (out.hp.del cm):=by
   refine⟨?_,?_,?_,?_,?_,?_,?_,b2,ax,ay⟩<;>rw[qCe]
   .rw[if_neg n1];exact ae
   .rw[if_neg n2];exact ag
   .rw[if_pos rfl]
   .rw[if_neg n3];exact a7
   .rw[if_neg n4];exact ar
   .rw[if_neg n5];exact au
   .rw[if_neg n6];exact aw
  generalize w2.heap.size=r at *;refine wpIn_block (wpIn_loop (TH Gl {toWorld:=w,S0:=Sx} w.heap.size c1 tb cm wm d1 d2 d3 I.blk clk r es G2) (Lk es r) ⟨#[],_,_,G2,0,S3,Gh.le_refl _,b0,vE.start es⟩ ?_);rintro a w3 ⟨seen,n,h,G,m,S,hG,hT,hM⟩;have a9:=(S.keep I.blk _ (.inl ⟨rfl,rfl⟩)).2;have aa:=(S.keep r _ (.inr ⟨rfl,rfl⟩)).2;have ac:I.blk≠r:=by
   intro hc;rw[hc,aa]at a9;cases a9
  have ad:a.eval (.tmp 51)=.pointer (some ⟨r,0,none⟩):=by
   have:=S.eval (t:=51) (x:=.gref r 0) rfl;simpa only[aF]using this
  have ab:=fA.mono (Gh.le_trans hG (Gh.le_refl _)) k4.1;refine wpIn_seq (wpIn_region ?_);show wpOpsIn _ _ _ _ _ [0,1] _ _;refine Ho rfl rfl rfl ad aa a9 k4.2.1 (Nat.le_refl _) (fun h0=>?_) fun e w4 he b3=>?_
  .have Sa:=S.put (d:=some 52) rfl (x:=.tup [.bool false]) (v:=.tuple #[.bool false]) (by simp only[aF];exact⟨_,rfl,aI.cons (by simp only[aF]) aI.nil⟩);show wpOpsIn _ _ _ _ _ ([1]++[]) _ _;refine Sa.ops (Ct hfree) O [_] [1] [] rfl rfl (post:=fun E' n' h'=>fO (fun E' n' h'=>E'=[(1,.ref c1 0),(51,.gref r 0),(53,.bool false)]/\n=n'/\h=h') E' n' h' ⟨⟩) ?_ ?_
   .simp only[List.getElem_toArray,List.getElem_cons_succ,List.getElem_cons_zero];refine zz ?_;exact fO.mq ⟨rfl,rfl,rfl⟩
   rintro E' n' h' G3 a3 w3' U hle3 hG3 ⟨E0,hsub,rfl,rfl,rfl⟩;have U:=U.less hsub;have a6:a3.eval (.tmp 53)=.bool false:=by
    have:=U.eval (t:=53) (x:=.bool false) rfl;simpa only[aF]using this
   refine wpIn_seq (wpIn_cond_false a6 (wpIn_exit ?_));simp only[Exit.then,Exit.inBlock,↓reduceIte];obtain rfl:=hM.all ab h0;exact NO hfree O (U.less (E0:=[(1,.ref c1 0),(51,.gref r 0)]) sb) hT ((Gh.le_trans hG hG3).1 _ _ k1) rfl ⟨fA.mono hG3 ab,k4.2⟩ (fun G4 K4 w4 ao a2 q1 q2 q3 v hv=>hR G4 K4 tb cm wm w4 ao (Gh.le_trans g1.le (Gh.le_trans hG2 (Gh.le_trans hG (Gh.le_trans hG3 a2)))) n2 (fun hc=>(hT.ne).2.1 hc) (Ne.symm n3) q1 q2 q3 v hv) hc
  .obtain⟨a8,_⟩:=mem_left he;obtain⟨q,hq,M,ak⟩:=fA.to ab e a8;obtain⟨s,hs,aj,an,_⟩:=xM hq;rw[hs]at M;have al:=xW M;have Sa:=(S.turn O (r:=r) (ob:=.mapIter (some I.blk) clk seen clk) (ob':=.mapIter (some I.blk) clk (seen.push e.born) clk) (.inr ⟨rfl,rfl⟩) (fun _ _ _ h=>by cases h) (X':=XX I.blk es clk r (seen.push e.born)) (fun b y hb=>hb.elim (fun ⟨e1,e2⟩=>.inr ⟨fun hc=>ac (e1.symm.trans hc),.inl ⟨e1,e2⟩⟩) (fun hb=>.inl hb)) b3).put (d:=some 52) rfl (x:=.tup [.bool true,.str s,q.2]) (v:=.tuple #[.bool true,e.key,e.val]) (by simp only[aF];exact⟨_,rfl,aI.cons (by simp only[aF]) (aI.cons M (aI.cons ak aI.nil))⟩);show wpOpsIn _ _ _ _ _ ([1]++[]) _ _;refine Sa.ops (Ct hfree) O [_] [1] [] rfl rfl (post:=fun E' n' h'=>fO (fun E' n' h'=>E'=[(1,.ref c1 0),(51,.gref r 0),(53,.bool true)]/\n=n'/\h=h') E' n' h' ⟨⟩) ?_ ?_
   .simp only[List.getElem_toArray,List.getElem_cons_succ,List.getElem_cons_zero];refine zz ?_;exact fO.mq ⟨rfl,rfl,rfl⟩
   rintro E' n' h' G3 a3 w5 U hle3 hG3 ⟨E0,hsub,rfl,rfl,rfl⟩;have U:=U.less hsub;have a6:a3.eval (.tmp 53)=.bool true:=by
    have:=U.eval (t:=53) (x:=.bool true) rfl;simpa only[aF]using this
   have ap:a3.eval (.tmp 51)=.pointer (some ⟨r,0,none⟩):=by
    have:=U.eval (t:=51) (x:=.gref r 0) rfl;simpa only[aF]using this
   refine wpIn_seq (wpIn_cond_true a6 (wpIn_skip ?_));refine wpIn_block (wpIn_seq (wpIn_region ?_));show wpOpsIn _ _ _ _ _ [0,1,2] _ _;refine rD rfl rfl (Qy rfl ap (run_entry_at w5 r I.blk clk seen es clk e (U.keep r _ (.inr ⟨rfl,rfl⟩)).2 (U.keep I.blk _ (.inl ⟨rfl,rfl⟩)).2 a8 k4.2.2)) ?_;have Sc:=U.put (d:=some 54) rfl (x:=.tup [.str s,q.2]) (v:=.tuple #[e.key,e.val]) (by simp only[aF];exact⟨_,rfl,aI.cons (M.mono hG3) (aI.cons (ak.mono hG3) aI.nil)⟩);show wpOpsIn _ _ _ _ _ ([1,2]++[]) _ _;refine Sc.ops (Ct hfree) O [_,_] [1,2] [] rfl rfl (post:=fun E' n' h'=>fO (fun E' n' h'=>E'=[(1,.ref c1 0),(51,.gref r 0),(8,.str s)]/\n=n'/\h=h') E' n' h' ⟨⟩) ?_ ?_
   .simp only[List.getElem_toArray,List.getElem_cons_succ,List.getElem_cons_zero];refine zz ?_;exact fO.mq ⟨rfl,rfl,rfl⟩
   rintro E' n' h' G4 a4 w6 Y a2 hG4 ⟨E0,hsub,rfl,rfl,rfl⟩;have Y:=Y.less hsub;obtain⟨r1,_,_,_,_,_,_,r8,r9,b4,b5,b6,_⟩:=hT.ne;obtain⟨t1,t2,t3,t4,t5,t6,t7,t8,t9,b7⟩:=hT;refine Y.code (Ct hfree) O (k:=fun ex E' n' h'=>ex=.normal/\fO (fun E' n' h'=>E'=[(1,.ref c1 0),(51,.gref r 0)]/\h'.get tb=some (.cells [.map cm,.map wm,.int .i64 ((max m (tV (.str s)):Nat):Int)])/\∀ t,t<n->t≠tb->h'.get t=h.get t) E' n' h' ⟨⟩) (aW ?_) ?_
   .refine zz ?_;refine qCK ((oD HE s aj an).use fun n1 h1 _ _ M=>?_);have q1:=(M c1 (aN Y.lt t1)).trans t1;have q2:=(M tb (aN Y.lt t2)).trans t2;have b8:=aN Y.lt t2;cases hL:s.any cW with
    |true=>
     refine z2 @Bool.not_true @Bool.not_false ?_;refine fO.mq ⟨rfl,?_,fun t ht _=>M t ht⟩;have:tV (.str s)=0:=(by simp only[tV,hL,if_true]);rw[this,Nat.max_zero];exact q2
    |false=>
     have b1:tV (.str s)=s.length:=(by simp only[tV,hL,Bool.false_eq_true,if_false]);refine z2 @Bool.not_true @Bool.not_false ?_;refine qCP [(0,7)] [] kr ?_;refine g3 q1 q2 @YR ?_;refine fO.mq ⟨rfl,?_,fun t ht ac=>?_⟩
     .rw[b1];exact zc
     .rw[qCf,if_neg ac];exact M t ht
   .rintro ex E' n' h' G5 ee a5 w7 Se hle5 hG5 ⟨rfl,E0,hsub,hE0,u1,u2⟩ hex;simp only[fN]at hex;subst hex;subst hE0;have Se:=Se.less hsub;have ai:=hM.push k4.2.2 a8;rw[al]at ai;refine⟨⟨seen.push e.born,n',h',G5,max m (tV (.str s)),Se,Gh.le_trans hG (Gh.le_trans hG3 (Gh.le_trans hG4 hG5)),⟨(u2 c1 (aN Y.lt t1) r8).trans t1,u1,(u2 cm t8 (Ne.symm r1)).trans t3,(u2 wm (aN Y.lt t4) r9).trans t4,(u2 d1 (aN Y.lt t5) b4).trans t5,(u2 d2 (aN Y.lt t6) b5).trans t6,(u2 d3 (aN Y.lt t7) b6).trans t7,Nat.lt_of_lt_of_le t8 hle5,t9,b7⟩,ai⟩,?_⟩;unfold Lk;rw[(Se.keep r _ (.inr ⟨rfl,rfl⟩)).2,aa];exact left_shrinks es seen e he
 |_=>simp only[cK]at k4
end
end Go.Proofs.Pa

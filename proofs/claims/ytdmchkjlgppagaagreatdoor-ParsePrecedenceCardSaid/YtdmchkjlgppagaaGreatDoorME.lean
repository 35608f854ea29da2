/- Part 5 of a proof of ParsePrecedence (for all texts p, q): what it rests on. -/
import Derived.Test.YtdmchkjlgppagaaGreatDoorMD
import Derived.Shelf.Strings.Search1
import Derived.Shelf.LaysM
set_option linter.all false
set_option maxRecDepth 100000
set_option maxHeartbeats 8000000
namespace Go.Proofs.Pa
open Go.Ez Go.Proofs.Vt
section
variable {Gl:qC6}{Gm:qC7}{Kp:qC8}(S:Seat Gm Kp)
def pB (f:Nat)(w:List UInt8)(kd:Int)(rest:P Node):P Node:=(P.kind 0 1 >>= fun b=>if b then P.is 1 w else P.pure false) >>= fun b=>
 if b then P.listed f (tC f w) >>= fun l=>P.need [93] >>= fun _=>P.pure (nd kd [] l) else rest
def uX (f:Nat):P Node:=P.maps >>= fun b=>
 if b then P.listed f (nG f) >>= fun l=>P.need [124,45,62] >>= fun _=>cS f >>= fun e=>P.need [93] >>= fun _=>P.pure (nd 30 [] (l++[e]))
 else cS f >>= fun x=>P.take [45,62] >>= fun b=>
  if b then cS f >>= fun y=>P.need [93] >>= fun _=>P.pure (nd 31 [] [x,y])
  else P.take [93,95] >>= fun b=>
   if b then gL f >>= fun s=>P.pure (nd 46 [] [x,s])
   else P.need [69,88,67,69,80,84] >>= fun _=>P.listed f (pG f) >>= fun l=>P.need [93] >>= fun _=>P.pure (nd 35 [] (x::l))
theorem qAV (f:Nat):pF (f+1)=(P.step 1 >>= fun _=>pB f [124,45,62] 32 (pB f [58] 33 (uX f))):=by
 rw[pF.eq_2]
 rfl
def Gr (w:List UInt8)(kd:Int):AV:=.agg [.str w,.int .i64 kd]
include S
theorem HM (hk:Kp 146=(true,false)){o pm im:Nat}{lv:AV}(f:Nat)(hf:f<1000000000)(Me:aL Gl Gm Kp 76 [.ref o 0] o pm im lv (cS f) EN)(Mb:aL Gl Gm Kp 294 [.ref o 0] o pm im lv (nG f) EN)
  (Mu:aL Gl Gm Kp 369 [.ref o 0] o pm im lv (pG f) EN) (Ms:aL Gl Gm Kp 366 [.ref o 0] o pm im lv (gL f) EN)
  (Mf:∀ w kd pc rc,iL Gl Gm Kp [(pc,[.ref o 0]),(rc,[.str w,.int .i64 kd])] 367 ([]++[.ref pc 0,.ref rc 0]) o pm im lv (tC f w) EN):aL Gl Gm Kp 339 [.ref o 0] o pm im lv (pF (f+1)) EN:=by
 refine aL.st fun n h cv s T0 ho=>qB6 S 96 [.cell 2 32] Tryz.func339 fun _ _=>?_;have bp:=congrFun (qAV f) s;obtain⟨_,_,_,_⟩:=T0.hd;refine zz ?_;obtain⟨cy,cg⟩:=cJ (fun hc=>ho (bp.trans hc));have cd:=bp.trans (P.ok_bind cg);refine z2 T0.obj @aQ ?_;generalize hs1':({s with pos:=s.pos+1}:PS)=s1 at *;have bp:=cd.trans rfl;generalize hms:pF (f+1) s=ms at *;refine qCu (fun k E nn hh=>∃ i:Nat,i+k=2/\E=[(0,.ref o 0),(1,.ref n 0),(2,.ref (n+1) 0),(19,.vec [Gr [124,45,62] 32,Gr [58] 33] 2 true),(20,.int .i64 2),(21,.int .i64 i)]/\
   ms=(if i=0 then pB f [124,45,62] 32 (pB f [58] 33 (uX f)) else if i=1 then pB f [58] 33 (uX f) else uX f) s1/\n+2<=nn/\
   (aE nn hh->St n h o pm im lv cv [(n+1,.cells cC),(n,.cells [.ref o 0])] s1 nn hh cv)) 2 ⟨0,rfl,rfl,cd,by omega,fun _=>by rw[<- hs1'];exact((T0.cell (.cells [.ref o 0])).cell (.cells cC)).pos cy⟩ ?_
 .rintro k E nn hh hlk hBk ⟨i,hik,rfl,a9,hnn,T5⟩;have T5:=T5 hlk;have d0:=T5.rep.len;have cw:i=0\/i=1\/i=2:=om;rcases cw with rfl | rfl | rfl
  .replace a9:=nt a9;refine z2 @Gr.eq_1 T5.g2 ?_;refine aA.st (T5.newc _ (.cells [.str [124,45,62],.int .i64 32])) fun hA T6=>?_;refine qCK (qBx (oB S 0 dc 1) T6 fun n7 h7 bj T7=>?_);rw[pB,qCk]at a9;have O:=a9.trans (P.ok_bind (x:=P.kind 0 1) rfl);cases hk1:s1.isKind 0 1 with
   |false=>
    rw[hk1]at O;replace O:=nf O;rw[qCn]at O;replace O:=nf O;refine z2 hk1 @Bool.not_false ?_;refine aU.mq (1-0) ⟨0+1,by omega,rfl,O,by omega,fun aw=>(T7.sub (List.sublist_cons_self ..)).nx om aw⟩
   |true=>
    rw[hk1]at O;replace O:=nt O;refine z4 hk1 @Bool.not_true T7.g1 T7.g3 ?_;refine qCK (qBx (sI S 1 dc [124,45,62]) T7 fun n8 h8 az T8=>?_);have a3:=O.trans (P.ok_bind (x:=P.is 1 [124,45,62]) rfl);cases hi:s1.isSign 1 [124,45,62] with
    |false=>
     rw[hi]at a3;replace a3:=nf a3;refine z2 hi @Bool.not_false ?_;refine aU.mq (1-0) ⟨0+1,by omega,rfl,a3,by omega,fun aw=>(T8.sub (List.sublist_cons_self ..)).nx om aw⟩
    |true=>
     rw[hi]at a3;have ae:=a3;have T9:=T8;replace ae:=nt ae;refine z3 hi @Bool.not_true T8.g3 ?_;refine qCK (St.listed S hk (Z:=[(n,[.ref o 0]),(nn,[.str [124,45,62],.int .i64 32])]) (a:=[]) (c:=[.ref n 0,.ref nn 0]) (Mf [124,45,62] 32 n nn) (fun _=>rfl) f hf T9 (T9.holds sm) ae ho ?_ ?_ fun e he n2 h2 _ _=>by(refine zz ?_);exact qC9<|.err he)
     .intro l s10 xs n10 ap ab U a2 a6 ag Y;refine z1 Y.g3 ?_;refine qBt (bL S [93]) Y U ho ?_;intro u b3 OT n11 al ah a1 ak a7 M b0 ay;refine z3 M.g1 M.g2 @qCD ?_;exact qC9<|(M.set2 _).ends (a1) (.mk rfl rfl (.vec a2))
     .intro l s10 xs b n10 ap ab U a2 a6 ag hb Y;have bl:nn<b/\n<=nn:=Y.l2;refine z1 Y.g4 ?_;refine qBt (bL S [93]) Y U ho ?_;intro u b3 OT n11 al ah a1 ak a7 M b0 ay;have ee:EV l (List.take xs.length (List.drop 0 xs)):=(by rw[List.drop_zero,List.take_length];exact a2);refine z4 M.g1 M.g2 M.g3 @qCD ?_;refine qCJ (fun x hx=>a2.frozen x (List.mem_of_mem_take hx)) ?_;refine zz ?_;exact qC9<|((M.set3 _).del1).ends (a1) (.mk rfl rfl (.vec ee))
  .have a9:ms=pB f [58] 33 (uX f) s1:=a9;refine z2 @Gr.eq_1 T5.g2 ?_;refine aA.st (T5.newc _ (.cells [.str [58],.int .i64 33])) fun hA T6=>?_;refine qCK (qBx (oB S 0 dc 1) T6 fun n7 h7 bj T7=>?_);rw[pB,qCk]at a9;have O:=a9.trans (P.ok_bind (x:=P.kind 0 1) rfl);cases hk1:s1.isKind 0 1 with
   |false=>
    rw[hk1]at O;replace O:=nf O;rw[qCn]at O;replace O:=nf O;refine z2 hk1 @Bool.not_false ?_;refine aU.mq (1-1) ⟨1+1,by omega,rfl,O,by omega,fun aw=>(T7.sub (List.sublist_cons_self ..)).nx om aw⟩
   |true=>
    rw[hk1]at O;replace O:=nt O;refine z4 hk1 @Bool.not_true T7.g1 T7.g3 ?_;refine qCK (qBx (sI S 1 dc [58]) T7 fun n8 h8 az T8=>?_);have a3:=O.trans (P.ok_bind (x:=P.is 1 [58]) rfl);cases hi:s1.isSign 1 [58] with
    |false=>
     rw[hi]at a3;replace a3:=nf a3;refine z2 hi @Bool.not_false ?_;refine aU.mq (1-1) ⟨1+1,by omega,rfl,a3,by omega,fun aw=>(T8.sub (List.sublist_cons_self ..)).nx om aw⟩
    |true=>
     rw[hi]at a3;have ae:=a3;have T9:=T8;replace ae:=nt ae;refine z3 hi @Bool.not_true T8.g3 ?_;refine qCK (St.listed S hk (Z:=[(n,[.ref o 0]),(nn,[.str [58],.int .i64 33])]) (a:=[]) (c:=[.ref n 0,.ref nn 0]) (Mf [58] 33 n nn) (fun _=>rfl) f hf T9 (T9.holds sm) ae ho ?_ ?_ fun e he n2 h2 _ _=>by(refine zz ?_);exact qC9<|.err he)
     .intro l s10 xs n10 ap ab U a2 a6 ag Y;refine z1 Y.g3 ?_;refine qBt (bL S [93]) Y U ho ?_;intro u b3 OT n11 al ah a1 ak a7 M b0 ay;refine z3 M.g1 M.g2 @qCD ?_;exact qC9<|(M.set2 _).ends (a1) (.mk rfl rfl (.vec a2))
     .intro l s10 xs b n10 ap ab U a2 a6 ag hb Y;have bl:nn<b/\n<=nn:=Y.l2;refine z1 Y.g4 ?_;refine qBt (bL S [93]) Y U ho ?_;intro u b3 OT n11 al ah a1 ak a7 M b0 ay;have ee:EV l (List.take xs.length (List.drop 0 xs)):=(by rw[List.drop_zero,List.take_length];exact a2);refine z4 M.g1 M.g2 M.g3 @qCD ?_;refine qCJ (fun x hx=>a2.frozen x (List.mem_of_mem_take hx)) ?_;refine zz ?_;exact qC9<|((M.set3 _).del1).ends (a1) (.mk rfl rfl (.vec ee))
  .have a9:ms=uX f s1:=a9;rw[uX]at a9;refine z1 T5.g2 ?_;refine qCK (qBx (RV S) T5 fun n7 h7 bj T7=>?_);have O:=a9.trans (P.ok_bind (x:=P.maps) rfl);cases hmp:eW (s1.l.drop s1.pos) 1 with
   |true=>
    rw[hmp]at O;replace O:=nt O;refine z2 hmp T7.g2 ?_;refine qCK (St.listed S hk (Z:=[]) (a:=[.ref o 0]) (c:=[]) (Mb.x []) (fun _=>rfl) f hf T7 Holds.nil O ho ?_ ?_ fun e he n2 h2 _ _=>by(refine zz ?_);exact qC9<|.err he)
    .intro l s8 xs n8 h8 bw a3 ao az ag T8;refine z1 T8.g2 ?_;refine qBt (bL S [124,45,62]) T8 a3 ho ?_;intro u s9 v9 n9 h9 cp ae cq cc T9 cx cu;refine z1 T9.g2 ?_;refine qBt (Me) T9 ae ho ?_;intro bk s10 Dg n10 ap ab U a2 a6 Y ce c6;obtain⟨aj,rfl,b9,b8,cb,ch,b4⟩:=a2.sh;have ac:=aM (xs.length+1) 104 om om;refine z5 b9 b8 @aB ac Y.g2 ?_;refine aA.st (Y.cell (.arr 8 (xs++[AV.agg aj]))) fun al M=>?_;refine qBt (bL S [93]) M U ho ?_;intro u br zK n12 bd b6 ad ax au a5 bc b7;have ee:EV (l++[bk]) (List.take (xs.length+1) (List.drop 0 (xs++[AV.agg aj]))):=(by rw[List.drop_zero,sU];exact ao.append (.cons b4 .nil));refine z3 a5.g1 a5.g2 @qCD ?_;refine qCJ ⟨by rw[wB];omega,fun x hx=>(ao.append (.cons b4 .nil)).frozen x (List.mem_of_mem_take hx)⟩ ?_;refine zz ?_;exact qC9<|((a5.set2 _).del1).ends (ad) (.mk rfl rfl (.vec ee))
    .intro l s8 xs b n8 h8 bw a3 ao az ag hb T8;have bl:n+1<b/\n<=n+1:=T8.l2;refine z1 T8.g3 ?_;refine qBt (bL S [124,45,62]) T8 a3 ho ?_;intro u s9 v9 n9 h9 cp ae cq cc T9 cx cu;refine z1 T9.g3 ?_;refine qBt (Me) T9 ae ho ?_;intro bk s10 Dg n10 ap ab U a2 a6 Y ce c6;obtain⟨aj,rfl,b9,b8,cb,ch,b4⟩:=a2.sh;have ac:=aM (xs.length+1) 104 om om;refine z6 b9 b8 @aB ac Y.g3 Y.g1 ?_;refine aA.st (Y.del1.cell (.arr 8 (xs++[AV.agg aj]))) fun al M=>?_;refine qBt (bL S [93]) M U ho ?_;intro u br zK n12 bd b6 ad ax au a5 bc b7;have ee:EV (l++[bk]) (List.take (xs.length+1) (List.drop 0 (xs++[AV.agg aj]))):=(by rw[List.drop_zero,sU];exact ao.append (.cons b4 .nil));refine z3 a5.g1 a5.g2 @qCD ?_;refine qCJ ⟨by rw[wB];omega,fun x hx=>(ao.append (.cons b4 .nil)).frozen x (List.mem_of_mem_take hx)⟩ ?_;refine zz ?_;exact qC9<|((a5.set2 _).del1).ends (ad) (.mk rfl rfl (.vec ee))
   |false=>
    rw[hmp]at O;replace O:=nf O;refine z2 hmp T7.g2 ?_;refine qBt (Me) T7 O ho ?_;intro a8 s8 v8 n8 h8 bw a3 ao az T8 _ _;obtain⟨b5,rfl,b2,b1,_,be,E8⟩:=ao.sh;refine z3 b2 b1 T8.g2 ?_;refine aA.st (T8.newc _ (.cells b5)) fun h9 T9=>?_;refine qCK (St.take S T9 a3 ?_ ?_)
    .intro s10 n10 ap ab U a6 Y;replace U:=nt U;refine z1 Y.g3 ?_;refine qBt (Me) Y U ho ?_;intro _ b3 OT n11 al ah a1 ak a7 M b0 ay;obtain⟨bu,rfl,bi,bh,_,ci,cn⟩:=ak.sh;refine z3 bi bh M.g3 ?_;refine aA.st (M.newc _ (.cells bu)) fun bd a5=>?_;refine qBt (bL S [93]) a5 a1 ho ?_;intro u ck _ n13 c5 bg an a4 ba aa _ _;refine z11 aa.g1 aa.g2 aa.g3 b2 bi b1 bh be ci @aB @qCD ?_;exact qC9<|(aa.set3 _).ends (an) (.mk rfl rfl (.vec (.cons E8 (.cons cn .nil))))
    .intro s10 n10 ap ab U a6 Y;replace U:=nf U;refine z1 Y.g3 ?_;refine qCK (St.take S Y U ?_ ?_)
     .intro b3 n11 al ah a1 a7 M;replace a1:=nt a1;refine zz ?_;refine qCP [(0,2)] [] kr ?_;refine z5 M.g1 M.g3 b2 b1 be ?_;refine qBv (Ms) M a1 ho M.o1 ?_;intro _ br zK n12 bd b6 ad ax au _ a5 bc b7;obtain⟨_,rfl,c9,c8,_,_,co⟩:=ax.sh;refine g8 M.o1 b2 b1 c9 c8 @aB a5.g2 @qCD ?_;refine qCT fun _ _ _=>?_;refine zz ?_;exact qC9<|(a5.set2 _).ends (ad) (.mk rfl rfl (.vec (.cons E8 (.cons co .nil))))
     .intro b3 n11 al ah a1 a7 M;replace a1:=nf a1;refine z1 M.g3 ?_;refine qBt (bL S [69,88,67,69,80,84]) M a1 ho ?_;intro u br zK n12 bd b6 ad ax au a5 bc b7;refine z1 a5.g3 ?_;refine qCK (St.listed S hk (Z:=[]) (a:=[.ref o 0]) (c:=[]) (Mu.x []) (fun _=>rfl) f hf a5 Holds.nil ad ho ?_ ?_ fun e he n2 h2 _ _=>by(refine zz ?_);exact qC9<|.err he)
      .intro l ck xs n13 c5 bg an a4 ba ag aa;refine z1 aa.g3 ?_;refine qBt (bL S [93]) aa an ho ?_;intro u cA cB n14 ct bv bb bz bm ai cf c7;cases xs with
       |nil=>simp at ag
       |cons z zs=>
       have bq:=a4.whole;have cj:=a4.length;have ac:=aM (1+(zs.length+1)) 104 (by simp at ag;omega) om;have ee:EV (a8::l) (List.take (1+(zs.length+1)) (List.drop 0 (AV.agg b5::z::zs))):=(by rw[List.drop_zero,List.take_of_length_le (by simp;omega)];exact .cons E8 a4);refine x9 ai.g1 ai.g2 b2 b1 be @aB bq ac @qCD ?_;have ar:=(EV.cons E8 a4).frozen;refine qCJ (by first | exact fun x hx=>ar x (List.mem_of_mem_take hx) | exact fun x hx=>ar x hx | exact⟨by omega,fun x hx=>ar x (List.mem_of_mem_take hx)⟩) ?_;refine zz ?_;exact qC9<|(((ai.cell (.arr 8 (AV.agg b5::z::zs))).set3 _).del1).ends (bb) (.mk rfl rfl (.vec ee))
      .intro l ck xs b n13 c5 bg an a4 ba ag hb aa;have bl:n8<b/\n<=n8:=aa.l2;refine z1 aa.g4 ?_;refine qBt (bL S [93]) aa an ho ?_;intro u cA cB n14 ct bv bb bz bm ai cf c7;cases xs with
       |nil=>simp at hb
       |cons z zs=>
       have d1:b<n14/\n<=b:=ai.l1;have bq:=a4.whole;have cj:=a4.length;have ac:=aM (1+(zs.length+1)) 104 (by simp at ag;omega) om;have cz:List.take (zs.length+1) (z::zs)=z::zs:=List.take_of_length_le sm;have ee:EV (a8::l) (List.take (1+(zs.length+1)) (List.drop 0 (AV.agg b5::z::zs))):=(by rw[List.drop_zero,List.take_of_length_le (by simp;omega)];exact .cons E8 a4);refine TF ai.g1 ai.g2 ai.g3 b2 b1 be @aB bq ac cz @qCD ?_;have ar:=(EV.cons E8 a4).frozen;refine qCJ (by first | exact fun x hx=>ar x (List.mem_of_mem_take hx) | exact fun x hx=>ar x hx | exact⟨by omega,fun x hx=>ar x (List.mem_of_mem_take hx)⟩) ?_;refine zz ?_;exact qC9<|(((ai.cell (.arr 8 (AV.agg b5::z::zs))).set4 _).del1).ends (bb) (.mk rfl rfl (.vec ee))
theorem Sj {x:Node}{v:AV}(e:EN x v){n:Nat}{h:Hp}{Q:aS->Nat->Hp->Prop}(hQ:∀ n' h',n<=n'->aE n' h'->(∀ t,t<n->h'.get t=h.get t)->Q (.returned (.bool (decide (x.kind≠14)))) n' h') :
  aG Tryz.prog Gl Gm Kp 387 [v] n h (fun _=>False) Q:=by
 refine aG.mono (B:=fun _=>False) (Q:=fun e _ _=>e=.returned (.bool (decide (x.kind≠14)))) ?_ (fun _ _ h=>h) (fun e n' h' a b c d=>by subst d;exact hQ n' h' a b (fun t O=>c t O id));refine qB6 S 6 [.tmp 2] Tryz.func387 fun _ _=>?_;cases e with
 |@mk k nn s g d l a e lv hd ho hel=>
 have h1:=hel.one;refine z2 ho h1 ?_;exact qCI fun _ _ _=>by by_cases M:k=14<;>simp[Node.kind,M]
omit S in
theorem WP (args:List AV):aT Tryz.prog 387 args=.ret (.enter 387 args):=aH Tryz.func387 rfl kr args
omit S in
theorem EV.get:∀{l:List Node}{xs:List AV} (_:EV l xs) (i:Nat) (hi:i<l.length),∃ v,xs[i]?=some v/\EN l[i] v
 |_,_,.nil,i,hi=>absurd hi (Nat.not_lt_zero _)
 |_,_,.cons h t,0,_=>⟨_,rfl,h⟩
 |_,_,.cons h t,i+1,hi=>t.get i (Nat.lt_of_succ_lt_succ hi)
theorem Yp {l:List Node}{lv:AV}(e:EL l lv)(hlen:l.length<1000000000){n:Nat}{h:Hp}{Q:aS->Nat->Hp->Prop}(hQ:∀ r n' h',n<=n'->aE n' h'->(∀ t,t<n->h'.get t=h.get t)->decide (0<=r)=l.any (fun m=>decide (m.kind≠14))->Q (.returned (.int .i64 r)) n' h') :
  aG Tryz.prog Gl Gm Kp 160 [lv,.fn (.func 387) [] []] n h (fun _=>False) Q:=by
 refine aG.mono (B:=fun _=>False) (Q:=fun e _ _=>∃ r,e=.returned (.int .i64 r)/\decide (0<=r)=l.any (fun m=>decide (m.kind≠14))) ?_ (fun _ _ h=>h) (fun e n' h' a b c d=>by obtain⟨r,rfl,d⟩:=d;exact hQ r n' h' a b (fun t U=>c t U id) d);refine qB6 S 19 [.tmp 4] Tryz.func160 fun hB hl=>?_;cases e with
 |nil=>
  refine zz ?_;refine qCQ (E0:=[(8,.int .i64 (0:Nat)),(7,.int .i64 (0:Nat))]) (fun k E nn hh=>E=[(8,.int .i64 (0:Nat)),(7,.int .i64 (0:Nat))]) 0 ?_ rfl ?_
  .exact sb
  .rintro k E nn hh hlk hBk rfl;refine zz ?_;exact qC9<|⟨_,rfl,by simp⟩
 |vec e=>
  rename_i xs fl;have Y:=e.length;refine z1 Y ?_;refine qCu (fun k E nn hh=>∃ i:Nat,i+k=l.length/\E=[(0,.vec xs 8 fl),(1,.fn (.func 387) [] []),(6,.vec xs 8 fl),(7,.int .i64 l.length),(8,.int .i64 i)]/\n<=nn/\(∀ t,t<n->hh.get t=h.get t)/\(l.take i).any (fun m=>decide (m.kind≠14))=false) l.length ⟨0,by omega,rfl,Nat.le_refl _,fun _ _=>rfl,by simp⟩ ?_
  .rintro k E nn hh hlk hBk ⟨i,hi,rfl,hnn,hkk,hno⟩;by_cases M:i<l.length
   .obtain⟨v,O,ev⟩:=e.get i M;have a1:=ev;obtain⟨cs,rfl,hc,ha,hf⟩:=a1.shape;have U:List.take 8 cs=cs:=List.take_of_length_le om;refine z6 O Y hc ha U @WP ?_;refine qCK ((Sj S ev fun n1 h1 a3 a4 a2=>?_).mono (fun _ _ h=>h.elim) fun _ _ _ _ _ _ h=>h);cases hd:decide (l[i].kind≠14) with
    |true=>
     refine z1 hd ?_;refine qC9<|⟨_,rfl,?_⟩;have hc:l.any (fun m=>decide (m.kind≠14))=true:=List.any_eq_true.2 ⟨l[i],List.getElem_mem M,hd⟩;rw[hc];exact decide_eq_true om
    |false=>
     refine z1 hd ?_;refine aU.mq (k-1) ⟨i+1,by omega,rfl,by omega,fun t U=>(a2 t om).trans (hkk t U),?_⟩;rw[List.take_succ_eq_append_getElem M,List.any_append,hno];simp only[List.any_cons,hd,Bool.false_or]
     rfl
   .refine zz ?_;refine qC9<|⟨_,rfl,?_⟩;rw[List.take_of_length_le om]at hno;rw[hno]
    rfl
theorem Vl {l:List Node}{lv:AV}(e:EL l lv)(hlen:l.length<1000000000){n:Nat}{h:Hp}{Q:aS->Nat->Hp->Prop}(hQ:∀ n' h',n<=n'->aE n' h'->(∀ t,t<n->h'.get t=h.get t)->Q (.returned (.bool (l.any (fun m=>decide (m.kind≠14))))) n' h') :
  aG Tryz.prog Gl Gm Kp 101 [lv,.fn (.func 387) [] []] n h (fun _=>False) Q:=by
 refine aG.mono (B:=fun _=>False) (Q:=fun e _ _=>e=.returned (.bool (l.any (fun m=>decide (m.kind≠14))))) ?_ (fun _ _ h=>h) (fun e n' h' a b c d=>by subst d;exact hQ n' h' a b (fun t O=>c t O id));refine qB6 S 9 [.tmp 4] Tryz.func101 fun _ _=>?_;refine zz ?_;refine qCK ((Yp S e hlen fun r n1 h1 _ _ _ M=>?_).mono (fun _ _ h=>h.elim) fun _ _ _ _ _ _ h=>h);refine zz ?_;refine qCI fun _ _ _=>?_;rw[<- M]
theorem Fj (hk:Kp 120=(true,false)){l:List Node}{lv:AV}(e:EL l lv)(hne:l≠[])(hlen:l.length<=1000000){n:Nat}{h:Hp}{Q:aS->Nat->Hp->Prop}
  (hQ:∀ v n' h',n<=n'->aE n' h'->(∀ t,t<n->h'.get t=h.get t)->(∃ b xs,v=.sl b 0 l.length/\n<=b/\h'.get b=some (.arr 8 xs)/\EV l xs)->Q (.returned v) n' h') :
  aG Tryz.prog Gl Gm Kp 120 [lv] n h (fun _=>False) Q:=by
 refine aG.mono (B:=fun _=>False) (Q:=fun e _ h'=>∃ v,e=.returned v/\(∃ b xs,v=.sl b 0 l.length/\n<=b/\h'.get b=some (.arr 8 xs)/\EV l xs)) ?_ (fun _ _ h=>h) (fun e n' h' a b c d=>by obtain⟨v,rfl,d⟩:=d;exact hQ v n' h' a b (fun t O=>c t O id) d);refine aG.code 8 [.tmp 2] Tryz.func120 rfl (S.gm _ dc) hk rfl rfl fun hB hl=>?_;have hu:Tryz.prog.underlying 30=some (.slice 32):=kr;cases e with
 |nil=>exact absurd rfl hne
 |vec e=>
  cases e with
  |nil=>exact absurd rfl hne
  |cons hy O=>
  rename_i x0 v00 l0 vs0;have e:=EV.cons hy O;have Y:=e.whole;have U:=O.length;simp only[List.length_cons]at hlen;have M:=aM (vs0.length+1) 104 om om;simp -dsimp (disch:=first | assumption | omega) only [go_sem,Nat.reduceLT,Nat.reduceBEq,Nat.reduceAdd,Nat.reduceSub,Nat.reduceLeDiff,Nat.reduceEqDiff,↓reduceIte,beq_true,beq_false,decide_eq_true,decide_eq_false,Vy hu,Y,M,List.length_cons,List.length_nil,Nat.zero_add];exact qC9<|⟨_,rfl,⟨n,v00::vs0,by simp[U],Nat.le_refl _,bM _ _ _,e⟩⟩
theorem EE (hk:Kp 120=(true,false)){x:eD}{v:AV}(e:EO x v)(hf:pM x=true){n:Nat}{h:Hp}{Q:aS->Nat->Hp->Prop}
  (hQ:∀ bv n' h',n<=n'->aE n' h'->(∀ t,t<n->h'.get t=h.get t)->(∀ b,iD x=some b->EN b bv)->(∃ b,EN b bv)->Q (.returned (.tup [bv,.bool (iD x).isSome])) n' h') :
  aG Tryz.prog Gl Gm Kp 364 [v] n h (fun _=>False) Q:=by
 refine aG.mono (B:=fun _=>False) (Q:=fun e _ _=>∃ bv,e=.returned (.tup [bv,.bool (iD x).isSome])/\(∀ b,iD x=some b->EN b bv)/\∃ b,EN b bv) ?_ (fun _ _ h=>h) (fun e n' h' a b c d=>by obtain⟨bv,rfl,d,d2⟩:=d;exact hQ bv n' h' a b (fun t ht=>c t ht id) d d2);refine qB6 S 61 [.cell 2 32,.tmp 3] Tryz.func364 fun hB hl=>?_;cases e with
 |@mk k nn s g d l a e fr to lv hd ho hel=>
 have h1:=hel.one;have b9:=hel.flat;have Y:EN (.mk k nn s g d l a e) (.agg [.int .i64 k,.int .i64 nn,.str s,.bool g,d,lv,.int .i64 a,.int .i64 e]):=.mk hd ho hel;refine z2 ho h1 ?_;by_cases k1:k=21
 .have c1:decide (k=21)=true:=decide_eq_true k1;cases c2:s==[92,105,110] with
  |false=>
   have O:iD ⟨.mk k nn s g d l a e,fr,to⟩=none:=(by simp[iD,k1];intro hs;rw[hs]at c2;cases c2);refine g7 c1 c2 @Bool.not_true @Bool.not_false ho h1 @bO ?_;refine qC9<|⟨_,by rw[O];rfl,(fun b hb=>by rw[O]at hb;cases hb),_,Y⟩
  |true=>
   by_cases k3:fr=a
   .have c3:decide (fr=a)=true:=decide_eq_true k3;have a7:l.length=2/\l.all (fun y=>decide (y.l.length<1000000))=true:=by
     have:=hf;simp only[pM,c1,c2,c3,Bool.and_self,Bool.not_true,Bool.false_or,Bool.and_eq_true,decide_eq_true_eq]at this;exact this
    obtain⟨a7,b2⟩:=a7;cases hel with
    |nil=>cases a7
    |vec ev=>
    rename_i xs fl;cases ev with
    |nil=>cases a7
    |cons hy hr=>
    rename_i y yv l1 xs1;cases hr with
    |nil=>cases a7
    |cons hz hr=>
    rename_i z zv0 l2 xs2;cases hr with
    |cons _ _=>simp at a7
    |nil=>
    have ey:=hy;cases hy with
    |@mk ky ny sy gy dy ly ay ey' lvy hdy hoy hely=>
    have aj:=hely.one;have b8:ly.length<1000000:=by
     have h:=b2;simp[Node.l]at h;exact of_decide_eq_true h.1
    have ez:=hz;have b0:=hz;obtain⟨ai,ah,an,ar,a4⟩:=b0.shape;have b4:List.take 8 ai=ai:=List.take_of_length_le om;subst ah;generalize ah:AV.agg ai=zv at *;have a8:dM dC 8 [AV.agg [.int .i64 ky,.int .i64 ny,.str sy,.bool gy,dy,lvy,.int .i64 ay,.int .i64 ey'],zv] 0=some (.int .i64 ky):=rfl;have al:dM dC 8 [AV.agg [.int .i64 ky,.int .i64 ny,.str sy,.bool gy,dy,lvy,.int .i64 ay,.int .i64 ey'],zv] 5=some lvy:=rfl;have a9:dM (iP 8) 8 [AV.agg [.int .i64 ky,.int .i64 ny,.str sy,.bool gy,dy,lvy,.int .i64 ay,.int .i64 ey'],zv] 8=some zv:=(by subst ah;show iP 8 ai 0=_;simp[iP,sub,List.drop_zero,b4,an];rfl);have aa:[AV.agg [.int .i64 ky,.int .i64 ny,.str sy,.bool gy,dy,lvy,.int .i64 ay,.int .i64 ey'],zv][0]?=some (.agg [.int .i64 ky,.int .i64 ny,.str sy,.bool gy,dy,lvy,.int .i64 ay,.int .i64 ey']):=rfl;have a3:dE (some (.int .i64 1)) 2=some 1:=rfl;have a5:inside 0 2=some 0:=rfl;have a6:inside 1 2=some 1:=rfl;by_cases k4:ky=40
    .have c4:decide (ky=40)=true:=decide_eq_true k4;cases hely with
     |nil=>
      have O:iD ⟨.mk k nn s g d [.mk ky ny sy gy dy [] ay ey',z] a e,fr,to⟩=none:=by simp[iD,k4,Node.kind,Node.l]
      (repeat (first | (refine qCJ om ?_) | (simp -dsimp (disch:=first | assumption | omega) only [go_sem,Nat.reduceLT,Nat.reduceBEq,Nat.reduceAdd,Nat.reduceSub,Nat.reduceLeDiff,Nat.reduceEqDiff,↓reduceIte,beq_true,beq_false,decide_eq_true,decide_eq_false,c1,c2,c3,aa,Bool.not_true,Bool.not_false,ho,h1,aj,hoy,bO,List.length_cons,List.length_nil,a3,a5,a6,Nat.zero_mul,Nat.one_mul,a8,al,a9,List.drop_zero,List.take_succ_cons,List.take_zero,c4])))
      refine qC9<|⟨_,by rw[O];rfl,(fun b hb=>by rw[O]at hb;cases hb),_,Y⟩
     |vec evy=>
      rename_i xsy fly;have ag:=evy.length;by_cases ak:ly=[]
      .subst ak;have O:iD ⟨.mk k nn s g d [.mk ky ny sy gy dy [] ay ey',z] a e,fr,to⟩=none:=(by simp[iD,k4,Node.kind,Node.l]);rw[List.length_nil]at ag
       (repeat (first | (refine qCJ om ?_) | (simp -dsimp (disch:=first | assumption | omega) only [go_sem,Nat.reduceLT,Nat.reduceBEq,Nat.reduceAdd,Nat.reduceSub,Nat.reduceLeDiff,Nat.reduceEqDiff,↓reduceIte,beq_true,beq_false,decide_eq_true,decide_eq_false,c1,c2,c3,aa,Bool.not_true,Bool.not_false,ho,h1,aj,hoy,bO,List.length_cons,List.length_nil,a3,a5,a6,Nat.zero_mul,Nat.one_mul,a8,al,a9,List.drop_zero,List.take_succ_cons,List.take_zero,c4,ag])))
       refine qC9<|⟨_,by rw[O];rfl,(fun b hb=>by rw[O]at hb;cases hb),_,Y⟩
      .have az:ly.length≠0:=fun h=>ak (List.length_eq_zero_iff.1 h);have c5:decide (ly.length=0)=false:=decide_eq_false az;have M:iD ⟨.mk k nn s g d [.mk ky ny sy gy dy ly ay ey',z] a e,fr,to⟩=if ly.any (fun m=>decide (m.kind≠14)) then none else some (.mk 26 1 [] false .sl0 (ly++[z]) a e):=by
        have c6:ly.isEmpty=false:=(by simpa using ak);simp[iD,k4,Node.kind,Node.l,k1,eq_of_beq c2,k3,ak]
       (repeat (first | (refine qCJ om ?_) | (simp -dsimp (disch:=first | assumption | omega) only [go_sem,Nat.reduceLT,Nat.reduceBEq,Nat.reduceAdd,Nat.reduceSub,Nat.reduceLeDiff,Nat.reduceEqDiff,↓reduceIte,beq_true,beq_false,decide_eq_true,decide_eq_false,c1,c2,c3,aa,Bool.not_true,Bool.not_false,ho,h1,aj,hoy,bO,List.length_cons,List.length_nil,a3,a5,a6,Nat.zero_mul,Nat.one_mul,a8,al,a9,List.drop_zero,List.take_succ_cons,List.take_zero,c4,ag,c5])))
       refine qCK ((Vl S (EL.vec evy) (by first | omega | simp) fun n5 h5 aw b3 a2=>?_).mono (fun _ _ h=>h.elim) fun _ _ _ _ _ _ h=>h);have q0:h5.get n=some (.cells [.int .i64 k,.int .i64 nn,.str s,.bool g,d,.vec [.agg [.int .i64 ky,.int .i64 ny,.str sy,.bool gy,dy,.vec xsy 8 fly,.int .i64 ay,.int .i64 ey'],zv] 8 fl,.int .i64 a,.int .i64 e,.int .i64 fr,.int .i64 to]):=(a2 _ om).trans (zc);have q1:h5.get (n+1)=some (.cells cC):=(a2 _ om).trans (y1 @qCD);have q2:h5.get (n+1+1)=some (.cells [.int .i64 k,.int .i64 nn,.str s,.bool g,d,.vec [.agg [.int .i64 ky,.int .i64 ny,.str sy,.bool gy,dy,.vec xsy 8 fly,.int .i64 ay,.int .i64 ey'],zv] 8 fl,.int .i64 a,.int .i64 e]):=(a2 _ om).trans (zc);cases hany:ly.any (fun m=>decide (m.kind≠14)) with
       |true=>
        rw[hany]at M;replace M:=nt M;refine g8 q0 q1 q2 @qCD c1 ho h1 @bO ?_;refine qC9<|⟨_,by rw[M];rfl,(fun b hb=>by rw[M]at hb;cases hb),_,Y⟩
       |false=>
        rw[hany]at M;replace M:=nf M;subst ah;refine g8 q0 q1 q2 @qCD c1 ho h1 @bO ?_;refine qCP [(2,4),(2,5),(2,6),(2,10),(8,10),(2,12),(8,12)] [ (2,3),(2,4),(2,5),(2,6),(2,7),(2,9),(2,10),(2,11),(2,12)] kr ?_;refine g8 q0 q1 q2 @qCD c1 ho h1 @bO ?_;refine qCN (fun _=>False) (fun _ _ h=>h.elim) (Fj S hk (EL.vec evy) (by first | assumption | simp) (by first | omega | simp) fun v6 n6 h6 ax ao ae ap=>?_);obtain⟨b6,b7,rfl,b1,ad,ab⟩:=ap;have U:=ab.length;have au:=aN ao ad;have r1:=(ae _ om).trans q1;have r2:=(ae _ om).trans q2;have ac:=aM (ly.length+1) 104 (by first | omega | (simp)) om;have a1:=aM 2 104 dc dc;refine Bg r1 r2 @qCD c1 ho h1 ad aa a3 a5 a6 (And.intro @Nat.zero_mul (And.intro @Nat.one_mul (And.intro a8 (And.intro a9 (And.intro an (And.intro ar (And.intro U (And.intro ac (And.intro a1 @aB))))))))) ?_;refine qCT fun b5 _ _=>?_;have ee:=ab.append (.cons ez .nil);have a4:=ee.frozen;refine zz ?_;refine qCJ (by first | exact fun x hx=>a4 x (List.mem_of_mem_take hx) | exact⟨by simp[U],fun x hx=>a4 x (List.mem_of_mem_take hx)⟩) ?_;refine zz ?_;refine qC9<|⟨_,by rw[M];rfl,(fun b hb=>by rw[M]at hb;cases hb;exact .mk rfl rfl (.vec (by rw[List.drop_zero,List.take_of_length_le (by simp[U])];exact ee))),_,.mk (k:=26) (a:=a) (e:=e) (s:=[]) (g:=false) (n:=1) rfl rfl (.vec (by rw[List.drop_zero,List.take_of_length_le (by simp[U])];exact ee))⟩
    .have c4:decide (ky=40)=false:=decide_eq_false k4;have M:iD ⟨.mk k nn s g d [.mk ky ny sy gy dy ly ay ey',z] a e,fr,to⟩=if [Node.mk ky ny sy gy dy ly ay ey'].any (fun m=>decide (m.kind≠14)) then none else some (.mk 26 0 [] false .sl0 ([.mk ky ny sy gy dy ly ay ey']++[z]) a e):=by
      simp[iD,k4,Node.kind,Node.l,k1,eq_of_beq c2,k3]
     (repeat (first | (refine qCJ om ?_) | (simp -dsimp (disch:=first | assumption | omega) only [go_sem,Nat.reduceLT,Nat.reduceBEq,Nat.reduceAdd,Nat.reduceSub,Nat.reduceLeDiff,Nat.reduceEqDiff,↓reduceIte,beq_true,beq_false,decide_eq_true,decide_eq_false,c1,c2,c3,aa,Bool.not_true,Bool.not_false,ho,h1,aj,hoy,bO,List.length_cons,List.length_nil,a3,a5,a6,Nat.zero_mul,Nat.one_mul,a8,al,a9,List.drop_zero,List.take_succ_cons,List.take_zero,c4])))
     refine qCK ((Vl S (EL.vec (.cons ey .nil) (f:=true)) (by first | omega | simp) fun n5 h5 aw b3 a2=>?_).mono (fun _ _ h=>h.elim) fun _ _ _ _ _ _ h=>h);have q0:h5.get n=some (.cells [.int .i64 k,.int .i64 nn,.str s,.bool g,d,.vec [.agg [.int .i64 ky,.int .i64 ny,.str sy,.bool gy,dy,lvy,.int .i64 ay,.int .i64 ey'],zv] 8 fl,.int .i64 a,.int .i64 e,.int .i64 fr,.int .i64 to]):=(a2 _ om).trans (zc);have q1:h5.get (n+1)=some (.cells cC):=(a2 _ om).trans (y1 @qCD);have q2:h5.get (n+1+1)=some (.cells [.int .i64 k,.int .i64 nn,.str s,.bool g,d,.vec [.agg [.int .i64 ky,.int .i64 ny,.str sy,.bool gy,dy,lvy,.int .i64 ay,.int .i64 ey'],zv] 8 fl,.int .i64 a,.int .i64 e]):=(a2 _ om).trans (zc);cases hany:[Node.mk ky ny sy gy dy ly ay ey'].any (fun m=>decide (m.kind≠14)) with
     |true=>
      rw[hany]at M;replace M:=nt M;refine g8 q0 q1 q2 @qCD c1 ho h1 @bO ?_;refine qC9<|⟨_,by rw[M];rfl,(fun b hb=>by rw[M]at hb;cases hb),_,Y⟩
     |false=>
      rw[hany]at M;replace M:=nf M;subst ah;refine g8 q0 q1 q2 @qCD c1 ho h1 @bO ?_;refine qCP [(2,4),(2,5),(2,6),(2,10),(8,10),(2,12),(8,12)] [ (2,3),(2,4),(2,5),(2,6),(2,7),(2,9),(2,10),(2,11),(2,12)] kr ?_;refine g8 q0 q1 q2 @qCD c1 ho h1 @bO ?_;refine qCN (fun _=>False) (fun _ _ h=>h.elim) (Fj S hk (EL.vec (.cons ey .nil) (f:=true)) (by first | assumption | simp) (by first | omega | simp) fun v6 n6 h6 ax ao ae ap=>?_);obtain⟨b6,b7,rfl,b1,ad,ab⟩:=ap;have U:=ab.length;have au:=aN ao ad;have r1:=(ae _ om).trans q1;have r2:=(ae _ om).trans q2;have ac:=aM ([Node.mk ky ny sy gy dy ly ay ey'].length+1) 104 (by first | omega | (simp)) om;have a1:=aM 2 104 dc dc;refine Bg r1 r2 @qCD c1 ho h1 ad aa a3 a5 a6 (And.intro @Nat.zero_mul (And.intro @Nat.one_mul (And.intro a8 (And.intro a9 (And.intro an (And.intro ar (And.intro U (And.intro ac (And.intro a1 @aB))))))))) ?_;refine qCT fun b5 _ _=>?_;have ee:=ab.append (.cons ez .nil);have a4:=ee.frozen;refine zz ?_;refine qCJ (by first | exact fun x hx=>a4 x (List.mem_of_mem_take hx) | exact⟨by simp[U],fun x hx=>a4 x (List.mem_of_mem_take hx)⟩) ?_;refine zz ?_;refine qC9<|⟨_,by rw[M];rfl,(fun b hb=>by rw[M]at hb;cases hb;exact .mk rfl rfl (.vec (by rw[List.drop_zero,List.take_of_length_le (by simp[U])];exact ee))),_,.mk (k:=26) (a:=a) (e:=e) (s:=[]) (g:=false) (n:=0) rfl rfl (.vec (by rw[List.drop_zero,List.take_of_length_le (by simp[U])];exact ee))⟩
   .have c3:decide (fr=a)=false:=decide_eq_false k3;have O:iD ⟨.mk k nn s g d l a e,fr,to⟩=none:=(by simp[iD,k3]);refine g8 c1 c2 c3 @Bool.not_true @Bool.not_false ho h1 @bO ?_;refine qC9<|⟨_,by rw[O];rfl,(fun b hb=>by rw[O]at hb;cases hb),_,Y⟩
 .have c1:decide (k=21)=false:=decide_eq_false k1;have O:iD ⟨.mk k nn s g d l a e,fr,to⟩=none:=(by simp[iD,k1]);refine g6 c1 @Bool.not_true @Bool.not_false ho h1 @bO ?_;refine qC9<|⟨_,by rw[O];rfl,(fun b hb=>by rw[O]at hb;cases hb),_,Y⟩
end
section
variable {Gl:qC6}{Gm:qC7}{Kp:qC8}(S:Seat Gm Kp)
def Wm (f:Nat)(x:eD):P Node:=P.take [58] >>= fun b=>
 if b then (if !pM x then P.oof else match iD x with
  |some b=>cS f >>= fun e=>P.pure (nd 28 [] [b,e])
  |none=>P.listed f (nG f) >>= fun l=>P.pure (nd 29 [] (x.n::l)))
 else P.take [44] >>= fun b=>
  if b then P.listed f (cS f) >>= fun l=>P.pure (nd 27 [] (x.n::l)) else P.pure (nd 27 [] [x.n])
theorem SK (f:Nat):Oy (f+1)=(P.step 1 >>= fun _=>P.take [125] >>= fun b=>if b then P.pure (nd 27 [] []) else gU f [] >>= fun x=>Wm f x >>= fun n=>P.need [125] >>= fun _=>P.pure n):=by
 rw[Oy.eq_2]
 rfl
include S
theorem qAU (hk:Kp 146=(true,false))(hk2:Kp 120=(true,false)){o pm im:Nat}{lv:AV}(f:Nat)(hf:f<1000000000)(Me:aL Gl Gm Kp 76 [.ref o 0] o pm im lv (cS f) EN)(Mb:aL Gl Gm Kp 294 [.ref o 0] o pm im lv (nG f) EN)
  (Mw:aL Gl Gm Kp 124 [.ref o 0] o pm im lv (gU f []) EO):aL Gl Gm Kp 337 [.ref o 0] o pm im lv (Oy (f+1)) EN:=by
 refine aL.st fun n h cv s T0 ho=>aG.cut 59 [.cell 2 32] 6 (fun E nn hh=>∃(L:LS) (l:List Node) (s2:PS) (cv2:AV) (k:Int) (nO:Nat),E=[(0,.ref o 0),(2,.ref n 0),(4,.ref nO 0)]/\
  Oy (f+1) s=(P.need [125] >>= fun _=>P.pure (nd k [] l)) s2/\EV l L.xs/\n+1<=nO/\((∃ xs,L=.vec xs)\/∃ b xs kk,L=.arr b xs kk/\kk=xs.length)/\
  (aE nn hh->St n h o pm im lv cv (L.objs++[(nO,.cells (bC k 0 [] L.val)),(n,.cells cC)]) s2 nn hh cv2))
  Tryz.func337 rfl (S.gm _ dc) (S.kp _ dc dc) rfl rfl (fun hB _=>?_) (fun hB E nn hh bp bq au=>?_)
 .have b3:=congrFun (SK f) s;have bw:=T0.on;have c7:=T0.lt;have bm:=T0.rep.len;refine zz ?_;obtain⟨bz,b6⟩:=cJ (fun hc=>ho (b3.trans hc));have br:=b3.trans (P.ok_bind b6);refine z2 T0.obj @aQ ?_;refine aA.st ((T0.cell (.cells cC)).pos bz) fun hA T1=>?_;refine qCK (St.take S T1 br ?_ ?_)
  .intro s2 n2 h2 cv2 a6 az T2;replace a6:=nt a6;refine z2 T2.g1 @qCD ?_;exact qC9<|(T2.set1 _).ends (a6) (.mk rfl rfl .nil)
  .intro s2 n2 h2 cv2 a6 az T2;replace a6:=nf a6;refine zz ?_;refine qBt (Mw) T2 a6 ho ?_;intro a4 s4 v4 n4 h4 c8 b4 ba c6 T4 cf cb;have bi:=aM 2 104 dc dc;cases ba with
   |mk hd hone hl'=>
   rename_i k m t g d l a e fr to lw;have a1:=hl'.one;have EX:EN (.mk k m t g d l a e) (.agg [.int .i64 k,.int .i64 m,.str t,.bool g,d,lw,.int .i64 a,.int .i64 e]):=.mk hd hone hl';have b8:=EO.mk (k:=k) (n:=m) (s:=t) (g:=g) (a:=a) (e:=e) (fr:=fr) (to:=to) hd hone hl';refine z3 hone a1 @aB ?_;refine aA.st ((T4.newc _ (.cells [.int .i64 k,.int .i64 m,.str t,.bool g,d,lw,.int .i64 a,.int .i64 e,.int .i64 fr,.int .i64 to])).newc _ (.cells (bC 27 0 [] (.vec [.agg [.int .i64 k,.int .i64 m,.str t,.bool g,d,lw,.int .i64 a,.int .i64 e]] 8 true)))) fun h5 T5=>?_;generalize hxn:Node.mk k m t g d l a e=xn at *;generalize hndv:[AV.int .i64 k,AV.int .i64 m,AV.str t,AV.bool g,d,lw,AV.int .i64 a,AV.int .i64 e]=ndv at *;rw[Wm,qCk]at b4;refine qCK (St.take S T5 b4 ?_ ?_)
   .intro s6 n6 h6 ao M ad T6;replace M:=nt M;have ay:pM ⟨xn,fr,to⟩=true:=by
     cases hc:pM ⟨xn,fr,to⟩ with
     |true=>rfl
     |false=>rw[hc]at M;exact absurd M ho
    rw[ay]at M;simp only[Bool.not_true,Bool.false_eq_true,if_false]at M;refine z3 T6.g2 hone a1 ?_;refine qCK ((EE S hk2 b8 ay fun bv n7 h7 ae bl bj bg be=>?_).mono (fun _ _ h=>h.elim) fun _ _ _ _ _ _ h=>h);have T7:=T6.quiet ae bl bj;obtain⟨b0,b7⟩:=be;obtain⟨ab,rfl,aj,ai,cd⟩:=b7.shape;have c5:List.take 8 ab=ab:=List.take_of_length_le om;cases hbo:iD ⟨xn,fr,to⟩ with
    |some b=>
     have EB:=bg b hbo;rw[hbo]at M;simp only at M;rw[qCk]at M;refine x2 aj ai ?_;refine aP.stx (fun U=>(T7.newc _ (.cells ab)).nx om U) fun h8 T8=>?_;refine qCP [(0,2),(0,5)] [ (2,4)] kr ?_;refine z4 T8.g1 aj ai c5 ?_;refine qBv (Me) T8 M ho T8.o1 ?_;intro a9 s9 v9 n9 h9 ah Y O a8 aa T9 ch cc;obtain⟨ar,rfl,bh,bd,ce,cj,E9⟩:=O.sh;rw[qCn]at Y;refine g8 T8.o1 aj ai bh bd @aB T9.g2 @qCE ?_;refine qCT fun an ak al=>?_;refine zz ?_;refine qCO [(0,.ref o 0),(2,.ref n 0),(4,.ref (n4+1) 0)] sb ⟨.vec [.agg ab,.agg ar],[b,a9],_,_,28,n4+1,rfl,Y,EV.cons EB (.cons E9 .nil),by omega,(.inl ⟨_,rfl⟩),fun U=>(((T9.set2 (.cells (bC 28 0 [] (.vec [.agg ndv] 8 true)))).set2 (.cells (bC 28 0 [] (.vec [.agg ab,.agg ar] 8 true)))).sub (.cons _ (.cons_cons _ (.cons _ (.cons_cons _ .slnil))))).nx om U⟩
    |none=>
     rw[hbo]at M;simp only at M;rw[qCk]at M;refine x4 aj ai T7.g1 @qCE ?_;refine aP.stx (fun U=>(((T7.newc _ (.cells ab)).set2 (.cells (bC 29 0 [] (.vec [.agg ndv] 8 true)))).sub (List.sublist_cons_self ..)).nx om U) fun h8 T8=>?_;refine qCP [(1,5)] [] kr ?_;refine z2 T8.g1 @qCE ?_;refine qCN (Own o _) T8.bound (St.listedD S hk (Z:=[]) (a:=[.ref o 0]) (c:=[]) (Mb.x []) (fun _=>rfl) f hf T8 Holds.nil M ho ?_ ?_ fun e he nE hE b1 b2 bk=>by(refine fC (by(repeat (first | (refine qCJ om ?_) | (refine z1 T8.o1 ?_) | exact True.intro))) ?_);(repeat (refine fW rfl ?_));(repeat (first | (refine qCJ om ?_) | (refine z1 T8.o1 ?_) | exact True.intro));unfold gN;intro nx h' _ _ _;(refine zz ?_);exact qC9<|.err he)
     .intro l s9 xs n9 h9 ah Y O a8 aa a5 T9;rw[qCn]at Y;cases xs with
      |nil=>simp at a5
      |cons z zs=>
      have a7:=O.whole;have ag:=O.length;have a2:=aM (1+(zs.length+1)) 104 (by simp at a5;omega) om;refine u9 T8.o1 a7 a2 T9.g1 @qCE hd hone a1 @aB ?_;refine qCT fun an ak al=>?_;refine zz ?_;refine qCO [(0,.ref o 0),(2,.ref n 0),(4,.ref (n4+1) 0)] sb ⟨.arr n9 (AV.agg ndv::z::zs) (1+(zs.length+1)),xn::l,_,_,29,n4+1,rfl,Y,EV.cons EX O,by omega,(.inr ⟨_,_,_,rfl,by simp;omega⟩),fun U=>(((T9.cell (.arr 8 (AV.agg ndv::z::zs))).set2 (.cells (bC 29 0 [] (.sl n9 0 (1+(zs.length+1)))))).sub (.cons_cons _ (.cons_cons _ (.cons _ (.cons_cons _ .slnil))))).nx om U⟩
     .intro l s9 xs b n9 h9 ah Y O a8 aa a5 hb T9;rw[qCn]at Y;have aw:b<n9/\n<=b:=T9.l1;have ax:n4+1<b/\n<=n4+1:=T9.l2;cases xs with
      |nil=>simp at hb
      |cons z zs=>
      have a7:=O.whole;have ag:=O.length;have a2:=aM (1+(zs.length+1)) 104 (by simp at a5;omega) om;have ap:List.take (zs.length+1) (z::zs)=z::zs:=List.take_of_length_le sm;refine zJ T8.o1 a7 a2 ap T9.g1 T9.g2 @qCE hd hone a1 @aB ?_;refine qCT fun an ak al=>?_;refine zz ?_;refine qCO [(0,.ref o 0),(2,.ref n 0),(4,.ref (n4+1) 0)] sb ⟨.arr n9 (AV.agg ndv::z::zs) (1+(zs.length+1)),xn::l,_,_,29,n4+1,rfl,Y,EV.cons EX O,by omega,(.inr ⟨_,_,_,rfl,by simp;omega⟩),fun U=>(((T9.cell (.arr 8 (AV.agg ndv::z::zs))).set3 (.cells (bC 29 0 [] (.sl n9 0 (1+(zs.length+1)))))).sub (.cons_cons _ (.cons _ (.cons_cons _ (.cons _ (.cons_cons _ .slnil)))))).nx om U⟩
   .intro s6 n6 h6 ao M ad T6;replace M:=nf M;rw[qCk]at M;refine zz ?_;refine qCK (St.take S T6 M ?_ ?_)
    .intro s7 n7 h7 b9 a3 ae T7;replace a3:=nt a3;rw[qCk]at a3;refine zz ?_;refine qCP [(1,5)] [] kr ?_;refine z2 T7.g1 @qCE ?_;refine qCN (Own o _) T7.bound (St.listedD S hk (Z:=[]) (a:=[.ref o 0]) (c:=[]) (Me.x []) (fun _=>rfl) f hf T7 Holds.nil a3 ho ?_ ?_ fun e he nE hE b1 b2 bk=>by(refine fC (by(repeat (first | (refine qCJ om ?_) | (refine z1 T7.o1 ?_) | exact True.intro))) ?_);(repeat (refine fW rfl ?_));(repeat (first | (refine qCJ om ?_) | (refine z1 T7.o1 ?_) | exact True.intro));unfold gN;intro nx h' _ _ _;(refine zz ?_);exact qC9<|.err he)
     .intro l s9 xs n9 h9 ah Y O a8 aa a5 T9;rw[qCn]at Y;cases xs with
      |nil=>simp at a5
      |cons z zs=>
      have a7:=O.whole;have ag:=O.length;have a2:=aM (1+(zs.length+1)) 104 (by simp at a5;omega) om;refine u9 T7.o1 a7 a2 T9.g1 @qCE hd hone a1 @aB ?_;refine qCT fun an ak al=>?_;refine zz ?_;refine qCO [(0,.ref o 0),(2,.ref n 0),(4,.ref (n4+1) 0)] sb ⟨.arr n9 (AV.agg ndv::z::zs) (1+(zs.length+1)),xn::l,_,_,27,n4+1,rfl,Y,EV.cons EX O,by omega,(.inr ⟨_,_,_,rfl,by simp;omega⟩),fun U=>(((T9.cell (.arr 8 (AV.agg ndv::z::zs))).set2 (.cells (bC 27 0 [] (.sl n9 0 (1+(zs.length+1)))))).sub (.cons_cons _ (.cons_cons _ (.cons _ (.cons_cons _ .slnil))))).nx om U⟩
     .intro l s9 xs b n9 h9 ah Y O a8 aa a5 hb T9;rw[qCn]at Y;have aw:b<n9/\n<=b:=T9.l1;have ax:n4+1<b/\n<=n4+1:=T9.l2;cases xs with
      |nil=>simp at hb
      |cons z zs=>
      have a7:=O.whole;have ag:=O.length;have a2:=aM (1+(zs.length+1)) 104 (by simp at a5;omega) om;have ap:List.take (zs.length+1) (z::zs)=z::zs:=List.take_of_length_le sm;refine zJ T7.o1 a7 a2 ap T9.g1 T9.g2 @qCE hd hone a1 @aB ?_;refine qCT fun an ak al=>?_;refine zz ?_;refine qCO [(0,.ref o 0),(2,.ref n 0),(4,.ref (n4+1) 0)] sb ⟨.arr n9 (AV.agg ndv::z::zs) (1+(zs.length+1)),xn::l,_,_,27,n4+1,rfl,Y,EV.cons EX O,by omega,(.inr ⟨_,_,_,rfl,by simp;omega⟩),fun U=>(((T9.cell (.arr 8 (AV.agg ndv::z::zs))).set3 (.cells (bC 27 0 [] (.sl n9 0 (1+(zs.length+1)))))).sub (.cons_cons _ (.cons _ (.cons_cons _ (.cons _ (.cons_cons _ .slnil)))))).nx om U⟩
    .intro s7 n7 h7 b9 a3 ae T7;replace a3:=nf a3;rw[qCn]at a3;refine zz ?_;refine qCO [(0,.ref o 0),(2,.ref n 0),(4,.ref (n4+1) 0)] sb ⟨.vec [.agg ndv],[xn],_,_,27,n4+1,rfl,a3,EV.cons EX .nil,by omega,(.inl ⟨_,rfl⟩),fun U=>(T7.sub (.cons_cons _ (.cons _ (.cons_cons _ .slnil)))).nx om U⟩
 .obtain⟨L,l,s5,c9,k,nO,rfl,b5,ac,ci,hL,T5⟩:=au;have T5:=T5 bq;have bw:=T0.on;have cg:=T5.le;refine zz ?_;rcases hL with⟨xs,rfl⟩ | ⟨b,xs,kk,rfl,rfl⟩
  .simp only[LS.objs,LS.val,LS.xs,List.nil_append]at T5 ac;refine qBt (bL S [125]) T5 b5 ho ?_;intro u s6 v6 n6 h6 ao M bb ad T6 bu bc;refine z4 T6.g1 T6.g2 @qCE @qCD ?_;exact qC9<|(T6.set2 _).ends (M) (.mk rfl rfl (.vec ac))
  .simp only[LS.objs,LS.val,LS.xs,List.cons_append,List.nil_append]at T5 ac;have aw:b<nn/\n<=b:=T5.l1;have ax:nO<b/\n<=nO:=T5.l2;have ee:EV l (List.take xs.length (List.drop 0 xs)):=(by rw[List.drop_zero,List.take_length];exact ac);refine qBt (bL S [125]) T5 b5 ho ?_;intro u s6 v6 n6 h6 ao M bb ad T6 bu bc;refine z5 T6.g1 T6.g2 T6.g3 @qCE @qCD ?_;refine qCJ (fun x hx=>ac.frozen x (List.mem_of_mem_take hx)) ?_;refine zz ?_;exact qC9<|((T6.set3 _).del1).ends (M) (.mk rfl rfl (.vec ee))
end
section
variable {Gl:qC6}{Gm:qC7}{Kp:qC8}(S:Seat Gm Kp)
theorem Kd {α:Type}{g:Unit->P α}{s:PS}(ho:(P.back >>= g) s≠.error Pa.lT):s.pos≠0/\P.back s=.ok ((),{s with pos:=s.pos-1}):=by
 by_cases h:s.pos=0
 .exact absurd (P.err_bind (by unfold P.back;rw[if_pos h])) ho
 .exact⟨h,by unfold P.back;rw[if_neg h]⟩
include S
theorem Hg (hk:Kp 146=(true,false)){o pm im:Nat}{lv:AV}(f:Nat)(hf:f<1000000000)(fr loc:Int)(unit:Bool)(Me:∀ k,k<=f->aL Gl Gm Kp 76 [.ref o 0] o pm im lv (cS k) EN)(Mb:aL Gl Gm Kp 294 [.ref o 0] o pm im lv (nG f) EN)
  (Md:aL Gl Gm Kp 230 [.ref o 0] o pm im lv (kW f) EN) (Mi:∀ k,k<=f->∀ fr loc,aL Gl Gm Kp 233 [.ref o 0,.int .i64 fr,.int .i64 loc] o pm im lv (jZ k fr loc) EN) :
  aL Gl Gm Kp 229 [.ref o 0,.int .i64 fr,.int .i64 loc,.bool unit] o pm im lv (fH (f+1) fr loc unit) EN:=by
 refine aL.st fun n h cv s T0 ho=>aG.cut 114 [.cell 8 32] 5 (fun E nn hh=>∃(L:LS) (l:List Node) (s2:PS) (cv2:AV) (k:Int) (sg:List UInt8) (un:Bool) (nO:Nat),E=[(0,.ref o 0),(1,.int .i64 fr),(2,.int .i64 loc),(3,.bool un),(8,.ref n 0),(11,.ref nO 0)]/\
  fH (f+1) fr loc unit s=Do f fr loc un k sg l s2/\EV l L.xs/\n+1<=nO/\(L=.nil\/(∃ xs,L=.vec xs/\xs.length<=f+2)\/∃ b xs,L=.arr b xs xs.length/\xs.length<=f+2)/\
  (aE nn hh->St n h o pm im lv cv (L.objs++[(nO,.cells (bC k loc sg L.val)),(n,.cells cC)]) s2 nn hh cv2))
  Tryz.func229 rfl (S.gm _ dc) (S.kp _ dc dc) rfl rfl (fun hB _=>?_) (fun hB E nn hh cx cy ce=>?_)
 .have cz:=congrFun (fH.eq_2 fr loc unit f) s;have d0:=T0.on;have ch:=T0.lt;have cu:=T0.rep.len;refine zz ?_;refine aA.st (T0.cell (.cells cC)) fun hA T1=>?_;refine qCK (qBx (gO S 1 dc) T1 fun n2 h2 d4 T2=>?_);have cA:=cz.trans (P.ok_bind (x:=P.tok 1) rfl);obtain⟨dj,cj⟩:=eF T1.rep 1;generalize s.token 1=t at *;refine z3 @qBz @qB0 cj ?_;refine aA.st (T2.newc _ (.cells t.cells)) fun h3 T3=>?_;refine qBt (iG S 1 dc) T3 cA ho ?_;intro a4 s4 v4 n4 h4 d8 bi co d5 T4 dm db;obtain⟨rfl,d3,cb⟩:=co;refine z3 @qBz @qB0 cb ?_;refine qCP [] [] kr ?_;have c5:=T4.rep.inf;have dk:=aN ch T0.rep.inf;by_cases k5:t.kind=5
  .have c6:decide (t.kind=5)=true:=decide_eq_true k5;cases hq:find jI t.s with
   |none=>
    rw[if_neg (by simp[hq])]at bi;refine u9 c6 @Bool.not_true @Bool.not_false T4.obj T4.g1 @qB0 c5 @kF hq ?_;refine aA.st ((T4.newc _ (.cells a4.cells)).newc _ (.cells (bC 8 loc a4.s .sl0))) fun h6 T6=>?_;refine qCK (St.take S T6 bi ?_ ?_)
    .intro s7 n7 h7 bw O b6 T7;replace O:=nt O;refine zz ?_;refine qCK (St.listed S hk (Z:=[]) (a:=[.ref o 0]) (c:=[]) (Md.x []) (fun _=>rfl) f hf T7 Holds.nil O ho ?_ ?_ fun e he n2 h2 _ _=>by(refine zz ?_);exact qC9<|.err he)
     .intro l s8 xs n8 h8 b0 M bg al b8 T8;refine z2 T8.g1 @qCE ?_;refine aA.st (T8.set1 (.cells (bC 8 loc a4.s (.vec xs 8 true)))) fun h9 T9=>?_;refine qBt (bL S [41]) T9 M ho ?_;intro u s10 Dg n10 bh az a5 ad ap a6 bp bm;refine zz ?_;refine qCO [(0,.ref o 0),(1,.int .i64 fr),(2,.int .i64 loc),(3,.bool unit),(8,.ref n 0),(11,.ref (n4+1) 0)] sb ⟨.vec xs,l,_,_,8,a4.s,unit,n4+1,rfl,a5,bg,by omega,(.inr (.inl ⟨xs,rfl,by omega⟩)),fun U=>(a6.sub (.cons_cons _ (.cons _ (.cons _ (.cons_cons _ .slnil))))).nx om U⟩
     .intro l s8 xs b n8 h8 b0 M bg al b8 hb T8;refine z2 T8.g2 @qCE ?_;refine aA.st (T8.set2 (.cells (bC 8 loc a4.s (.sl b 0 xs.length)))) fun h9 T9=>?_;refine qBt (bL S [41]) T9 M ho ?_;intro u s10 Dg n10 bh az a5 ad ap a6 bp bm;refine zz ?_;refine qCO [(0,.ref o 0),(1,.int .i64 fr),(2,.int .i64 loc),(3,.bool unit),(8,.ref n 0),(11,.ref (n4+1) 0)] sb ⟨.arr b xs xs.length,l,_,_,8,a4.s,unit,n4+1,rfl,a5,bg,by omega,(.inr (.inr ⟨b,xs,rfl,by omega⟩)),fun U=>(a6.sub (.cons_cons _ (.cons_cons _ (.cons _ (.cons _ (.cons_cons _ .slnil)))))).nx om U⟩
    .intro s7 n7 h7 bw O b6 T7;replace O:=nf O;refine zz ?_;refine qCK (St.take S T7 O ?_ ?_)
     .intro s8 n8 h8 b0 M al T8;replace M:=nt M;refine z2 T8.g1 @qCE ?_;refine aA.st (T8.set1 (.cells (bC 9 loc a4.s .sl0))) fun h9 T9=>?_;refine qCK (St.listed S hk (Z:=[]) (a:=[.ref o 0]) (c:=[]) (Mb.x []) (fun _=>rfl) f hf T9 Holds.nil M ho ?_ ?_ fun e he n2 h2 _ _=>by(refine zz ?_);exact qC9<|.err he)
      .intro l s10 xs n10 bh az a5 ad ap b8 a6;refine z2 a6.g1 @qCE ?_;refine aA.st (a6.set1 (.cells (bC 9 loc a4.s (.vec xs 8 true)))) fun bz be=>?_;refine qBt (bL S [93]) be a5 ho ?_;intro u b7 zK n12 b5 ar a1 a3 a8 a2 aw au;refine zz ?_;refine qCO [(0,.ref o 0),(1,.int .i64 fr),(2,.int .i64 loc),(3,.bool false),(8,.ref n 0),(11,.ref (n4+1) 0)] sb ⟨.vec xs,l,_,_,9,a4.s,false,n4+1,rfl,a1,ad,by omega,(.inr (.inl ⟨xs,rfl,by omega⟩)),fun U=>(a2.sub (.cons_cons _ (.cons _ (.cons _ (.cons_cons _ .slnil))))).nx om U⟩
      .intro l s10 xs b n10 bh az a5 ad ap b8 hb a6;refine z2 a6.g2 @qCE ?_;refine aA.st (a6.set2 (.cells (bC 9 loc a4.s (.sl b 0 xs.length)))) fun bz be=>?_;refine qBt (bL S [93]) be a5 ho ?_;intro u b7 zK n12 b5 ar a1 a3 a8 a2 aw au;refine zz ?_;refine qCO [(0,.ref o 0),(1,.int .i64 fr),(2,.int .i64 loc),(3,.bool false),(8,.ref n 0),(11,.ref (n4+1) 0)] sb ⟨.arr b xs xs.length,l,_,_,9,a4.s,false,n4+1,rfl,a1,ad,by omega,(.inr (.inr ⟨b,xs,rfl,by omega⟩)),fun U=>(a2.sub (.cons_cons _ (.cons_cons _ (.cons _ (.cons _ (.cons_cons _ .slnil)))))).nx om U⟩
     .intro s8 n8 h8 b0 M al T8;replace M:=nf M;refine zz ?_;refine qCO [(0,.ref o 0),(1,.int .i64 fr),(2,.int .i64 loc),(3,.bool unit),(8,.ref n 0),(11,.ref (n4+1) 0)] sb ⟨.nil,[],_,_,8,a4.s,unit,n4+1,rfl,M,.nil,by omega,(.inl rfl),fun U=>(T8.sub (.cons_cons _ (.cons _ (.cons _ (.cons_cons _ .slnil))))).nx om U⟩
   |some q=>
    cases hd:q.defn with
    |true=>
     rw[if_pos ⟨k5,by simp[hq,hd]⟩]at bi;obtain⟨dh,c9⟩:=Kd (fun hc=>ho (bi.trans hc));have br:=bi.trans (P.ok_bind c9);have d1:=T4.rep.pos;have cw:=T4.rep.len;have cg:s4.pos-1<=s4.l.length:=om;refine rP c6 @Bool.not_true @Bool.not_false T4.obj T4.g1 @qB0 c5 @kF hq @Mg.eq_1 hd @aQ ?_;refine aA.st (((T4.newc _ (.cells a4.cells)).newc _ (.cells (bC 8 loc a4.s .sl0))).pos cg) fun h6 T6=>?_;refine qBt (oE S) T6 br ho ?_;intro a7 s7 v7 n7 h7 bw O cp b6 T7 dp de;cases cp with
     |mk hd7 hone7 hl7=>
     rename_i k7 m7 t7 g7 d7 l7 a7 e7 lw7;have bu:=hl7.one;obtain⟨d2,ck⟩:=cJ (fun hc=>ho (O.trans hc));have M:=O.trans (P.ok_bind ck);refine z4 hone7 bu T7.obj @aQ ?_;refine aA.st ((T7.newc _ (.cells [.int .i64 k7,.int .i64 m7,.str t7,.bool g7,d7,lw7,.int .i64 a7,.int .i64 e7])).pos d2) fun h8 T8=>?_;refine qBt (oE S) T8 M ho ?_;intro a9 s9 v9 n9 h9 cn cB cq d6 T9 dq df;cases cq with
     |mk hd9 hone9 hl9=>
     rename_i k9 m9 t9 g9 d9 l9 a9 e9 lw9;have bv:=hl9.one;refine z3 hone9 bv T9.g1 ?_;refine qCP [(2,6),(3,6)] [] kr ?_;refine zS T9.g1 T9.g2 T9.g4 hone7 bu hone9 bv @aB @qB0 @qCE ?_;refine fO.mq ⟨.vec [.agg [.int .i64 12,.int .i64 m7,.str t7,.bool g7,d7,lw7,.int .i64 a7,.int .i64 e7],.agg [.int .i64 12,.int .i64 m9,.str t9,.bool g9,d9,lw9,.int .i64 a9,.int .i64 e9]],[.mk 12 m7 t7 g7 d7 l7 a7 e7,.mk 12 m9 t9 g9 d9 l9 a9 e9],s9,cn,8,t.s,false,n4+1,rfl,cB,.cons (.mk hd7 hone7 hl7) (.cons (.mk hd9 hone9 hl9) .nil),by omega,.inr (.inl ⟨_,rfl,by simp⟩),fun U=>((((((T9.newc _ (.cells [.int .i64 k9,.int .i64 m9,.str t9,.bool g9,d9,lw9,.int .i64 a9,.int .i64 e9])).set2 (.cells [.int .i64 12,.int .i64 m7,.str t7,.bool g7,d7,lw7,.int .i64 a7,.int .i64 e7])).set1 (.cells [.int .i64 12,.int .i64 m9,.str t9,.bool g9,d9,lw9,.int .i64 a9,.int .i64 e9])).set3 (.cells (bC 8 loc t.s .sl0))).set3 (.cells (bC 8 loc t.s (.vec [.agg [.int .i64 12,.int .i64 m7,.str t7,.bool g7,d7,lw7,.int .i64 a7,.int .i64 e7],.agg [.int .i64 12,.int .i64 m9,.str t9,.bool g9,d9,lw9,.int .i64 a9,.int .i64 e9]] 8 true)))).sub (.cons _ (.cons _ (.cons_cons _ (.cons _ (.cons _ (.cons_cons _ .slnil))))))).nx om U⟩
    |false=>
     rw[if_neg (by simp[hq,hd])]at bi;refine zJ c6 @Bool.not_true @Bool.not_false T4.obj T4.g1 @qB0 c5 @kF hq @Mg.eq_1 hd ?_;refine aA.st ((T4.newc _ (.cells a4.cells)).newc _ (.cells (bC 8 loc a4.s .sl0))) fun h6 T6=>?_;refine qCK (St.take S T6 bi ?_ ?_)
     .intro s7 n7 h7 bw O b6 T7;replace O:=nt O;refine zz ?_;refine qCK (St.listed S hk (Z:=[]) (a:=[.ref o 0]) (c:=[]) (Md.x []) (fun _=>rfl) f hf T7 Holds.nil O ho ?_ ?_ fun e he n2 h2 _ _=>by(refine zz ?_);exact qC9<|.err he)
      .intro l s8 xs n8 h8 b0 M bg al b8 T8;refine z2 T8.g1 @qCE ?_;refine aA.st (T8.set1 (.cells (bC 8 loc a4.s (.vec xs 8 true)))) fun h9 T9=>?_;refine qBt (bL S [41]) T9 M ho ?_;intro u s10 Dg n10 bh az a5 ad ap a6 bp bm;refine zz ?_;refine qCO [(0,.ref o 0),(1,.int .i64 fr),(2,.int .i64 loc),(3,.bool unit),(8,.ref n 0),(11,.ref (n4+1) 0)] sb ⟨.vec xs,l,_,_,8,a4.s,unit,n4+1,rfl,a5,bg,by omega,(.inr (.inl ⟨xs,rfl,by omega⟩)),fun U=>(a6.sub (.cons_cons _ (.cons _ (.cons _ (.cons_cons _ .slnil))))).nx om U⟩
      .intro l s8 xs b n8 h8 b0 M bg al b8 hb T8;refine z2 T8.g2 @qCE ?_;refine aA.st (T8.set2 (.cells (bC 8 loc a4.s (.sl b 0 xs.length)))) fun h9 T9=>?_;refine qBt (bL S [41]) T9 M ho ?_;intro u s10 Dg n10 bh az a5 ad ap a6 bp bm;refine zz ?_;refine qCO [(0,.ref o 0),(1,.int .i64 fr),(2,.int .i64 loc),(3,.bool unit),(8,.ref n 0),(11,.ref (n4+1) 0)] sb ⟨.arr b xs xs.length,l,_,_,8,a4.s,unit,n4+1,rfl,a5,bg,by omega,(.inr (.inr ⟨b,xs,rfl,by omega⟩)),fun U=>(a6.sub (.cons_cons _ (.cons_cons _ (.cons _ (.cons _ (.cons_cons _ .slnil)))))).nx om U⟩
     .intro s7 n7 h7 bw O b6 T7;replace O:=nf O;refine zz ?_;refine qCK (St.take S T7 O ?_ ?_)
      .intro s8 n8 h8 b0 M al T8;replace M:=nt M;refine z2 T8.g1 @qCE ?_;refine aA.st (T8.set1 (.cells (bC 9 loc a4.s .sl0))) fun h9 T9=>?_;refine qCK (St.listed S hk (Z:=[]) (a:=[.ref o 0]) (c:=[]) (Mb.x []) (fun _=>rfl) f hf T9 Holds.nil M ho ?_ ?_ fun e he n2 h2 _ _=>by(refine zz ?_);exact qC9<|.err he)
       .intro l s10 xs n10 bh az a5 ad ap b8 a6;refine z2 a6.g1 @qCE ?_;refine aA.st (a6.set1 (.cells (bC 9 loc a4.s (.vec xs 8 true)))) fun bz be=>?_;refine qBt (bL S [93]) be a5 ho ?_;intro u b7 zK n12 b5 ar a1 a3 a8 a2 aw au;refine zz ?_;refine qCO [(0,.ref o 0),(1,.int .i64 fr),(2,.int .i64 loc),(3,.bool false),(8,.ref n 0),(11,.ref (n4+1) 0)] sb ⟨.vec xs,l,_,_,9,a4.s,false,n4+1,rfl,a1,ad,by omega,(.inr (.inl ⟨xs,rfl,by omega⟩)),fun U=>(a2.sub (.cons_cons _ (.cons _ (.cons _ (.cons_cons _ .slnil))))).nx om U⟩
       .intro l s10 xs b n10 bh az a5 ad ap b8 hb a6;refine z2 a6.g2 @qCE ?_;refine aA.st (a6.set2 (.cells (bC 9 loc a4.s (.sl b 0 xs.length)))) fun bz be=>?_;refine qBt (bL S [93]) be a5 ho ?_;intro u b7 zK n12 b5 ar a1 a3 a8 a2 aw au;refine zz ?_;refine qCO [(0,.ref o 0),(1,.int .i64 fr),(2,.int .i64 loc),(3,.bool false),(8,.ref n 0),(11,.ref (n4+1) 0)] sb ⟨.arr b xs xs.length,l,_,_,9,a4.s,false,n4+1,rfl,a1,ad,by omega,(.inr (.inr ⟨b,xs,rfl,by omega⟩)),fun U=>(a2.sub (.cons_cons _ (.cons_cons _ (.cons _ (.cons _ (.cons_cons _ .slnil)))))).nx om U⟩
      .intro s8 n8 h8 b0 M al T8;replace M:=nf M;refine zz ?_;refine qCO [(0,.ref o 0),(1,.int .i64 fr),(2,.int .i64 loc),(3,.bool unit),(8,.ref n 0),(11,.ref (n4+1) 0)] sb ⟨.nil,[],_,_,8,a4.s,unit,n4+1,rfl,M,.nil,by omega,(.inl rfl),fun U=>(T8.sub (.cons_cons _ (.cons _ (.cons _ (.cons_cons _ .slnil))))).nx om U⟩
  .have c6:decide (t.kind=5)=false:=decide_eq_false k5;rw[if_neg (by simp[k5])]at bi;refine g5 c6 @Bool.not_true @Bool.not_false T4.g1 @qB0 ?_;refine aA.st ((T4.newc _ (.cells a4.cells)).newc _ (.cells (bC 8 loc a4.s .sl0))) fun h6 T6=>?_;refine qCK (St.take S T6 bi ?_ ?_)
   .intro s7 n7 h7 bw O b6 T7;replace O:=nt O;refine zz ?_;refine qCK (St.listed S hk (Z:=[]) (a:=[.ref o 0]) (c:=[]) (Md.x []) (fun _=>rfl) f hf T7 Holds.nil O ho ?_ ?_ fun e he n2 h2 _ _=>by(refine zz ?_);exact qC9<|.err he)
    .intro l s8 xs n8 h8 b0 M bg al b8 T8;refine z2 T8.g1 @qCE ?_;refine aA.st (T8.set1 (.cells (bC 8 loc a4.s (.vec xs 8 true)))) fun h9 T9=>?_;refine qBt (bL S [41]) T9 M ho ?_;intro u s10 Dg n10 bh az a5 ad ap a6 bp bm;refine zz ?_;refine qCO [(0,.ref o 0),(1,.int .i64 fr),(2,.int .i64 loc),(3,.bool unit),(8,.ref n 0),(11,.ref (n4+1) 0)] sb ⟨.vec xs,l,_,_,8,a4.s,unit,n4+1,rfl,a5,bg,by omega,(.inr (.inl ⟨xs,rfl,by omega⟩)),fun U=>(a6.sub (.cons_cons _ (.cons _ (.cons _ (.cons_cons _ .slnil))))).nx om U⟩
    .intro l s8 xs b n8 h8 b0 M bg al b8 hb T8;refine z2 T8.g2 @qCE ?_;refine aA.st (T8.set2 (.cells (bC 8 loc a4.s (.sl b 0 xs.length)))) fun h9 T9=>?_;refine qBt (bL S [41]) T9 M ho ?_;intro u s10 Dg n10 bh az a5 ad ap a6 bp bm;refine zz ?_;refine qCO [(0,.ref o 0),(1,.int .i64 fr),(2,.int .i64 loc),(3,.bool unit),(8,.ref n 0),(11,.ref (n4+1) 0)] sb ⟨.arr b xs xs.length,l,_,_,8,a4.s,unit,n4+1,rfl,a5,bg,by omega,(.inr (.inr ⟨b,xs,rfl,by omega⟩)),fun U=>(a6.sub (.cons_cons _ (.cons_cons _ (.cons _ (.cons _ (.cons_cons _ .slnil)))))).nx om U⟩
   .intro s7 n7 h7 bw O b6 T7;replace O:=nf O;refine zz ?_;refine qCK (St.take S T7 O ?_ ?_)
    .intro s8 n8 h8 b0 M al T8;replace M:=nt M;refine z2 T8.g1 @qCE ?_;refine aA.st (T8.set1 (.cells (bC 9 loc a4.s .sl0))) fun h9 T9=>?_;refine qCK (St.listed S hk (Z:=[]) (a:=[.ref o 0]) (c:=[]) (Mb.x []) (fun _=>rfl) f hf T9 Holds.nil M ho ?_ ?_ fun e he n2 h2 _ _=>by(refine zz ?_);exact qC9<|.err he)
     .intro l s10 xs n10 bh az a5 ad ap b8 a6;refine z2 a6.g1 @qCE ?_;refine aA.st (a6.set1 (.cells (bC 9 loc a4.s (.vec xs 8 true)))) fun bz be=>?_;refine qBt (bL S [93]) be a5 ho ?_;intro u b7 zK n12 b5 ar a1 a3 a8 a2 aw au;refine zz ?_;refine qCO [(0,.ref o 0),(1,.int .i64 fr),(2,.int .i64 loc),(3,.bool false),(8,.ref n 0),(11,.ref (n4+1) 0)] sb ⟨.vec xs,l,_,_,9,a4.s,false,n4+1,rfl,a1,ad,by omega,(.inr (.inl ⟨xs,rfl,by omega⟩)),fun U=>(a2.sub (.cons_cons _ (.cons _ (.cons _ (.cons_cons _ .slnil))))).nx om U⟩
     .intro l s10 xs b n10 bh az a5 ad ap b8 hb a6;refine z2 a6.g2 @qCE ?_;refine aA.st (a6.set2 (.cells (bC 9 loc a4.s (.sl b 0 xs.length)))) fun bz be=>?_;refine qBt (bL S [93]) be a5 ho ?_;intro u b7 zK n12 b5 ar a1 a3 a8 a2 aw au;refine zz ?_;refine qCO [(0,.ref o 0),(1,.int .i64 fr),(2,.int .i64 loc),(3,.bool false),(8,.ref n 0),(11,.ref (n4+1) 0)] sb ⟨.arr b xs xs.length,l,_,_,9,a4.s,false,n4+1,rfl,a1,ad,by omega,(.inr (.inr ⟨b,xs,rfl,by omega⟩)),fun U=>(a2.sub (.cons_cons _ (.cons_cons _ (.cons _ (.cons _ (.cons_cons _ .slnil)))))).nx om U⟩
    .intro s8 n8 h8 b0 M al T8;replace M:=nf M;refine zz ?_;refine qCO [(0,.ref o 0),(1,.int .i64 fr),(2,.int .i64 loc),(3,.bool unit),(8,.ref n 0),(11,.ref (n4+1) 0)] sb ⟨.nil,[],_,_,8,a4.s,unit,n4+1,rfl,M,.nil,by omega,(.inl rfl),fun U=>(T8.sub (.cons_cons _ (.cons _ (.cons _ (.cons_cons _ .slnil))))).nx om U⟩
 .obtain⟨L,l,s5,da,k,sg,un,nO,rfl,br,bd,dr,hL,T5⟩:=ce;have T5:=T5 cy;have d0:=T0.on;have dn:=T5.le;have dd:=T5.rep.len;cases f with
  |zero=>exact absurd (br.trans (congrFun (Do.eq_1 fr loc un k sg l) s5)) ho
  |succ f=>
  rw[Do.eq_2]at br;refine zz ?_;rcases hL with rfl | ⟨xs,rfl,b8⟩ | ⟨b,xs,rfl,b8⟩
  .simp only[LS.objs,LS.val,LS.xs,List.nil_append]at T5 bd;have ct:nO<nn/\n<=nO:=T5.l1;refine qBt (bL S [61,61]) T5 br ho ?_;intro u s6 v6 n6 h6 cc c7 cd c8 T6 ci cf;refine zz ?_;refine qCK (qBx (iK S) T6 fun n7 h7 b6 T7=>?_);have O:=c7.trans (P.ok_bind (x:=P.begin) rfl);cases un with
   |true=>
    replace O:=nt O;refine zz ?_;refine qCK (St.take S T7 O ?_ ?_)
    .intro s8 n8 h8 b0 M al T8;replace M:=nt M;refine zz ?_;have Y:=aM (1) 104 om om;refine qCP [(1,4)] [] kr ?_;refine z2 T8.g1 @qCE ?_;refine qBv (Mi f om _ 0) T8 M ho T8.o1 ?_;intro bj b7 zK n12 b5 ar a1 a3 a8 b2 a2 aw au;obtain⟨ac,rfl,ai,ag,ba,bb,ax⟩:=a3.sh;refine z1 T8.o1 ?_;refine qCJ om ?_;refine z6 ai ag @aB Y a2.g1 @qCE ?_;refine qCT fun bc b3 b4=>?_;refine zz ?_;refine aA.stx (fun U=>(((a2.cell (.arr 8 [AV.agg ac])).set2 (.cells (bC k loc sg (.sl n12 0 1))))).nx om U) fun bk aa=>?_;refine qCK (qBu S (k:=P.pure) aa (.mk rfl rfl (EV.app bd ax aa.g1)) (a1.trans (congrFun (P.bind_pure _).symm _)) ho fun bq v' n14 bl an ae b1 ab=>?_);obtain⟨b9,rfl,aj,ah,ak,ao,ay⟩:=ae.sh;refine z7 ab.g2 @qCD aj ah ao ak @aD ?_;exact qC9<|(ab.set2 _).ends (an) (ay)
    .intro s8 n8 h8 b0 M al T8;replace M:=nf M;refine zz ?_;have Y:=aM (1) 104 om om;refine qCP [(1,3)] [] kr ?_;refine z2 T8.g1 @qCE ?_;refine qBv (Me f om) T8 M ho T8.o1 ?_;intro bj b7 zK n12 b5 ar a1 a3 a8 b2 a2 aw au;obtain⟨ac,rfl,ai,ag,ba,bb,ax⟩:=a3.sh;refine z1 T8.o1 ?_;refine qCJ om ?_;refine z6 ai ag @aB Y a2.g1 @qCE ?_;refine qCT fun bc b3 b4=>?_;refine zz ?_;refine aA.stx (fun U=>(((a2.cell (.arr 8 [AV.agg ac])).set2 (.cells (bC k loc sg (.sl n12 0 1))))).nx om U) fun bk aa=>?_;refine qCK (qBu S (k:=P.pure) aa (.mk rfl rfl (EV.app bd ax aa.g1)) (a1.trans (congrFun (P.bind_pure _).symm _)) ho fun bq v' n14 bl an ae b1 ab=>?_);obtain⟨b9,rfl,aj,ah,ak,ao,ay⟩:=ae.sh;refine z7 ab.g2 @qCD aj ah ao ak @aD ?_;exact qC9<|(ab.set2 _).ends (an) (ay)
   |false=>
    replace O:=nf O;rw[qCn]at O;replace O:=nf O;refine zz ?_;have Y:=aM (1) 104 om om;refine qCP [(1,3)] [] kr ?_;refine z2 T7.g1 @qCE ?_;refine qBv (Me f om) T7 O ho T7.o1 ?_;intro bj b7 zK n12 b5 ar a1 a3 a8 b2 a2 aw au;obtain⟨ac,rfl,ai,ag,ba,bb,ax⟩:=a3.sh;refine z1 T7.o1 ?_;refine qCJ om ?_;refine z6 ai ag @aB Y a2.g1 @qCE ?_;refine qCT fun bc b3 b4=>?_;refine zz ?_;refine aA.stx (fun U=>(((a2.cell (.arr 8 [AV.agg ac])).set2 (.cells (bC k loc sg (.sl n12 0 1))))).nx om U) fun bk aa=>?_;refine qCK (qBu S (k:=P.pure) aa (.mk rfl rfl (EV.app bd ax aa.g1)) (a1.trans (congrFun (P.bind_pure _).symm _)) ho fun bq v' n14 bl an ae b1 ab=>?_);obtain⟨b9,rfl,aj,ah,ak,ao,ay⟩:=ae.sh;refine z7 ab.g2 @qCD aj ah ao ak @aD ?_;exact qC9<|(ab.set2 _).ends (an) (ay)
  .simp only[LS.objs,LS.val,LS.xs,List.nil_append]at T5 bd;have ct:nO<nn/\n<=nO:=T5.l1;refine qBt (bL S [61,61]) T5 br ho ?_;intro u s6 v6 n6 h6 cc c7 cd c8 T6 ci cf;refine zz ?_;refine qCK (qBx (iK S) T6 fun n7 h7 b6 T7=>?_);have O:=c7.trans (P.ok_bind (x:=P.begin) rfl);cases un with
   |true=>
    replace O:=nt O;refine zz ?_;refine qCK (St.take S T7 O ?_ ?_)
    .intro s8 n8 h8 b0 M al T8;replace M:=nt M;refine zz ?_;have Y:=aM (xs.length+1) 104 om om;refine qCP [(1,4)] [] kr ?_;refine z2 T8.g1 @qCE ?_;refine qBv (Mi f om _ 0) T8 M ho T8.o1 ?_;intro bj b7 zK n12 b5 ar a1 a3 a8 b2 a2 aw au;obtain⟨ac,rfl,ai,ag,ba,bb,ax⟩:=a3.sh;refine z1 T8.o1 ?_;refine qCJ om ?_;refine z6 ai ag @aB Y a2.g1 @qCE ?_;refine qCT fun bc b3 b4=>?_;refine zz ?_;refine aA.stx (fun U=>(((a2.cell (.arr 8 (xs++[AV.agg ac]))).set2 (.cells (bC k loc sg (.sl n12 0 (xs.length+1)))))).nx om U) fun bk aa=>?_;refine qCK (qBu S (k:=P.pure) aa (.mk rfl rfl (EV.app bd ax aa.g1)) (a1.trans (congrFun (P.bind_pure _).symm _)) ho fun bq v' n14 bl an ae b1 ab=>?_);obtain⟨b9,rfl,aj,ah,ak,ao,ay⟩:=ae.sh;refine z7 ab.g2 @qCD aj ah ao ak @aD ?_;exact qC9<|(ab.set2 _).ends (an) (ay)
    .intro s8 n8 h8 b0 M al T8;replace M:=nf M;refine zz ?_;have Y:=aM (xs.length+1) 104 om om;refine qCP [(1,3)] [] kr ?_;refine z2 T8.g1 @qCE ?_;refine qBv (Me f om) T8 M ho T8.o1 ?_;intro bj b7 zK n12 b5 ar a1 a3 a8 b2 a2 aw au;obtain⟨ac,rfl,ai,ag,ba,bb,ax⟩:=a3.sh;refine z1 T8.o1 ?_;refine qCJ om ?_;refine z6 ai ag @aB Y a2.g1 @qCE ?_;refine qCT fun bc b3 b4=>?_;refine zz ?_;refine aA.stx (fun U=>(((a2.cell (.arr 8 (xs++[AV.agg ac]))).set2 (.cells (bC k loc sg (.sl n12 0 (xs.length+1)))))).nx om U) fun bk aa=>?_;refine qCK (qBu S (k:=P.pure) aa (.mk rfl rfl (EV.app bd ax aa.g1)) (a1.trans (congrFun (P.bind_pure _).symm _)) ho fun bq v' n14 bl an ae b1 ab=>?_);obtain⟨b9,rfl,aj,ah,ak,ao,ay⟩:=ae.sh;refine z7 ab.g2 @qCD aj ah ao ak @aD ?_;exact qC9<|(ab.set2 _).ends (an) (ay)
   |false=>
    replace O:=nf O;rw[qCn]at O;replace O:=nf O;refine zz ?_;have Y:=aM (xs.length+1) 104 om om;refine qCP [(1,3)] [] kr ?_;refine z2 T7.g1 @qCE ?_;refine qBv (Me f om) T7 O ho T7.o1 ?_;intro bj b7 zK n12 b5 ar a1 a3 a8 b2 a2 aw au;obtain⟨ac,rfl,ai,ag,ba,bb,ax⟩:=a3.sh;refine z1 T7.o1 ?_;refine qCJ om ?_;refine z6 ai ag @aB Y a2.g1 @qCE ?_;refine qCT fun bc b3 b4=>?_;refine zz ?_;refine aA.stx (fun U=>(((a2.cell (.arr 8 (xs++[AV.agg ac]))).set2 (.cells (bC k loc sg (.sl n12 0 (xs.length+1)))))).nx om U) fun bk aa=>?_;refine qCK (qBu S (k:=P.pure) aa (.mk rfl rfl (EV.app bd ax aa.g1)) (a1.trans (congrFun (P.bind_pure _).symm _)) ho fun bq v' n14 bl an ae b1 ab=>?_);obtain⟨b9,rfl,aj,ah,ak,ao,ay⟩:=ae.sh;refine z7 ab.g2 @qCD aj ah ao ak @aD ?_;exact qC9<|(ab.set2 _).ends (an) (ay)
  .simp only[LS.objs,LS.val,LS.xs,List.cons_append,List.nil_append]at T5 bd;have cg:b<nn/\n<=b:=T5.l1;have di:nO<b/\n<=nO:=T5.l2;refine qBt (bL S [61,61]) T5 br ho ?_;intro u s6 v6 n6 h6 cc c7 cd c8 T6 ci cf;refine zz ?_;refine qCK (qBx (iK S) T6 fun n7 h7 b6 T7=>?_);have O:=c7.trans (P.ok_bind (x:=P.begin) rfl);cases un with
   |true=>
    replace O:=nt O;refine zz ?_;refine qCK (St.take S T7 O ?_ ?_)
    .intro s8 n8 h8 b0 M al T8;replace M:=nt M;refine zz ?_;have Y:=aM (xs.length+1) 104 om om;refine qCP [(1,4)] [] kr ?_;refine z2 T8.g2 @qCE ?_;refine qBv (Mi f om _ 0) T8 M ho T8.o2 ?_;intro bj b7 zK n12 b5 ar a1 a3 a8 b2 a2 aw au;obtain⟨ac,rfl,ai,ag,ba,bb,ax⟩:=a3.sh;refine z1 T8.o2 ?_;refine qCJ om ?_;refine z7 ai ag @aB Y a2.g2 a2.g1 @qCE ?_;refine qCT fun bc b3 b4=>?_;refine zz ?_;refine aA.stx (fun U=>(((a2.del1.cell (.arr 8 (xs++[AV.agg ac]))).set2 (.cells (bC k loc sg (.sl n12 0 (xs.length+1)))))).nx om U) fun bk aa=>?_;refine qCK (qBu S (k:=P.pure) aa (.mk rfl rfl (EV.app bd ax aa.g1)) (a1.trans (congrFun (P.bind_pure _).symm _)) ho fun bq v' n14 bl an ae b1 ab=>?_);obtain⟨b9,rfl,aj,ah,ak,ao,ay⟩:=ae.sh;refine z7 ab.g2 @qCD aj ah ao ak @aD ?_;exact qC9<|(ab.set2 _).ends (an) (ay)
    .intro s8 n8 h8 b0 M al T8;replace M:=nf M;refine zz ?_;have Y:=aM (xs.length+1) 104 om om;refine qCP [(1,3)] [] kr ?_;refine z2 T8.g2 @qCE ?_;refine qBv (Me f om) T8 M ho T8.o2 ?_;intro bj b7 zK n12 b5 ar a1 a3 a8 b2 a2 aw au;obtain⟨ac,rfl,ai,ag,ba,bb,ax⟩:=a3.sh;refine z1 T8.o2 ?_;refine qCJ om ?_;refine z7 ai ag @aB Y a2.g2 a2.g1 @qCE ?_;refine qCT fun bc b3 b4=>?_;refine zz ?_;refine aA.stx (fun U=>(((a2.del1.cell (.arr 8 (xs++[AV.agg ac]))).set2 (.cells (bC k loc sg (.sl n12 0 (xs.length+1)))))).nx om U) fun bk aa=>?_;refine qCK (qBu S (k:=P.pure) aa (.mk rfl rfl (EV.app bd ax aa.g1)) (a1.trans (congrFun (P.bind_pure _).symm _)) ho fun bq v' n14 bl an ae b1 ab=>?_);obtain⟨b9,rfl,aj,ah,ak,ao,ay⟩:=ae.sh;refine z7 ab.g2 @qCD aj ah ao ak @aD ?_;exact qC9<|(ab.set2 _).ends (an) (ay)
   |false=>
    replace O:=nf O;rw[qCn]at O;replace O:=nf O;refine zz ?_;have Y:=aM (xs.length+1) 104 om om;refine qCP [(1,3)] [] kr ?_;refine z2 T7.g2 @qCE ?_;refine qBv (Me f om) T7 O ho T7.o2 ?_;intro bj b7 zK n12 b5 ar a1 a3 a8 b2 a2 aw au;obtain⟨ac,rfl,ai,ag,ba,bb,ax⟩:=a3.sh;refine z1 T7.o2 ?_;refine qCJ om ?_;refine z7 ai ag @aB Y a2.g2 a2.g1 @qCE ?_;refine qCT fun bc b3 b4=>?_;refine zz ?_;refine aA.stx (fun U=>(((a2.del1.cell (.arr 8 (xs++[AV.agg ac]))).set2 (.cells (bC k loc sg (.sl n12 0 (xs.length+1)))))).nx om U) fun bk aa=>?_;refine qCK (qBu S (k:=P.pure) aa (.mk rfl rfl (EV.app bd ax aa.g1)) (a1.trans (congrFun (P.bind_pure _).symm _)) ho fun bq v' n14 bl an ae b1 ab=>?_);obtain⟨b9,rfl,aj,ah,ak,ao,ay⟩:=ae.sh;refine z7 ab.g2 @qCD aj ah ao ak @aD ?_;exact qC9<|(ab.set2 _).ends (an) (ay)
theorem SX (hk:Kp 146=(true,false)){o pm im:Nat}{lv:AV}(f:Nat)(hf:f<1000000000)(Md:aL Gl Gm Kp 230 [.ref o 0] o pm im lv (kW f) EN)(Mv:aL Gl Gm Kp 231 [.ref o 0] o pm im lv (tR f) EN)
  (Mc:∀ k fr:Int,aL Gl Gm Kp 232 [.ref o 0,.int .i64 k,.int .i64 fr] o pm im lv (Dp f k fr) EN) (Mi:∀ fr loc:Int,aL Gl Gm Kp 233 [.ref o 0,.int .i64 fr,.int .i64 loc] o pm im lv (jZ f fr loc) EN)
  (Mdef:∀(fr loc:Int) (u:Bool),aL Gl Gm Kp 229 [.ref o 0,.int .i64 fr,.int .i64 loc,.bool u] o pm im lv (fH f fr loc u) EN):aL Gl Gm Kp 149 [.ref o 0] o pm im lv (Oz f) EN:=by
 refine aL.st fun n h cv s T0 ho=>qB6 S 97 [.cell 2 32] Tryz.func149 fun _ _=>?_;have bz:=congrFun (Oz.eq_1 f) s;obtain⟨_,_,_,_⟩:=T0.hd;refine zz ?_;refine aA.st (T0.cell (.cells cC)) fun _ T1=>?_;refine qCK (qBx (iK S) T1 fun n2 h2 _ T2=>?_);have c5:=bz.trans (P.ok_bind (x:=P.begin) rfl);refine zz ?_;refine qCK (qBx (oB S 0 dc 1) T2 fun _ _ _ T3=>?_);have ax:=c5.trans (P.ok_bind (x:=P.kind 0 1) rfl);cases hk1:s.isKind 0 1 with
 |true=>
  rw[hk1]at ax;replace ax:=nt ax;refine z1 hk1 ?_;refine qBr (Mdef _ 0 true) T3 ax ho ?_;intro _ _ v4 n4 _ _ c6 br _ T4 _ _;obtain⟨_,rfl,bv,bu,bw,c8,E4⟩:=br.sh;refine z7 T4.g1 @qCD bv bu c8 bw @aD ?_;exact qC9<|(T4.set1 _).ends (c6) (E4)
 |false=>
  rw[hk1]at ax;replace ax:=nf ax;refine z1 hk1 ?_;refine qCK (qBx (gO S 0 dc) T3 fun n5 _ _ T5=>?_);have bc:=ax.trans (P.ok_bind (x:=P.tok 0) rfl);obtain⟨_,bm⟩:=eF T3.rep 0;generalize s.token 0=t at *;refine z3 @qBz @qB0 bm ?_;by_cases k4:t.kind=4
  .have c4:decide (t.kind=4)=true:=decide_eq_true k4;rw[if_pos k4]at bc;obtain⟨c7,bp⟩:=cJ (fun hc=>ho (bc.trans hc));have U:=bc.trans (P.ok_bind bp);have aj:=(T5.newc (.cells iH.cells) (.cells t.cells)).pos c7;by_cases g0:t.s=[67,79,78,83,84,65,78,84]\/t.s=[67,79,78,83,84,65,78,84,83]
   .rw[if_pos g0]at U;have gq:=g0;rcases gq with e | e
    .have d0:(t.s==[67,79,78,83,84,65,78,84])=true:=(by rw[e];rfl);refine z4 c4 T5.obj @aQ d0 ?_;refine aA.st (aj) fun h7 T7=>?_;refine qCK (St.listed S hk (Z:=[]) (a:=[.ref o 0]) (c:=[]) (Md.x []) (fun _=>rfl) f hf T7 Holds.nil U ho ?_ ?_ fun e he n2 h2 _ _=>by(refine zz ?_);exact qC9<|.err he)
     .intro l s8 xs n8 h8 a2 M O Y aw T8;refine zz ?_;refine qBr (eV S (nd:=nd 3 [] l) (.mk rfl rfl (.vec O)) _) T8 M ho ?_;intro a9 s9 v9 n9 h9 ba a1 ad ak T9 bd bb;obtain⟨az,rfl,ag,ae,ah,ai,E9⟩:=ad.sh;refine z7 T9.g2 @qCD ag ae ai ah @aD ?_;exact qC9<|(T9.set2 _).ends (a1) (E9)
     .intro l s8 xs b n8 h8 a2 M O Y aw hb T8;refine zz ?_;refine qCK (qBu S (k:=P.pure) T8 (.mk rfl rfl (qCc O T8.g1)) (M.trans (congrFun (P.bind_pure _).symm _)) ho fun bj v' n12 bg ab a5 ar a3=>?_);obtain⟨ay,rfl,a7,a6,aa,ac,al⟩:=a5.sh;refine z7 a3.g2 @qCD a7 a6 ac aa @aD ?_;exact qC9<|(a3.set2 _).ends (ab) (al)
    .have d0:(t.s==[67,79,78,83,84,65,78,84])=false:=(by rw[e];rfl);have d1:(t.s==[67,79,78,83,84,65,78,84,83])=true:=(by rw[e];rfl);refine z5 c4 T5.obj @aQ d0 d1 ?_;refine aA.st (aj) fun h7 T7=>?_;refine qCK (St.listed S hk (Z:=[]) (a:=[.ref o 0]) (c:=[]) (Md.x []) (fun _=>rfl) f hf T7 Holds.nil U ho ?_ ?_ fun e he n2 h2 _ _=>by(refine zz ?_);exact qC9<|.err he)
     .intro l s8 xs n8 h8 a2 M O Y aw T8;refine zz ?_;refine qBr (eV S (nd:=nd 3 [] l) (.mk rfl rfl (.vec O)) _) T8 M ho ?_;intro a9 s9 v9 n9 h9 ba a1 ad ak T9 bd bb;obtain⟨az,rfl,ag,ae,ah,ai,E9⟩:=ad.sh;refine z7 T9.g2 @qCD ag ae ai ah @aD ?_;exact qC9<|(T9.set2 _).ends (a1) (E9)
     .intro l s8 xs b n8 h8 a2 M O Y aw hb T8;refine zz ?_;refine qCK (qBu S (k:=P.pure) T8 (.mk rfl rfl (qCc O T8.g1)) (M.trans (congrFun (P.bind_pure _).symm _)) ho fun bj v' n12 bg ab a5 ar a3=>?_);obtain⟨ay,rfl,a7,a6,aa,ac,al⟩:=a5.sh;refine z7 a3.g2 @qCD a7 a6 ac aa @aD ?_;exact qC9<|(a3.set2 _).ends (ab) (al)
   .rw[if_neg g0]at U;have b0:(t.s==[67,79,78,83,84,65,78,84])=false:=beq_eq_false_iff_ne.2 fun h=>g0 (.inl h);have b1:(t.s==[67,79,78,83,84,65,78,84,83])=false:=beq_eq_false_iff_ne.2 fun h=>g0 (.inr h);by_cases g1:t.s=[82,69,67,85,82,83,73,86,69]
    .rw[if_pos g1]at U;have e:=g1;have d0:(t.s==[82,69,67,85,82,83,73,86,69])=true:=(by rw[e];rfl);refine z6 c4 T5.obj @aQ b0 b1 d0 ?_;refine aA.st (aj) fun h7 T7=>?_;refine qCK (St.listed S hk (Z:=[]) (a:=[.ref o 0]) (c:=[]) (Md.x []) (fun _=>rfl) f hf T7 Holds.nil U ho ?_ ?_ fun e he n2 h2 _ _=>by(refine zz ?_);exact qC9<|.err he)
     .intro l s8 xs n8 h8 a2 M O Y aw T8;refine zz ?_;refine qBr (eV S (nd:=nd 7 [] l) (.mk rfl rfl (.vec O)) _) T8 M ho ?_;intro a9 s9 v9 n9 h9 ba a1 ad ak T9 bd bb;obtain⟨az,rfl,ag,ae,ah,ai,E9⟩:=ad.sh;refine z7 T9.g2 @qCD ag ae ai ah @aD ?_;exact qC9<|(T9.set2 _).ends (a1) (E9)
     .intro l s8 xs b n8 h8 a2 M O Y aw hb T8;refine zz ?_;refine qCK (qBu S (k:=P.pure) T8 (.mk rfl rfl (qCc O T8.g1)) (M.trans (congrFun (P.bind_pure _).symm _)) ho fun bj v' n12 bg ab a5 ar a3=>?_);obtain⟨ay,rfl,a7,a6,aa,ac,al⟩:=a5.sh;refine z7 a3.g2 @qCD a7 a6 ac aa @aD ?_;exact qC9<|(a3.set2 _).ends (ab) (al)
    .rw[if_neg g1]at U;have b2:(t.s==[82,69,67,85,82,83,73,86,69])=false:=beq_eq_false_iff_ne.2 fun h=>g1 h;by_cases g2:t.s=[86,65,82,73,65,66,76,69]\/t.s=[86,65,82,73,65,66,76,69,83]
     .rw[if_pos g2]at U;have gq:=g2;rcases gq with e | e
      .have d0:(t.s==[86,65,82,73,65,66,76,69])=true:=(by rw[e];rfl);refine z7 c4 T5.obj @aQ b0 b1 b2 d0 ?_;refine aA.st (aj) fun h7 T7=>?_;refine qCK (St.listed S hk (Z:=[]) (a:=[.ref o 0]) (c:=[]) (Mv.x []) (fun _=>rfl) f hf T7 Holds.nil U ho ?_ ?_ fun e he n2 h2 _ _=>by(refine zz ?_);exact qC9<|.err he)
       .intro l s8 xs n8 h8 a2 M O Y aw T8;refine zz ?_;refine qBr (eV S (nd:=nd 4 [] l) (.mk rfl rfl (.vec O)) _) T8 M ho ?_;intro a9 s9 v9 n9 h9 ba a1 ad ak T9 bd bb;obtain⟨az,rfl,ag,ae,ah,ai,E9⟩:=ad.sh;refine z7 T9.g2 @qCD ag ae ai ah @aD ?_;exact qC9<|(T9.set2 _).ends (a1) (E9)
       .intro l s8 xs b n8 h8 a2 M O Y aw hb T8;refine zz ?_;refine qCK (qBu S (k:=P.pure) T8 (.mk rfl rfl (qCc O T8.g1)) (M.trans (congrFun (P.bind_pure _).symm _)) ho fun bj v' n12 bg ab a5 ar a3=>?_);obtain⟨ay,rfl,a7,a6,aa,ac,al⟩:=a5.sh;refine z7 a3.g2 @qCD a7 a6 ac aa @aD ?_;exact qC9<|(a3.set2 _).ends (ab) (al)
      .have d0:(t.s==[86,65,82,73,65,66,76,69])=false:=(by rw[e];rfl);have d1:(t.s==[86,65,82,73,65,66,76,69,83])=true:=(by rw[e];rfl);refine z8 c4 T5.obj @aQ b0 b1 b2 d0 d1 ?_;refine aA.st (aj) fun h7 T7=>?_;refine qCK (St.listed S hk (Z:=[]) (a:=[.ref o 0]) (c:=[]) (Mv.x []) (fun _=>rfl) f hf T7 Holds.nil U ho ?_ ?_ fun e he n2 h2 _ _=>by(refine zz ?_);exact qC9<|.err he)
       .intro l s8 xs n8 h8 a2 M O Y aw T8;refine zz ?_;refine qBr (eV S (nd:=nd 4 [] l) (.mk rfl rfl (.vec O)) _) T8 M ho ?_;intro a9 s9 v9 n9 h9 ba a1 ad ak T9 bd bb;obtain⟨az,rfl,ag,ae,ah,ai,E9⟩:=ad.sh;refine z7 T9.g2 @qCD ag ae ai ah @aD ?_;exact qC9<|(T9.set2 _).ends (a1) (E9)
       .intro l s8 xs b n8 h8 a2 M O Y aw hb T8;refine zz ?_;refine qCK (qBu S (k:=P.pure) T8 (.mk rfl rfl (qCc O T8.g1)) (M.trans (congrFun (P.bind_pure _).symm _)) ho fun bj v' n12 bg ab a5 ar a3=>?_);obtain⟨ay,rfl,a7,a6,aa,ac,al⟩:=a5.sh;refine z7 a3.g2 @qCD a7 a6 ac aa @aD ?_;exact qC9<|(a3.set2 _).ends (ab) (al)
     .rw[if_neg g2]at U;have b3:(t.s==[86,65,82,73,65,66,76,69])=false:=beq_eq_false_iff_ne.2 fun h=>g2 (.inl h);have b4:(t.s==[86,65,82,73,65,66,76,69,83])=false:=beq_eq_false_iff_ne.2 fun h=>g2 (.inr h);by_cases g3:t.s=[65,83,83,85,77,69]\/t.s=[65,83,83,85,77,80,84,73,79,78]\/t.s=[65,88,73,79,77]
      .rw[if_pos g3]at U;have gq:=g3;rcases gq with e | e | e
       .have d0:(t.s==[65,83,83,85,77,69])=true:=(by rw[e];rfl);refine z9 c4 T5.obj @aQ b0 b1 b2 b3 b4 d0 ?_;refine aA.st (aj) fun h7 T7=>?_;refine qBr (Mc 5 _) T7 U ho ?_;intro a8 s8 v8 n8 h8 a2 M O Y T8 bi bh;obtain⟨be,rfl,ao,an,ap,au,E8⟩:=O.sh;refine z7 T8.g2 @qCD ao an au ap @aD ?_;exact qC9<|(T8.set2 _).ends (M) (E8)
       .have d0:(t.s==[65,83,83,85,77,69])=false:=(by rw[e];rfl);have d1:(t.s==[65,83,83,85,77,80,84,73,79,78])=true:=(by rw[e];rfl);refine Pe c4 T5.obj @aQ b0 b1 b2 b3 b4 d0 d1 ?_;refine aA.st (aj) fun h7 T7=>?_;refine qBr (Mc 5 _) T7 U ho ?_;intro a8 s8 v8 n8 h8 a2 M O Y T8 bi bh;obtain⟨be,rfl,ao,an,ap,au,E8⟩:=O.sh;refine z7 T8.g2 @qCD ao an au ap @aD ?_;exact qC9<|(T8.set2 _).ends (M) (E8)
       .have d0:(t.s==[65,83,83,85,77,69])=false:=(by rw[e];rfl);have d1:(t.s==[65,83,83,85,77,80,84,73,79,78])=false:=(by rw[e];rfl);have d2:(t.s==[65,88,73,79,77])=true:=(by rw[e];rfl);refine z11 c4 T5.obj @aQ b0 b1 b2 b3 b4 d0 d1 d2 ?_;refine aA.st (aj) fun h7 T7=>?_;refine qBr (Mc 5 _) T7 U ho ?_;intro a8 s8 v8 n8 h8 a2 M O Y T8 bi bh;obtain⟨be,rfl,ao,an,ap,au,E8⟩:=O.sh;refine z7 T8.g2 @qCD ao an au ap @aD ?_;exact qC9<|(T8.set2 _).ends (M) (E8)
      .rw[if_neg g3]at U;have b5:(t.s==[65,83,83,85,77,69])=false:=beq_eq_false_iff_ne.2 fun h=>g3 (.inl h);have b6:(t.s==[65,83,83,85,77,80,84,73,79,78])=false:=beq_eq_false_iff_ne.2 fun h=>g3 (.inr (.inl h));have b7:(t.s==[65,88,73,79,77])=false:=beq_eq_false_iff_ne.2 fun h=>g3 (.inr (.inr h));by_cases g4:t.s=[84,72,69,79,82,69,77]
       .rw[if_pos g4]at U;have e:=g4;have d0:(t.s==[84,72,69,79,82,69,77])=true:=(by rw[e];rfl);refine TA c4 T5.obj @aQ b0 b1 b2 b3 b4 b5 b6 b7 d0 ?_;refine aA.st (aj) fun h7 T7=>?_;refine qBr (Mc 6 _) T7 U ho ?_;intro a8 s8 v8 n8 h8 a2 M O Y T8 bi bh;obtain⟨be,rfl,ao,an,ap,au,E8⟩:=O.sh;refine z7 T8.g2 @qCD ao an au ap @aD ?_;exact qC9<|(T8.set2 _).ends (M) (E8)
       .rw[if_neg g4]at U;have b8:(t.s==[84,72,69,79,82,69,77])=false:=beq_eq_false_iff_ne.2 fun h=>g4 h;by_cases g5:t.s=[73,78,83,84,65,78,67,69]
        .rw[if_pos g5]at U;have e:=g5;have d0:(t.s==[73,78,83,84,65,78,67,69])=true:=(by rw[e];rfl);refine TA c4 T5.obj @aQ b0 b1 b2 b3 b4 b5 b6 b7 (And.intro b8 d0) ?_;refine aA.st (aj) fun h7 T7=>?_;refine qBr (Mi _ 0) T7 U ho ?_;intro a8 s8 v8 n8 h8 a2 M O Y T8 bi bh;obtain⟨be,rfl,ao,an,ap,au,E8⟩:=O.sh;refine z7 T8.g2 @qCD ao an au ap @aD ?_;exact qC9<|(T8.set2 _).ends (M) (E8)
        .rw[if_neg g5]at U;have b9:(t.s==[73,78,83,84,65,78,67,69])=false:=beq_eq_false_iff_ne.2 fun h=>g5 h;by_cases g6:t.s=[76,79,67,65,76]
         .rw[if_pos g6]at U;have e:=g6;have d0:(t.s==[76,79,67,65,76])=true:=(by rw[e];rfl);refine TA c4 T5.obj @aQ b0 b1 b2 b3 b4 b5 b6 b7 (And.intro b8 (And.intro b9 d0)) ?_;refine aA.st (aj) fun h7 T7=>?_;refine qCK (St.take S T7 U ?_ ?_)
          .intro s8 n8 h8 a2 M Y T8;replace M:=nt M;refine zz ?_;refine qBr (Mi _ 1) T8 M ho ?_;intro a9 s9 v9 n9 h9 ba a1 ad ak T9 bd bb;obtain⟨az,rfl,ag,ae,ah,ai,E9⟩:=ad.sh;refine z7 T9.g2 @qCD ag ae ai ah @aD ?_;exact qC9<|(T9.set2 _).ends (a1) (E9)
          .intro s8 n8 h8 a2 M Y T8;replace M:=nf M;refine zz ?_;refine qBr (Mdef _ 1 true) T8 M ho ?_;intro a9 s9 v9 n9 h9 ba a1 ad ak T9 bd bb;obtain⟨az,rfl,ag,ae,ah,ai,E9⟩:=ad.sh;refine z7 T9.g2 @qCD ag ae ai ah @aD ?_;exact qC9<|(T9.set2 _).ends (a1) (E9)
         .rw[if_neg g6]at U;have bq:(t.s==[76,79,67,65,76])=false:=beq_eq_false_iff_ne.2 fun h=>g6 h;obtain⟨_,bk⟩:=Kd (fun hc=>ho (U.trans hc));have bl:=U.trans (P.ok_bind bk);refine TA c4 T5.obj @aQ b0 b1 b2 b3 b4 b5 b6 b7 (And.intro b8 (And.intro b9 bq)) ?_;refine aA.st (aj.pos (p:=s.pos+1-1) (show s.pos+1-1<=s.l.length by omega)) fun h7 T7=>?_;refine qCK (qBs (lE S EN) T7 bl ho (fun a s2 v n2 h2 cv2 a1=>absurd (bl.symm.trans a1) (by simp[P.fail])) fun e he n2 h2 _ _=>by(refine zz ?_);exact qC9<|.err he)
  .have c4:decide (t.kind=4)=false:=decide_eq_false k4;rw[if_neg k4]at bc;refine z2 c4 @Bool.not_false ?_;refine aA.st (T5.newc _ (.cells t.cells)) fun _ T6=>?_;refine qCK (qBs (lE S EN) T6 bc ho (fun a s2 v n2 h2 cv2 a1=>absurd (bc.symm.trans a1) (by simp[P.fail])) fun e he n2 h2 _ _=>by(refine zz ?_);exact qC9<|.err he)
theorem GC (hk:Kp 146=(true,false)){o pm im:Nat}{lv:AV}(f:Nat)(hf:f<1000000000)(Mu:∀ k,k<=f->aL Gl Gm Kp 149 [.ref o 0] o pm im lv (Oz k) EN):aL Gl Gm Kp 95 [.ref o 0] o pm im lv (pE f) EN:=by
 refine aL.st fun n h cv s T0 ho=>aG.cut 65 [.cell 2 32] 7 (fun E nn hh=>∃(L:LS) (l:List Node) (s2:PS) (cv2:AV) (sg:List UInt8) (nO:Nat),E=[(0,.ref o 0),(2,.ref n 0),(3,.int .i64 (s.token 0).at'),(4,.ref nO 0)]/\
  pE f s=(vC f l >>= fun l=>P.step 1 >>= fun _=>P.done (nd 1 sg l) (s.token 0).at') s2/\EV l L.xs/\n+1<=nO/\l.length<=1/\(L=.nil\/∃ b xs,L=.arr b xs xs.length/\xs≠[])/\
  (aE nn hh->St n h o pm im lv cv (L.objs++[(nO,.cells (bC 1 0 sg L.val)),(n,.cells cC)]) s2 nn hh cv2))
  Tryz.func95 rfl (S.gm _ dc) (S.kp _ dc dc) rfl rfl (fun hB _=>?_) (fun hB E nn hh b3 bj b9=>?_)
 .have cg:=congrFun (pE.eq_1 f) s;have cn:=T0.on;have cq:=T0.lt;have cf:=T0.rep.len;refine zz ?_;refine aA.st (T0.cell (.cells cC)) fun _ T1=>?_;refine qCK (qBx (iK S) T1 fun n2 h2 _ T2=>?_);have ch:=cg.trans (P.ok_bind (x:=P.begin) rfl);refine zz ?_;refine qBt (iG S 6 dc) T2 ch ho ?_;intro _ s3 v3 _ _ _ ci _ _ T3 _ _;refine zz ?_;refine qBt (bL S [77,79,68,85,76,69]) T3 ci ho ?_;intro u _ v4 n4 _ _ cj _ _ T4 _ _;refine zz ?_;refine qBt (iG S 1 dc) T4 cj ho ?_;intro a5 s5 v5 n5 _ au a4 M _ T5 ck cb;obtain⟨rfl,_,bp⟩:=M;refine z3 @qBz @qB0 bp ?_;refine aA.st (T5.newc _ (.cells (bC 1 0 a5.s .sl0))) fun h6 T6=>?_;refine qBt (iG S 6 dc) T6 a4 ho ?_;intro _ _ v7 n7 h7 _ O _ bi T7 _ _;refine zz ?_;refine qCK (qBx (iK S) T7 fun n8 h8 _ T8=>?_);have ac:=O.trans (P.ok_bind (x:=P.begin) rfl);refine zz ?_;refine qCK (St.take S T8 ac ?_ ?_)
  .intro s9 n9 h9 aw U aa T9;replace U:=nt U;have ay:=aM 1 104 dc dc;refine zz ?_;refine qCP [(1,6),(1,9)] [ (6,8)] kr ?_;refine z2 T9.g1 @qCE ?_;refine qCN (Own o _) T9.bound (St.listedD S hk (Z:=[]) (a:=[.ref o 0]) (c:=[]) ((oE S).x []) (fun _=>rfl) f hf T9 Holds.nil U ho ?_ ?_ fun e he _ hE _ _ _=>by(refine fC (by(repeat (first | (refine qCJ om ?_) | (refine z1 T9.o1 ?_) | exact True.intro))) ?_);(repeat (refine fW rfl ?_));(repeat (first | (refine qCJ om ?_) | (refine z1 T9.o1 ?_) | exact True.intro));unfold gN;intro nx h' _ _ _;(refine zz ?_);exact qC9<|.err he)
   .intro l s10 xs n10 c8 b7 an ae b1 b4 bz ab;refine g1 T9.o1 ?_;refine qCN (fun _=>False) (fun _ _ h=>h.elim) (qCq S ab (nd:=nd 2 [] l) (.mk rfl rfl (.vec ae)) an ho fun ar cp n13 c9 ao ag b2 bh ad=>?_);obtain⟨a2,rfl,ak,ai,bg,br,az⟩:=ag.sh;refine g6 ak ai @aB ay ad.g1 @qCE ?_;refine qCT fun c6 bu c5=>?_;refine zz ?_;refine qCO [(0,.ref o 0),(2,.ref n 0),(3,.int .i64 (s.token 0).at'),(4,.ref n5 0)] sb ⟨.arr n13 [.agg a2] 1,[ar],_,_,a5.s,n5,rfl,ao,.cons az .nil,by omega,by simp,.inr ⟨_,_,rfl,by simp⟩,fun Y=>((ad.cell (.arr 8 [.agg a2])).set2 (.cells (bC 1 0 a5.s (.sl n13 0 1)))).nx om Y⟩
   .intro l s10 xs b n10 c8 b7 an ae b1 b4 bz hb ab;have bc:n5<b/\n<=n5:=ab.l2;refine g1 T9.o1 ?_;refine qCN (fun t=>t=b) (fun t _ h=>by subst h;exact .inl (ab.l1.2)) (qCp S ab (nd:=nd 2 [] l) (.mk rfl rfl (qCc ae ab.g1)) an ho fun ar cp n13 c9 ao ag b2 bh ad=>?_);obtain⟨a2,rfl,ak,ai,bg,br,az⟩:=ag.sh;refine g6 ak ai @aB ay ad.g1 @qCE ?_;refine qCT fun c6 bu c5=>?_;refine zz ?_;refine qCO [(0,.ref o 0),(2,.ref n 0),(3,.int .i64 (s.token 0).at'),(4,.ref n5 0)] sb ⟨.arr n13 [.agg a2] 1,[ar],_,_,a5.s,n5,rfl,ao,.cons az .nil,by omega,by simp,.inr ⟨_,_,rfl,by simp⟩,fun Y=>((ad.cell (.arr 8 [.agg a2])).set2 (.cells (bC 1 0 a5.s (.sl n13 0 1)))).nx om Y⟩
  .intro s9 n9 h9 aw U aa T9;replace U:=nf U;refine zz ?_;refine qCO [(0,.ref o 0),(2,.ref n 0),(3,.int .i64 (s.token 0).at'),(4,.ref n5 0)] sb ⟨.nil,[],_,_,a5.s,n5,rfl,U,.nil,by omega,by simp,.inl rfl,fun Y=>T9.nx om Y⟩
 .obtain⟨L,l,s5,au,sg,nO,rfl,a4,M,_,ce,hL,T5⟩:=b9;have cn:=T0.on;refine zz ?_;refine qCu (fun k E nn hh=>∃(L:LS) (l:List Node) (s2:PS) (cv2:AV),E=[(0,.ref o 0),(2,.ref n 0),(3,.int .i64 (s.token 0).at'),(4,.ref nO 0)]/\pE f s=(vC k l >>= fun l=>P.step 1 >>= fun _=>P.done (nd 1 sg l) (s.token 0).at') s2/\EV l L.xs/\(L=.nil\/∃ b xs,L=.arr b xs xs.length/\xs≠[])/\l.length+k<=f+1/\n<=nn/\
   (aE nn hh->St n h o pm im lv cv (L.objs++[(nO,.cells (bC 1 0 sg L.val)),(n,.cells cC)]) s2 nn hh cv2)) f ⟨L,l,s5,au,rfl,a4,M,hL,by omega,b3,T5⟩ ?_
  .clear a4 M hL ce T5 s5 au L l;rintro k E nn hh bj hBk ⟨L,l,s5,au,rfl,a4,M,hL,hlen5,hnn,T5⟩;cases k with
   |zero=>exact absurd a4 (fun hc=>ho hc)
   |succ k=>
    have T5:=T5 bj;have ck:=T5.le;have cb:=T5.rep.len;rw[vC.eq_2,qCk]at a4;refine zz ?_;refine qCK (qBx (oB S 0 dc 7) T5 fun n6 h6 _ T6=>?_);have a1:=a4.trans (P.ok_bind (x:=P.kind 0 7) rfl);cases hk7:s5.isKind 0 7 with
    |true=>
     rw[hk7]at a1;replace a1:=nt a1;rw[qCn]at a1;obtain⟨ax,ap⟩:=cJ (fun hc=>ho (a1.trans hc));have ac:=a1.trans (P.ok_bind ap);rcases hL with rfl | ⟨b,xs,rfl,hxs⟩
     .simp only[LS.objs,LS.val,LS.xs,List.nil_append]at T6 M;cases M;have cc:nO<n6/\n<=nO:=T6.l1;refine z6 hk7 @Bool.not_true T6.obj @aQ T6.g1 @qCE ?_;refine aA.st (T6.pos ax) fun h8 T8=>?_;refine qBr (eV S (nd:=nd 1 sg []) (.mk rfl rfl .nil) _) T8 ac ho ?_;intro a9 s9 v9 n9 h9 aw U ah aa T9 bm ba;obtain⟨a6,rfl,al,aj,b0,b5,E9⟩:=ah.sh;refine z7 T9.g2 @qCD al aj b5 b0 @aD ?_;exact qC9<|(T9.set2 _).ends (U) (E9)
     .simp only[LS.objs,LS.val,LS.xs,List.cons_append,List.nil_append]at T6 M;have cd:b<n6/\n<=b:=T6.l1;have bc:nO<b/\n<=nO:=T6.l2;refine z6 hk7 @Bool.not_true T6.obj @aQ T6.g2 @qCE ?_;refine aA.st (T6.pos ax) fun h8 T8=>?_;refine qCK (qBu S (k:=P.pure) T8 (.mk rfl rfl (qCc M T8.g1)) (ac.trans (congrFun (P.bind_pure _).symm _)) ho fun _ _ n12 _ bl b8 _ b6=>?_);obtain⟨_,rfl,bd,bb,be,bq,c7⟩:=b8.sh;refine z7 b6.g2 @qCD bd bb bq be @aD ?_;exact qC9<|(b6.set2 _).ends (bl) (c7)
    |false=>
     rw[hk7]at a1;replace a1:=nf a1;rw[qCk]at a1;refine z2 hk7 @Bool.not_false ?_;refine qCK (qBx (oB S 0 dc 6) T6 fun n7 h7 bi T7=>?_);have O:=a1.trans (P.ok_bind (x:=P.kind 0 6) rfl);cases hk6:s5.isKind 0 6 with
     |true=>
      rw[hk6]at O;replace O:=nt O;rw[qCk]at O;obtain⟨ax,ap⟩:=cJ (fun hc=>ho (O.trans hc));have ac:=O.trans (P.ok_bind ap);refine z3 hk6 T7.obj @aQ ?_;refine qCR k [(0,.ref o 0),(2,.ref n 0),(3,.int .i64 (s.token 0).at'),(4,.ref nO 0)] om sb ⟨L,l,_,_,rfl,ac,M,hL,by omega,by omega,fun Y=>(T7.pos ax).nx om Y⟩
     |false=>
      rw[hk6]at O;replace O:=nf O;rw[qCk]at O;refine z1 hk6 ?_;rcases hL with rfl | ⟨b,xs,rfl,hxs⟩
      .simp only[LS.objs,LS.val,LS.xs,List.nil_append]at T7 M;cases M;have cc:nO<n7/\n<=nO:=T7.l1;have a8:=aM (1) 104 om om;refine qCP [(1,3)] [] kr ?_;refine z2 T7.g1 @qCE ?_;refine qBv (Mu k (by simp at hlen5;omega)) T7 O ho T7.o1 ?_;intro a9 s9 v9 n9 h9 aw U ah aa bk T9 bm ba;obtain⟨a6,rfl,al,aj,b0,b5,E9⟩:=ah.sh;refine z1 T7.o1 ?_;refine qCJ om ?_;refine z6 al aj @aB a8 T9.g1 @qCE ?_;refine qCT fun co bv bw=>?_;refine zz ?_;refine qCR k [(0,.ref o 0),(2,.ref n 0),(3,.int .i64 (s.token 0).at'),(4,.ref nO 0)] om sb ⟨.arr n9 [.agg a6] 1,[a9],_,_,rfl,U,.cons E9 .nil,.inr ⟨_,_,rfl,by simp⟩,by simp at hlen5 ⊢;omega,by omega,fun Y=>(((T9.cell (.arr 8 [AV.agg a6])).set2 (.cells (bC 1 0 sg (.sl n9 0 1))))).nx om Y⟩
      .simp only[LS.objs,LS.val,LS.xs,List.cons_append,List.nil_append]at T7 M;have cd:b<n7/\n<=b:=T7.l1;have bc:nO<b/\n<=nO:=T7.l2;have bz:=M.length;have a8:=aM (xs.length+1) 104 om om;refine qCP [(1,3)] [] kr ?_;refine z2 T7.g2 @qCE ?_;refine qBv (Mu k om) T7 O ho T7.o2 ?_;intro a9 s9 v9 n9 h9 aw U ah aa bk T9 bm ba;obtain⟨a6,rfl,al,aj,b0,b5,E9⟩:=ah.sh;refine z1 T7.o2 ?_;refine qCJ om ?_;refine z7 al aj @aB a8 T9.g2 T9.g1 @qCE ?_;refine qCT fun co bv bw=>?_;refine zz ?_;refine qCR k [(0,.ref o 0),(2,.ref n 0),(3,.int .i64 (s.token 0).at'),(4,.ref nO 0)] om sb ⟨.arr n9 (xs++[AV.agg a6]) (xs.length+1),l++[a9],_,_,rfl,U,M.append (.cons E9 .nil),.inr ⟨n9,xs++[AV.agg a6],by simp,by simp⟩,by simp;omega,by omega,fun Y=>(((T9.del1.cell (.arr 8 (xs++[AV.agg a6]))).set2 (.cells (bC 1 0 sg (.sl n9 0 (xs.length+1)))))).nx om Y⟩
end
section
variable {Gl:qC6}{Gm:qC7}{Kp:qC8}(S:Seat Gm Kp)
theorem aL.oof' {α:Type}{f:FuncId}{args:List AV}{o pm im:Nat}{lv:AV}{m:P α}{En:α->AV->Prop}(h:m=P.oof):aL Gl Gm Kp f args o pm im lv m En:=by
 subst h;intro n h cv s R M;exact absurd rfl M
include S
theorem Xz {o pm im:Nat}{lv:AV}:aL Gl Gm Kp 333 [.ref o 0] o pm im lv (pD 1) EN:=by
 refine aL.st fun n h cv s T0 ho=>qB6 S 36 [.cell 2 32] Tryz.func333 fun _ _=>?_;have U:=congrFun (pD.eq_2 0) s;obtain⟨_,_,_,_⟩:=T0.hd;refine zz ?_;obtain⟨a5,a1⟩:=cJ (fun hc=>ho (U.trans hc));have a3:=U.trans (P.ok_bind a1);refine z2 T0.obj @aQ ?_;refine aA.st ((T0.cell (.cells cC)).pos a5) fun _ T1=>?_;refine qCK (qBx (oB S 0 dc 1) T1 fun n2 h2 _ T2=>?_);have O:=a3.trans (P.ok_bind (x:=P.kind 0 1) rfl);cases hk1:PS.isKind {s with pos:=s.pos+1} 0 1 with
 |false=>
  rw[hk1]at O;replace O:=nf O;exact absurd (O.trans (congrFun qA.eq_1 _)) ho
 |true=>
  rw[hk1]at O;replace O:=nt O;refine z1 hk1 ?_;refine qCK (qBx (sI S 1 dc [92,105,110]) T2 fun _ _ _ T3=>?_);have M:=O.trans (P.ok_bind (x:=P.is 1 [92,105,110]) rfl);cases hi:PS.isSign {s with pos:=s.pos+1} 1 [92,105,110] with
  |true=>
   rw[hi]at M;replace M:=nt M;exact absurd (M.trans (congrFun qA.eq_1 _)) ho
  |false=>
   rw[hi]at M;replace M:=nf M;obtain⟨a6,a2⟩:=cJ (fun hc=>ho (M.trans hc));have Y:=M.trans (P.ok_bind a2);refine z4 hk1 hi T3.obj @aQ ?_;refine aA.st (T3.pos a6) fun _ T8=>?_;refine qCK (qBs (lE S EN) T8 Y ho (fun a s2 v n2 h2 cv2 a4=>absurd (Y.symm.trans a4) (by simp[P.fail])) fun e he n2 h2 _ _=>by(refine zz ?_);exact qC9<|.err he)
section
variable (Gl Gm Kp)
structure All (o pm im:Nat)(lv:AV)(k:Nat):Prop where
 expr:aL Gl Gm Kp 76 [.ref o 0] o pm im lv (cS k) EN
 whole:aL Gl Gm Kp 124 [.ref o 0] o pm im lv (gU k []) EO
 primary:aL Gl Gm Kp 206 [.ref o 0] o pm im lv (lQ k) EO
 bare:aL Gl Gm Kp 279 [.ref o 0] o pm im lv (Gv k) EN
 applied:aL Gl Gm Kp 363 [.ref o 0] o pm im lv (oN k) EN
 named:aL Gl Gm Kp 330 [.ref o 0] o pm im lv (vB k) EN
 argument:∀ sb,aL Gl Gm Kp 348 [.ref o 0,.bool sb] o pm im lv (kV k sb) EN
 bullets:aL Gl Gm Kp 331 [.ref o 0] o pm im lv (oO k) EN
 bind:aL Gl Gm Kp 294 [.ref o 0] o pm im lv (nG k) EN
 quantified:aL Gl Gm Kp 332 [.ref o 0] o pm im lv (kX k) EN
 choose:aL Gl Gm Kp 333 [.ref o 0] o pm im lv (pD k) EN
 condition:aL Gl Gm Kp 334 [.ref o 0] o pm im lv (mD k) EN
 cases':aL Gl Gm Kp 335 [.ref o 0] o pm im lv (P.step 1 >>= fun _=>mX k []) EN
 let':aL Gl Gm Kp 336 [.ref o 0] o pm im lv (P.step 1 >>= fun _=>zL k []) EN
 definition:∀(fr loc:Int) (u:Bool),aL Gl Gm Kp 229 [.ref o 0,.int .i64 fr,.int .i64 loc,.bool u] o pm im lv (fH k fr loc u) EN
 inst:∀(fr loc:Int),aL Gl Gm Kp 233 [.ref o 0,.int .i64 fr,.int .i64 loc] o pm im lv (jZ k fr loc) EN
 subst:aL Gl Gm Kp 297 [.ref o 0] o pm im lv (yL k) EN
 set:aL Gl Gm Kp 337 [.ref o 0] o pm im lv (Oy k) EN
 tuple:aL Gl Gm Kp 365 [.ref o 0] o pm im lv (tD k) ET
 angle:aL Gl Gm Kp 338 [.ref o 0] o pm im lv (yJ k) EN
 subscript:aL Gl Gm Kp 366 [.ref o 0] o pm im lv (gL k) EN
 fair:aL Gl Gm Kp 340 [.ref o 0] o pm im lv (Gw k) EN
 field:∀ w kd pc rc,iL Gl Gm Kp [(pc,[.ref o 0]),(rc,[.str w,.int .i64 kd])] 367 ([]++[.ref pc 0,.ref rc 0]) o pm im lv (tC k w) EN
 square:aL Gl Gm Kp 339 [.ref o 0] o pm im lv (pF k) EN
 update:aL Gl Gm Kp 369 [.ref o 0] o pm im lv (pG k) EN
end
structure oS (Kp:qC8):Prop where
 k146:Kp 146=(true,false)
 k295:Kp 295=(true,false)
 k209:Kp 209=(true,false)
 k120:Kp 120=(true,false)
omit S in
theorem Nj {m:Nat->P Node}(h:m 0=P.oof){f:FuncId}{args:List AV}{o pm im:Nat}{lv:AV}:aL Gl Gm Kp f args o pm im lv (P.step 1 >>= fun _=>m 0) EN:=by
 intro n h' cv s R M;refine absurd ?_ M;show P.bind (P.step 1) (fun _=>m 0) s=_;unfold P.bind P.step;rw[h];split
 .rename_i a s' he
  rfl
 .rename_i e he;split at he
  .cases he
  .cases he;rfl
theorem OF (K:oS Kp){o pm im:Nat}{lv:AV}:∀ k,k<1000000000->All Gl Gm Kp o pm im lv k:=by
 intro k
 induction k using Nat.strongRecOn with
 |_ k ih=>
  intro _;cases k with
  |zero=>
   exact⟨.oof' cS.eq_1,.oof' (gU.eq_1 _),.oof' lQ.eq_1,.oof' Gv.eq_1,.oof' oN.eq_1,.oof' vB.eq_1,fun sb=>.oof' (kV.eq_1 sb),.oof' oO.eq_1,.oof' nG.eq_1,.oof' kX.eq_1,.oof' pD.eq_1,.oof' mD.eq_1,Nj (m:=fun k=>mX k []) (mX.eq_1 _),Nj (m:=fun k=>zL k []) (zL.eq_1 _),fun fr loc u=>.oof' (fH.eq_1 fr loc u),fun fr loc=>.oof' (jZ.eq_1 fr loc),.oof' yL.eq_1,.oof' Oy.eq_1,.oof' tD.eq_1,.oof' yJ.eq_1,.oof' gL.eq_1,.oof' Gw.eq_1,fun w kd pc rc=>(aL.oof' (tC.eq_1 w)).x _,.oof' pF.eq_1,.oof' pG.eq_1⟩
  |succ f=>
   have A:∀ k,k<=f->All Gl Gm Kp o pm im lv k:=fun k h=>ih k om om;have B:=A f (Nat.le_refl _);have M:f<1000000000:=om;have U:∀ k,k<=f->aL Gl Gm Kp 76 [.ref o 0] o pm im lv (cS k) EN:=fun k h=>(A k h).expr;have e1:aL Gl Gm Kp 76 [.ref o 0] o pm im lv (cS (f+1)) EN:=QD S f B.whole;have O:∀ k,k<=f+1->aL Gl Gm Kp 76 [.ref o 0] o pm im lv (cS k) EN:=fun k h=>by
    rcases Nat.lt_or_ge k (f+1) with h1 | h1
    .exact U k om
    .have:k=f+1:=om;subst this;exact e1
   have p1:aL Gl Gm Kp 206 [.ref o 0] o pm im lv (lQ (f+1)) EO:=AK S f B.expr B.bare;have a1:∀ k,k<=f+1->aL Gl Gm Kp 206 [.ref o 0] o pm im lv (lQ k) EO:=fun k h=>by
    rcases Nat.lt_or_ge k (f+1) with h1 | h1
    .exact(A k om).primary
    .have:k=f+1:=om;subst this;exact p1
   have d1:∀(fr loc:Int) (u:Bool),aL Gl Gm Kp 229 [.ref o 0,.int .i64 fr,.int .i64 loc,.bool u] o pm im lv (fH (f+1) fr loc u) EN:=fun fr loc u=>Hg S K.k146 f M fr loc u U B.bind (As S K.k295 f M) fun k h fr loc=>(A k h).inst fr loc;have Y:∀ k,k<=f+1->∀ fr:Int,aL Gl Gm Kp 229 [.ref o 0,.int .i64 fr,.int .i64 0,.bool false] o pm im lv (fH k fr 0 false) EN:=fun k h fr=>by
    rcases Nat.lt_or_ge k (f+1) with h1 | h1
    .exact(A k om).definition fr 0 false
    .have:k=f+1:=om;subst this;exact d1 fr 0 false
   refine⟨e1,NY S K.k209 (f+1) a1 (fun k h n h' cv s x _ st stv R ex a2=>Xj S K.k146 k om (fun j _=>O j om) R ex a2),p1,OY S f B.named B.bullets B.quantified B.choose B.condition B.cases' B.let' B.set B.angle B.square B.fair (SY S),Xh S K.k146 f M (B.argument false),MU S f M (fun k h=>(A k h).applied),fun sb=>Pv S K.k146 f M sb B.expr,Xl S f M U,PC S K.k146 f M B.expr,Io S K.k146 f M B.expr B.bind,?_,Kr S f B.expr,KE S (f+1) om O,YF S (f+1) om O Y,d1,fun fr loc=>Rf S K.k146 f M fr loc B.subst,NN S f (B.argument true),qAU S K.k146 K.k120 f M B.expr B.bind B.whole,NR S K.k146 f M B.expr,IW S f B.tuple B.subscript,Nk S f M B.expr B.tuple,RB S f B.expr B.subscript,fun w kd pc rc=>MC S f B.expr,HM S K.k146 f M B.expr B.bind B.update B.subscript B.field,IA S K.k146 f M U⟩;cases f with
   |zero=>exact Xz S
   |succ g=>exact Ya S g (A g om).expr (A g om).bind
end
end Go.Proofs.Pa
namespace Go.Ez
def dS {α:Type}(x:Nat->C α)(n:Nat)(h:Hp)(B:Nat->Prop)(Q:α->Nat->Hp->Prop):Prop:=
 ∃ F out,x F n h=some out/\Fr n h out/\dT out.wr B/\Q out.val out.nx out.hp
def cX {α:Type}(x:Nat->C α):Prop:=∀ F,kA (x F) (x (F+1))
theorem cX.le {α:Type}{x:Nat->C α}(m:cX x){f k:Nat}(hk:f<=k):kA (x f) (x k):=by
 induction hk with
 |refl=>exact kA.refl _
 |step _ ih=>exact ih.trans (m _)
theorem cX.const {α:Type}(x:C α):cX fun _=>x:=fun _=>kA.refl _
theorem dS.bind {α β:Type}{x:Nat->C α}{y:Nat->α->C β}{n:Nat}{h:Hp}{B:Nat->Prop}{Q1:α->Nat->Hp->Prop}{Q:β->Nat->Hp->Prop}(mx:cX x)(my:∀ a,cX fun F=>y F a)(hx:dS x n h B Q1)
  (hy:∀ a n' h',n<=n'->aE n' h'->Q1 a n' h'->dS (fun F=>y F a) n' h' B Q):dS (fun F=>C.bind (x F) (y F)) n h B Q:=by
 obtain⟨O,o,Y,f1,w1,q1⟩:=hx;obtain⟨U,p,e2,f2,w2,q2⟩:=hy _ _ _ f1.le f1.lt q1;refine⟨max O U,o.seq p,dJ (mx.le (Nat.le_max_left O U) _ _ _ Y) ((my _).le (Nat.le_max_right O U) _ _ _ e2),f1.seq f2,fun t M=>?_,q2⟩;simp only[Out.seq,Nat.testBit_or,Bool.or_eq_true]at M;rcases M with M | M
 .exact w1 t M
 .exact w2 t M
theorem qBi {α:Type}{z w:Nat->C α}{n:Nat}{h:Hp}{B:Nat->Prop}{Q:α->Nat->Hp->Prop}(r:dS w n h B Q)(hz:∀ F,z (F+1)=w F):dS z n h B Q:=by
 obtain⟨F,out,e,r⟩:=r;exact⟨F+1,out,by rw[hz];exact e,r⟩
theorem dS.ret {α:Type}{a:α}{n:Nat}{h:Hp}{B:Nat->Prop}{Q:α->Nat->Hp->Prop}(hl:aE n h)(q:Q a n h):dS (fun _=>C.ret a) n h B Q:=⟨0,_,rfl,Fr.ret a hl,cV,q⟩
theorem dS.imp {α:Type}{x:Nat->C α}{n:Nat}{h:Hp}{B B':Nat->Prop}{Q Q':α->Nat->Hp->Prop}(r:dS x n h B Q)(hB:∀ t,B t->B' t)(hQ:∀ a n' h',n<=n'->aE n' h'->(∀ t,¬B t->h'.get t=h.get t)->Q a n' h'->Q' a n' h'):dS x n h B' Q':=by
 obtain⟨F,out,e,f,w,q⟩:=r;refine⟨F,out,e,f,fun t M=>hB t (w t M),hQ _ _ _ f.le f.lt (fun t M=>f.keep t ?_) q⟩;cases hc:out.wr.testBit t with
 |false=>rfl
 |true=>exact absurd (w t hc) M
theorem dS.am {α:Type}{m:AM α}{n:Nat}{h:Hp}{B:Nat->Prop}{Q:α->Nat->Hp->Prop}(hl:aE n h)(hB:∀ t,n<=t->B t)(w:mV m n h [] [] [] fun a n' h' _ ws _=>xD B (Q a n' h') ws):dS (fun _=>C.am m) n h B Q:=by
 obtain⟨o,rs,ws,_,e,h1,h2,U,O⟩:=wW _ w (rd:=0) (wr:=0) cV cV;obtain⟨Y,O⟩:=rA O;refine⟨0,o,e,(qCZ _ _ _ _ _ _ e hl (fun t M=>by simp at M)).2,fun t M=>?_,O⟩;rcases h2 t M with h4 | h4
 .exact Y t h4
 .exact hB t (U n (Nat.le_refl _) (fun t M=>by cases M) t h4)
section
variable (P:Program)(Gl:qC6)(Gm:qC7)(Kp:qC8)
structure Pl (f:FuncId)(args:List AV)(mode:Option AV)(n:Nat)(h:Hp)(B:Nat->Prop)(Q:Option AV->Nat->Hp->Prop):Prop where
 ok:aE n h->dS (fun F=>fP P Gl Gm Kp F f args mode) n h (fun t=>n<=t\/B t) Q
abbrev Vi:=mQ->Env->Option AV->Nat->Hp->Prop
structure iT (L:Nat)(c:Code)(E:Env)(m:Option AV)(n:Nat)(h:Hp)(B:Nat->Prop)(k:Vi):Prop where
 ok:∀ a,E.at ⟨L,[],none⟩ a->aE n h->(∀ t,n<=t->B t)->dS (fun F=>zP P Gl Gm Kp F c a m) n h B fun v n' h'=>∃ E',Env.at ⟨L,[],none⟩ E' v.2.1/\k v.1 E' v.2.2 n' h'
structure bZ (L:Nat)(ds:List mP)(c:Code)(E:Env)(n:Nat)(h:Hp)(B:Nat->Prop)(k:List mP->dZ):Prop where
 ok:∀ a,E.at ⟨L,ds,none⟩ a->aE n h->(∀ t,n<=t->B t)->dS (fun F=>bD P Gl Gm Kp F c a) n h B fun v n' h'=>∃ E' ds',Env.at ⟨L,ds',none⟩ E' v.2/\k ds' v.1 E' n' h'
def leaveD (rs:List ResultVar)(keep:Bool)(B:Nat->Prop)(Q:aS->Nat->Hp->Prop)(E:Env):List mP->Option AV->Nat->Hp->Prop
 |[],none,n,h=>gS P Gl rs keep B Q .ret E n h
 |[],some v,n,h=>∀ n',n<=n'->aE n' h->Q (.panicked v) n' h
 |.collected o::ds,m,n,h=>h.get o=some .dfr/\B o/\leaveD rs keep B Q E ds m n (h.del o)
 |.call (.func f) args::ds,m,n,h=>aT P f args=.ret (.enter f args)/\Pl P Gl Gm Kp f args m n h B fun m' n' h'=>leaveD rs keep B Q E ds m' n' h'
 |.call _ _::_,_,_,_=>False
def Rt (rs:List ResultVar)(keep:Bool)(B:Nat->Prop)(Q:aS->Nat->Hp->Prop)(ds:List mP):dZ:=fun ex E n h=>
 match ex with
 |.normal | .ret=>leaveD P Gl Gm Kp rs keep B Q E ds none n h
 |.pan v=>leaveD P Gl Gm Kp rs keep B Q E ds (some v) n h
 |_=>False
end
section
variable {P:Program}{Gl:qC6}{Gm:qC7}{Kp:qC8}
theorem fQ (c:Code)(a:bE):cX fun F=>bD P Gl Gm Kp F c a:=fun F=>(gC F).code c a
theorem qS (fn:Func)(top:Bool)(a:bE)(m:Option AV):cX fun F=>dV P Gl Gm Kp F fn top a m:=fun F=>(gC F).leave fn top a m
theorem Lw (f:FuncId)(args:List AV)(m:Option AV):cX fun F=>fP P Gl Gm Kp F f args m:=fun F=>(gC F).dfr f args m
theorem uO (c:Code)(a:bE)(m:Option AV):cX fun F=>zP P Gl Gm Kp F c a m:=fun F=>(gC F).dcode c a m
theorem yB (f:FuncId)(args:List AV):cX fun F=>fT P Gl Gm Kp F f args:=fun F=>(gC F).call f args
theorem cX.bind {α β:Type}{x:Nat->C α}{y:Nat->α->C β}(mx:cX x)(my:∀ a,cX fun F=>y F a):cX fun F=>C.bind (x F) (y F):=fun F=>dK (mx F) fun a=>my a F
theorem iT.seq {L:Nat}{c d:Code}{E:Env}{m:Option AV}{n:Nat}{h:Hp}{B:Nat->Prop}{k:Vi}
  (w:iT P Gl Gm Kp L c E m n h B fun ex E' m' n' h'=>match ex with | .normal=>iT P Gl Gm Kp L d E' m' n' h' B k | e=>k e E' m' n' h'):iT P Gl Gm Kp L (.seq c d) E m n h B k:=by
 refine⟨fun a hE hl Y=>?_⟩;refine qBi (w:=fun F=>C.bind (zP P Gl Gm Kp F c a m) fun
   |(.normal,a',m)=>zP P Gl Gm Kp F d a' m
   |r=>C.ret r) (dS.bind (uO c a m) (fun v=>?_) (w.ok a hE hl Y) fun v n' h' U O q=>?_) fun F=>by(conv=>lhs;unfold zP);rfl
 .obtain⟨ex,a',m'⟩:=v;cases ex with
  |normal=>exact uO d a' m'
  |_=>exact cX.const _
 .obtain⟨ex,a',m'⟩:=v;obtain⟨E',M,q⟩:=q;cases ex with
  |normal=>exact iT.ok q a' M O fun t ht=>Y t (Nat.le_trans U ht)
  |_=>exact dS.ret O ⟨E',M,q⟩
def SF:Code->Bool
 |.seq _ _ | .region _ _ false=>false
 |_=>true
theorem iT.code {L:Nat}{c:Code}(hc:SF c=true){E:Env}{m:Option AV}{n:Nat}{h:Hp}{B:Nat->Prop}{k:Vi}(w:bF P Gl Gm Kp ⟨L,[],none⟩ c E n h B fun ex E' n' h'=>k ex E' m n' h'):iT P Gl Gm Kp L c E m n h B k:=by
 refine⟨fun a hE Y U=>?_⟩;refine qBi (w:=fun F=>C.bind (bD P Gl Gm Kp F c a) fun r=>C.ret (r.1,r.2,m)) (dS.bind (fQ c a) (fun v=>cX.const _) (Q1:=fun v n' h'=>∃ E',Env.at ⟨L,[],none⟩ E' v.2/\k v.1 E' m n' h') ?_ fun v n' h' _ O q=>?_) fun F=>?_
 .obtain⟨F,out,E',e,f,wr,M,q⟩:=w.ok a hE Y U;exact⟨F,out,e,f,wr,E',M,q⟩
 .obtain⟨E',M,q⟩:=q;exact dS.ret O ⟨E',M,q⟩
 .cases c with
  |seq=>cases hc
  |region i ops d=>cases d<;>first | (cases hc;done) | (conv=>lhs;unfold zP)
  |_=>conv=>lhs;unfold zP
def opD (P:Program)(L:Nat)(o:Oper)(E:Env)(m:Option AV)(k:Env->Option AV->Prop):Prop:=
 match o.dst,o.guard,o.op with
 |some d,none,.move x=>E.knows x=true/\d<L/\k ((d,E.eval x)::E) m
 |some d,none,.assign x=>E.knows x=true/\d<L/\k ((d,E.eval x)::E) m
 |some d,none,.binOp op t x y _=>E.knows x=true/\E.knows y=true/\d<L/\∃ v,cL P op t (isLit x || isLit y) (E.eval x) (E.eval y)=some v/\k ((d,v)::E) m
 |some d,none,.call c=>isRecover (.call c)=true/\d<L/\k ((d,m.getD .if0)::E) none
 |_,_,_=>False
def yH (P:Program)(L:Nat)(k:Env->Option AV->Prop):List Oper->Env->Option AV->Prop
 |[],E,m=>k E m
 |o::l,E,m=>opD P L o E m (yH P L k l)
theorem Zz (ops:Array Oper)(l:List Oper)(a:bE)(m:Option AV):cX fun F=>fJ P Gl Gm Kp F ops l a m:=fun F=>(gC F).dops ops l a m
theorem uZ {ops:Array Oper}{L:Nat}{k:Env->Option AV->Prop}{n:Nat}{h:Hp}{B:Nat->Prop}(hl:aE n h):∀(l:List Oper) (E:Env) (a:bE) (m:Option AV),E.at ⟨L,[],none⟩ a->yH P L k l E m->
  dS (fun F=>fJ P Gl Gm Kp F ops l a m) n h B fun v n' h'=>∃ E',v.1=.normal/\n'=n/\h'=h/\Env.at ⟨L,[],none⟩ E' v.2.1/\k E' v.2.2
 |[],E,a,m,hE,w=>⟨0,{val:=(.normal,a,m),nx:=n,hi:=n,hp:=h,rd:=0,wr:=0},by unfold fJ;rfl,Fr.ret _ hl,cV,E,rfl,rfl,rfl,hE,by unfold yH at w;exact w⟩
 |o::l,E,a,m,hE,w=>by
  have h1:o.guard=none->cI ops a o=true:=fun U=>(by unfold cI;rw[U]);have h2:o.guard=none->dY ops a o=true:=fun U=>(by unfold dY;rw[U]);have plain:∀(v:AV) (d:Nat) (hd:d<L) (U:o.guard=none) (M:o.dst=some d) (hr:isRecover o.op=false) (Y:fF P Gl a.eval o=.ret (.val v)) (w:yH P L k l ((d,v)::E) m),dS (fun F=>fJ P Gl Gm Kp F ops (o::l) a m) n h B fun v n' h'=>∃ E',v.1=.normal/\n'=n/\h'=h/\Env.at ⟨L,[],none⟩ E' v.2.1/\k E' v.2.2:=fun v d hd U M hr Y w=>by
   have O:Env.at ⟨L,[],none⟩ ((d,v)::E) (a.put o.dst v):=by
    rw[M];exact hE.put (d:=some d) (by simp[iX,hd]) v
   refine qBi (w:=fun F=>C.bind (C.am (fF P Gl a.eval o)) fun
     |.val v=>fJ P Gl Gm Kp F ops l (a.put o.dst v) m
     |.skip=>fJ P Gl Gm Kp F ops l (a.put o.dst .undef) m
     |.pan v=>C.ret (.pan v,a,m)
     |_=>C.fail) (dS.bind (cX.const _) (fun r=>?_) (Q1:=fun r n' h'=>r=.val v/\n'=n/\h'=h) ?_ fun r n' h' _ a1 q=>?_) fun F=>?_
   .cases r<;>first | exact Zz _ _ _ _ | exact cX.const _
   .rw[Y];exact dS.ret hl ⟨rfl,rfl,rfl⟩
   .obtain⟨rfl,rfl,rfl⟩:=q;exact uZ hl l _ _ m O w
   .conv=>lhs;unfold fJ
    simp only[h1 U,h2 U,hr,cond_true,cond_false]
    rfl
  unfold yH at w;obtain⟨dst,op,ty,pos,af,g⟩:=o;cases dst with
  |none=>exact w.elim
  |some d=>
  cases g with
  |some g=>exact w.elim
  |none=>
  cases op<;>first | (exact w.elim;done) | skip
  case move x=>
   obtain⟨w1,w2,w3⟩:=w;exact plain (E.eval x) d w2 rfl rfl rfl (by rw[Ka,hE.toof.eval w1]) w3
  case assign x=>
   obtain⟨w1,w2,w3⟩:=w;exact plain (E.eval x) d w2 rfl rfl rfl (by rw[Ad,hE.toof.eval w1]) w3
  case binOp op t x y u=>
   obtain⟨w1,w2,w3,v,w4,w5⟩:=w;exact plain v d w3 rfl rfl rfl (by rw[Fc,<- hE.toof.eval w1,<- hE.toof.eval w2,w4];rfl) w5
  case call c=>
   obtain⟨w1,w2,w3⟩:=w;have O:Env.at ⟨L,[],none⟩ ((d,m.getD .if0)::E) (a.put (some d) (m.getD .if0)):=hE.put (d:=some d) (by simp[iX,w2]) _;refine qBi (w:=fun F=>fJ P Gl Gm Kp F ops l (a.put (some d) (m.getD .if0)) none) (uZ hl l _ _ none O w3) fun F=>?_
   conv=>lhs;unfold fJ
   simp only[h1 rfl,h2 rfl,w1,cond_true];cases m<;>rfl
theorem iT.region {L:Nat}{id:Nat}{ops:Array Oper}{E:Env}{m:Option AV}{n:Nat}{h:Hp}{B:Nat->Prop}{k:Vi}(w:yH P L (fun E m=>k .normal E m n h) ops.toList E m):iT P Gl Gm Kp L (.region id ops false) E m n h B k:=by
 refine⟨fun a hE O _=>?_⟩;refine qBi (w:=fun F=>fJ P Gl Gm Kp F ops ops.toList a m) ((uZ O ops.toList E a m hE w).imp (fun _ h=>h) fun v n' h' _ _ _ q=>?_) fun F=>by(conv=>lhs;unfold zP)
 obtain⟨E',h1,rfl,rfl,M,q⟩:=q;exact⟨E',M,by rw[h1];exact q⟩
theorem Pl.body {f:FuncId}{fn:Func}{c:Code}{args:List AV}{mode:Option AV}{n:Nat}{h:Hp}{B:Nat->Prop}{Q:Option AV->Nat->Hp->Prop}(L:Nat)(hf:P.funcs[f]?=some fn)(hb:fn.body=some c)(hL:args.length+(fn.ntmps-args.length)=L)(hr:fn.results.toList=[])
  (w:iT P Gl Gm Kp L c (nT 0 args) mode n h (fun t=>n<=t\/B t) fun ex _ m n' h'=>(ex=.normal\/ex=.ret)/\Q m n' h'):Pl P Gl Gm Kp f args mode n h B Q:=by
 subst hL;refine⟨fun Y=>?_⟩;have hE:Env.at ⟨args.length+(fn.ntmps-args.length),[],none⟩ (nT 0 args) {tmps:=args++List.replicate (fn.ntmps-args.length) .undef,defers:=[],rnd:=none}:=⟨⟨by simp,fun t v e=>by
  obtain⟨_,h2⟩:=wC _ _ _ _ e;simp only[Nat.sub_zero]at h2;rw[List.getElem?_append_left (List.getElem?_eq_some_iff.1 h2).1];exact h2⟩,rfl,rfl⟩
 refine qBi (w:=fun F=>C.bind (zP P Gl Gm Kp F c {tmps:=args++List.replicate (fn.ntmps-args.length) .undef,defers:=[],rnd:=none} mode) fun
    |(.normal,a,m) | (.ret,a,m)=>match a.defers,fn.results.toList with
     |[],[]=>C.ret m
     |_,_=>C.fail
    |_=>C.fail) (dS.bind (uO _ _ _) (fun v=>?_) (w.ok _ hE Y fun t ht=>.inl ht) fun v n' h' _ U q=>?_) fun F=>?_
 .exact cX.const _
 .obtain⟨ex,a',_⟩:=v;obtain⟨E',O,M,q⟩:=q;have hd:=O.ds;simp only at hd;rcases M with M | M<;>(simp only at M;subst M;simp only[hd,hr];exact dS.ret U q)
 .conv=>lhs;unfold fP
  rw[hf];simp only[hb]
  rfl
variable {L:Nat}{ds:List mP}{E:Env}{n:Nat}{h:Hp}{B:Nat->Prop}{k:List mP->dZ}
theorem bF.runs {x:Ctx}{c:Code}{k:dZ}(w:bF P Gl Gm Kp x c E n h B k){a:bE}(hE:E.at x a)(hl:aE n h)(hB:∀ t,n<=t->B t):dS (fun F=>bD P Gl Gm Kp F c a) n h B fun v n' h'=>∃ E',Env.at x E' v.2/\k v.1 E' n' h':=by
 obtain⟨F,out,E',e,f,wr,M,q⟩:=w.ok a hE hl hB;exact⟨F,out,e,f,wr,E',M,q⟩
theorem bZ.code {c:Code}(w:bF P Gl Gm Kp ⟨L,ds,none⟩ c E n h B (k ds)):bZ P Gl Gm Kp L ds c E n h B k:=
 ⟨fun a hE U O=>(w.runs hE U O).imp (fun _ h=>h) fun v n' h' _ _ _ q=>by obtain⟨E',M,q⟩:=q;exact⟨E',ds,M,q⟩⟩
theorem bZ.seq {c d:Code}(w:bZ P Gl Gm Kp L ds c E n h B fun ds' ex E' n' h'=>match ex with | .normal=>bZ P Gl Gm Kp L ds' d E' n' h' B k | e=>k ds' e E' n' h'):bZ P Gl Gm Kp L ds (.seq c d) E n h B k:=by
 refine⟨fun a hE hl Y=>?_⟩;refine qBi (w:=fun F=>C.bind (bD P Gl Gm Kp F c a) fun
   |(.normal,a')=>bD P Gl Gm Kp F d a'
   |r=>C.ret r) (dS.bind (fQ c a) (fun v=>?_) (w.ok a hE hl Y) fun v n' h' U O q=>?_) fun F=>by(conv=>lhs;unfold bD);rfl
 .obtain⟨ex,a'⟩:=v;cases ex with
  |normal=>exact fQ d a'
  |_=>exact cX.const _
 .obtain⟨ex,a'⟩:=v;obtain⟨E',ds',M,q⟩:=q;cases ex with
  |normal=>exact bZ.ok q a' M O fun t ht=>Y t (Nat.le_trans U ht)
  |_=>exact dS.ret O ⟨E',ds',M,q⟩
theorem bZ.block {id:Nat}{c:Code}(w:bZ P Gl Gm Kp L ds c E n h B fun ds'=>nU id (k ds')):bZ P Gl Gm Kp L ds (.block id c) E n h B k:=by
 refine⟨fun a hE Y U=>?_⟩;refine qBi (w:=fun F=>C.bind (bD P Gl Gm Kp F c a) fun
   |(.exit id',a')=>bif id'==id then C.ret (.normal,a') else C.ret (.exit id',a')
   |r=>C.ret r) (dS.bind (fQ c a) (fun v=>?_) (w.ok a hE Y U) fun v n' h' _ O q=>?_) fun F=>by(conv=>lhs;unfold bD);rfl
 .exact cX.const _
 .obtain⟨ex,a'⟩:=v;obtain⟨E',ds',M,q⟩:=q;cases ex with
  |exit id'=>
   simp only[nU]at q;cases hid:id'==id with
   |true=>rw[hid]at q;simp only[hid,cond_true];exact dS.ret O ⟨E',ds',M,q⟩
   |false=>rw[hid]at q;simp only[hid,cond_false];exact dS.ret O ⟨E',ds',M,q⟩
  |_=>exact dS.ret O ⟨E',ds',M,q⟩
theorem bZ.defer {id:Nat}{d g:Nat}{cs:List Operand}{ty1 ty2 pos1 pos2 af1 af2}{d2:Option Tmp}{ats:Array TypeId}(hd:d<L)(hd2:d2=none)(hk:E.knowsAll cs=true)
  (w:k (.call (.func g) (cs.map E.eval)::ds) .normal ((d,.fn (.func g) [] (cs.map E.eval))::E) n h) :
  bZ P Gl Gm Kp L ds (.region id #[⟨some d,.makeFunc (.func g) #[] cs.toArray,ty1,pos1,af1,none⟩,⟨d2,.defer ⟨.value (.tmp d),#[],ats⟩,ty2,pos2,af2,none⟩] false) E n h B k:=by
 subst hd2;refine⟨fun a hE Y _=>?_⟩;have U:cs.map E.eval=cs.map a.eval:=List.map_congr_left fun x hx=>hE.toof.eval (nK hk x hx)
 let v:AV:=.fn (.func g) [] (cs.map a.eval)
 have M:Env.at ⟨L,ds,none⟩ ((d,v)::E) (a.put (some d) v):=hE.put (d:=some d) (by simp[iX,hd]) _;have hv:(a.put (some d) v).eval (.tmp d)=v:=by
  rw[<- M.toof.eval (by simp[Env.knows,lk]) (x:=.tmp d)];simp[Env.eval,lk]
 refine⟨4,{val:=(.normal,{ (a.put (some d) v) with defers:=.call (.func g) (cs.map a.eval)::(a.put (some d) v).defers}),nx:=n,hi:=n,hp:=h,rd:=0,wr:=0},?_,Fr.ret _ Y,cV,(d,v)::E,.call (.func g) (cs.map a.eval)::ds,⟨⟨M.len,M.val⟩,by simp only[M.ds],M.rn⟩,by rw[U]at w;exact w⟩;have o1:jU P Gl Gm Kp 1 ⟨some d,.makeFunc (.func g) #[] cs.toArray,ty1,pos1,af1,none⟩ a n h=some {val:=.put v,nx:=n,hi:=n,hp:=h,rd:=0,wr:=0}:=by
  unfold jU;have:fF P Gl a.eval ⟨some d,.makeFunc (.func g) #[] cs.toArray,ty1,pos1,af1,none⟩=.ret (.val v):=vG a.eval _ _ _ _ _ g [] cs;rw[this];simp[C.bind,C.am,AM.run,C.ret]
 have o2:jU P Gl Gm Kp 1 ⟨none,.defer ⟨.value (.tmp d),#[],ats⟩,ty2,pos2,af2,none⟩ (a.put (some d) v) n h=some {val:=.dfr (.call (.func g) (cs.map a.eval)),nx:=n,hi:=n,hp:=h,rd:=0,wr:=0}:=by
  unfold jU;have:fF P Gl (a.put (some d) v).eval ⟨none,.defer ⟨.value (.tmp d),#[],ats⟩,ty2,pos2,af2,none⟩=.ret (.dfr (.call (.func g) (cs.map a.eval))):=by
   simp only[fF,hv]
   rfl
  rw[this];have O:=M.rn;simp only at O;simp[C.bind,C.am,AM.run,C.ret,O]
 have g1:∀(a:bE) (d op ty pos af) (ops:Array Oper),cI ops a ⟨d,op,ty,pos,af,none⟩=true:=fun _ _ _ _ _ _ _=>rfl;have g2:∀(a:bE) (d op ty pos af) (ops:Array Oper),dY ops a ⟨d,op,ty,pos,af,none⟩=true:=fun _ _ _ _ _ _ _=>rfl;unfold bD;show eS P Gl Gm Kp 3 _ [_,_] a n h=_;unfold eS;simp only[g1,g2,cond_true];refine(dJ ((gC 1).op _ _ _ _ _ o1) (p:={val:=(.normal,{ (a.put (some d) v) with defers:=.call (.func g) (cs.map a.eval)::(a.put (some d) v).defers}),nx:=n,hi:=n,hp:=h,rd:=0,wr:=0}) ?_).trans (by simp[Out.seq]);show eS P Gl Gm Kp 2 _ [_] (a.put (some d) v) n h=_;unfold eS;simp only[g1,g2,cond_true];refine(dJ o2 (p:={val:=(.normal,{ (a.put (some d) v) with defers:=.call (.func g) (cs.map a.eval)::(a.put (some d) v).defers}),nx:=n,hi:=n,hp:=h,rd:=0,wr:=0}) ?_).trans (by simp[Out.seq]);show eS P Gl Gm Kp 1 _ [] _ n h=_;unfold eS
 rfl
theorem lY {fn:Func}{keep:Bool}{Q:aS->Nat->Hp->Prop}:∀(ds:List mP) (mode:Option AV) (a:bE) (n:Nat) (h:Hp),E.at ⟨L,ds,none⟩ a->aE n h->(∀ t,n<=t->B t)->leaveD P Gl Gm Kp fn.results.toList keep B Q E ds mode n h->
  dS (fun F=>dV P Gl Gm Kp F fn keep a mode) n h B fun v n' h'=>∀ n'',n'<=n''->aE n'' h'->Q v n'' h'
 |[],none,a,n,h,hE,hl,hB,w=>by
  obtain⟨F,out,e,f,wr,q⟩:=xX (Gm:=Gm) (Kp:=Kp) hE hl hB (.inr rfl) w;exact⟨F,out,e,f,wr,q⟩
 |[],some v,a,n,h,hE,hl,hB,w=>by
  refine⟨1,{val:=.panicked v,nx:=n,hi:=n,hp:=h,rd:=0,wr:=0},?_,Fr.ret _ hl,cV,w⟩;show dV P Gl Gm Kp (0+1) fn keep a (some v) n h=_;unfold dV;rw[hE.ds]
  rfl
 |.collected o::ds,mode,a,n,h,hE,hl,hB,w=>by
  obtain⟨w1,w2,w3⟩:=w;refine qBi (w:=fun F=>C.bind (C.am (.get o fun
    |.dfr=>.del o (.ret ())
    |_=>.fail)) fun _=>dV P Gl Gm Kp F fn keep {a with defers:=ds} mode) (dS.bind (cX.const _) (fun _=>qS _ _ _ _) (Q1:=fun _ n' h'=>n'=n/\h'=h.del o) (dS.am hl hB ?_) fun _ n' h' a2 Y q=>?_) fun F=>?_
  .simp only[mV,w1,pU,xD];exact⟨w2,(by first | trivial | rfl),(by first | trivial | rfl)⟩
  .obtain⟨rfl,rfl⟩:=q;exact lY ds mode _ _ _ ⟨⟨hE.len,hE.val⟩,rfl,hE.rn⟩ Y hB w3
  ·(conv=>lhs;unfold dV)
   rw[hE.ds]
   rfl
 |.call (.func f) args::ds,mode,a,n,h,hE,hl,hB,w=>by
  obtain⟨w1,w2⟩:=w;refine qBi (w:=fun F=>C.bind (C.am (aT P f args)) fun _=>C.bind (fP P Gl Gm Kp F f args mode) fun U=>dV P Gl Gm Kp F fn keep {a with defers:=ds} U)
   (dS.bind (cX.const _) (fun _=>cX.bind (Lw _ _ _) fun _=>qS _ _ _ _) (Q1:=fun _ n' h'=>n'=n/\h'=h) (by rw[w1];exact dS.ret hl ⟨rfl,rfl⟩) fun _ n' h' a2 Y q=>?_) fun F=>?_
  .obtain⟨rfl,rfl⟩:=q;refine dS.bind (Lw _ _ _) (fun _=>qS _ _ _ _) ((w2.ok hl).imp (fun t O=>?_) fun m n1 h1 M a1 _ q=>q) fun m n1 h1 M a1 q=>lY ds m _ _ _ ⟨⟨hE.len,hE.val⟩,rfl,hE.rn⟩ a1 (fun t O=>hB t (Nat.le_trans M O)) q;rcases O with O | O
   .exact hB t O
   .exact O
  ·(conv=>lhs;unfold dV)
   rw[hE.ds]
theorem qCr {f:FuncId}{fn:Func}{c:Code}{args:List AV}{keep:Bool}{Q:aS->Nat->Hp->Prop}(L:Nat)(rs:List ResultVar)(hf:P.funcs[f]?=some fn)(hb:fn.body=some c)(hg:Gm f=none)
  (hk:Kp f=(keep,false)) (hL:args.length+(fn.ntmps-args.length)=L) (hr:fn.results.toList=rs)
  (w:aE n h->bZ P Gl Gm Kp L [] c (nT 0 args) n h (fun t=>n<=t\/B t) (Rt P Gl Gm Kp rs keep (fun t=>n<=t\/B t) Q)):aG P Gl Gm Kp f args n h B Q:=by
 subst hL;subst hr;refine⟨fun hl=>?_⟩;have hE:Env.at ⟨args.length+(fn.ntmps-args.length),[],none⟩ (nT 0 args) {tmps:=args++List.replicate (fn.ntmps-args.length) .undef,defers:=[],rnd:=none}:=⟨⟨by simp,fun t v e=>by
  obtain⟨_,h2⟩:=wC _ _ _ _ e;simp only[Nat.sub_zero]at h2;rw[List.getElem?_append_left (List.getElem?_eq_some_iff.1 h2).1];exact h2⟩,rfl,rfl⟩
 have r:dS (fun F=>fT P Gl Gm Kp F f args) n h (fun t=>n<=t\/B t) fun v n' h'=>∀ n'',n'<=n''->aE n'' h'->Q v n'' h':=by
  refine qBi (w:=fun F=>C.bind (bD P Gl Gm Kp F c {tmps:=args++List.replicate (fn.ntmps-args.length) .undef,defers:=[],rnd:=none}) fun
     |(.normal,a) | (.ret,a)=>dV P Gl Gm Kp F fn keep a none
     |(.pan v,a)=>dV P Gl Gm Kp F fn keep a (some v)
     |_=>C.fail) (dS.bind (fQ _ _) (fun v=>?_) ((w hl).ok _ hE hl fun t ht=>.inl ht) fun v n' h' Y U q=>?_) fun F=>?_
  .obtain⟨ex,a'⟩:=v;cases ex<;>first | exact qS _ _ _ _ | exact cX.const _
  .obtain⟨ex,a'⟩:=v;obtain⟨E',ds',O,q⟩:=q;have M:∀ t,n'<=t->(n<=t\/B t):=fun t ht=>.inl (Nat.le_trans Y ht);cases ex with
   |normal=>exact lY ds' none a' n' h' O U M q
   |ret=>exact lY ds' none a' n' h' O U M q
   |pan v=>exact lY ds' (some v) a' n' h' O U M q
   |exit _=>exact False.elim q
   |goto _=>exact False.elim q
  .conv=>lhs;unfold fT
   rw[hg];simp only[hf,hb,hk];unfold alone
   rfl
 obtain⟨F,out,e,fr,wr,q⟩:=r;exact⟨F,out,e,fr,fun t a b=>(wr t a).resolve_left om,q⟩
theorem bZ.range {t g:Nat}{first cap:List AV}{ps:Array Tmp}{asg body:Code}(hk:(lk E t)=some (.fn (.func g) first cap))(hca:∀ args,aT P g args=.ret (.enter g args))
  (w:∀ ts:List AV,ts.length=L->(∀ t v,lk E t=some v->ts[t]?=some v)->
   aG P Gl Gm Kp g (first++[.fn (.yield (n+1)) [] []]++cap) (n+2) ((n+1,.loop .ready none 0 ts ps.toList asg body n)::(n,.dfr)::h) (fun t=>n<=t\/B t) fun e n' h'=>match e with
    |.panicked v=>k (.collected n::ds) (.pan v) E n' h'
    |.returned _=>∃ st fn ts' pr ag b d,h'.get (n+1)=some (.loop st none fn ts' pr ag b d)/\st≠.busy/\k (.collected n::ds) .normal E n' (h'.put (n+1) (.loop .exhausted none fn ts' pr ag b d))) :
  bZ P Gl Gm Kp L ds (.rangeFunc (.tmp t) ps asg body) E n h B k:=by
 refine⟨fun a hE hl U=>?_⟩;have hv:a.eval (.tmp t)=.fn (.func g) first cap:=by
  rw[<- hE.toof.eval (by simp[Env.knows,hk]) (x:=.tmp t)];simp[Env.eval,hk]
 have hr:=hE.rn;have hd:=hE.ds;simp only at hr hd
 let a':bE:={a with defers:=.collected n::a.defers}
 have Y:Env.at ⟨L,.collected n::ds,none⟩ E a':=⟨⟨hE.len,hE.val⟩,by show _::a.defers=_;rw[hd],hr⟩;refine qBi (w:=fun F=>C.bind (C.am (.new .dfr fun r=>.new (.loop .ready none 0 a.tmps ps.toList asg body r) fun l=>.ret (r,l))) fun (r,l)=>
    let a':bE:={a with defers:=.collected r::a.defers}
    C.bind (C.am (aT P g (first++[.fn (.yield l) [] []]++cap))) fun _=>
    C.bind (fT P Gl Gm Kp F g (first++[.fn (.yield l) [] []]++cap)) fun
     |.panicked v=>C.ret (.pan v,a')
     |.returned _=>
      C.bind (C.am (.get l fun
       |.loop st p fn ts pr ag b d=>match st with
        |.busy=>.fail
        |_=>.set l (.loop .exhausted p fn ts pr ag b d) (.ret p)
       |_=>.fail)) fun
       |none=>C.ret (.normal,a')
       |some j=>bD P Gl Gm Kp F j a')
  (dS.bind (cX.const _) (fun v=>?_) (Q1:=fun v n' h'=>v=(n,n+1)/\n'=n+2/\h'=(n+1,.loop .ready none 0 a.tmps ps.toList asg body n)::(n,.dfr)::h) (dS.am hl U ?_) fun v n' h' O M q=>?_) fun F=>?_
 .refine cX.bind (cX.const _) fun _=>cX.bind (yB _ _) fun e=>?_;cases e with
  |panicked v=>exact cX.const _
  |returned v=>
   refine cX.bind (cX.const _) fun p=>?_;cases p with
   |none=>exact cX.const _
   |some j=>exact fQ _ _
 .simp only[mV,xD];exact⟨(by first | trivial | rfl),(by first | trivial | rfl),(by first | trivial | rfl)⟩
 .obtain⟨rfl,rfl,rfl⟩:=q;refine dS.bind (cX.const _) (fun _=>cX.bind (yB _ _) fun e=>?_) (Q1:=fun _ n' h'=>n'=n+2/\h'=(n+1,.loop .ready none 0 a.tmps ps.toList asg body n)::(n,.dfr)::h) (by rw[hca];exact dS.ret M ⟨rfl,rfl⟩) fun _ n' h' O M q=>?_
  .cases e with
   |panicked v=>exact cX.const _
   |returned v=>
    refine cX.bind (cX.const _) fun p=>?_;cases p with
    |none=>exact cX.const _
    |some j=>exact fQ _ _
  .obtain⟨rfl,rfl⟩:=q;have wc:=w a.tmps hE.len hE.val;obtain⟨F,out,e,fr,wr,q⟩:=wc.ok M;have q:=q out.nx (Nat.le_refl _) fr.lt;refine dS.bind (yB _ _) (fun e=>?_) (Q1:=fun v n' h'=>v=out.val/\n'=out.nx/\h'=out.hp) ⟨F,out,e,fr,fun t ht=>?_,rfl,rfl,rfl⟩ fun v n' h' O M q'=>?_
   .cases e with
    |panicked v=>exact cX.const _
    |returned v=>
     refine cX.bind (cX.const _) fun p=>?_;cases p with
     |none=>exact cX.const _
     |some j=>exact fQ _ _
   .by_cases a1:t<n+2
    .rcases wr t ht a1 with h1 | h1
     .exact U t h1
     .exact h1
    .exact U t om
   .obtain⟨rfl,rfl,rfl⟩:=q';cases hov:out.val with
    |panicked v=>
     rw[hov]at q;exact dS.ret M ⟨E,_,Y,q⟩
    |returned v=>
     rw[hov]at q;obtain⟨st,fn,ts',pr,ag,b,d,h1,h2,q⟩:=q;refine dS.bind (cX.const _) (fun p=>?_) (Q1:=fun p n' h'=>p=none/\n'=out.nx/\h'=out.hp.put (n+1) (.loop .exhausted none fn ts' pr ag b d)) (dS.am M (fun t ht=>U t om) ?_) fun p n' h' O M q'=>?_
     .cases p with
      |none=>exact cX.const _
      |some j=>exact fQ _ _
     .simp only[mV,h1,pU];cases st with
      |busy=>exact absurd rfl h2
      |_=>simp only[mV,h1,pU,xD];exact⟨U _ om,(by first | trivial | rfl),(by first | trivial | rfl),(by first | trivial | rfl)⟩
     .obtain⟨rfl,rfl,rfl⟩:=q';exact dS.ret M ⟨E,_,Y,q⟩
 ·(conv=>lhs;unfold bD)
  simp only[hr,hv]
  rfl
def BG:Env->List Tmp->List AV->Env
 |E,p::ps,v::vs=>BG ((p,v)::E) ps vs
 |E,_,_=>E
theorem Wn {L:Nat}:∀(ps:List Tmp) (vs:List AV) (E:Env) (ts:List AV),ts.length=L->(∀ t v,lk E t=some v->ts[t]?=some v)->(∀ p ∈ ps,p<L)->
  (jJ ts ps vs).length=L/\∀ t v,lk (BG E ps vs) t=some v->(jJ ts ps vs)[t]?=some v
 |[],vs,E,ts,h1,h2,_=>by unfold jJ BG;exact⟨h1,h2⟩
 |p::ps,[],E,ts,h1,h2,_=>by unfold jJ BG;exact⟨h1,h2⟩
 |p::ps,v::vs,E,ts,h1,h2,hp=>by
  unfold jJ BG;refine Wn ps vs _ _ (by simp[h1]) (fun t u hu=>?_) fun q O=>hp q (List.mem_cons_of_mem _ O);unfold lk at hu;by_cases e:p=t
  .subst e;simp only[beq_self_eq_true,cond_true,Option.some.injEq]at hu;subst hu;rw[List.getElem?_set_self (by rw[h1];exact hp _ (List.mem_cons_self ..))]
  .have M:(p==t)=false:=(by simpa using e);simp only[M,cond_false]at hu;rw[List.getElem?_set_ne e];exact h2 t u hu
theorem fI.mk' {l d:Nat}{args:List AV}{ts:List AV}{ps:List Tmp}{ag b:Code}(hL:ts.length=L)(hE:∀ t v,lk E t=some v->ts[t]?=some v)(hps:∀ p ∈ ps,p<L)(hlen:ps.length=args.length)(hg:h.get l=some (.loop .ready none 0 ts ps ag b d))(hbl:B l){Q:aS->Nat->Hp->Prop}
  (w:bF P Gl Gm Kp ⟨L,[],some l⟩ ag (BG E ps args) n h (fun t=>n<=t\/B t) fun ex E1 n1 h1=>ex=.normal/\h1.get l=some (.loop .ready none 0 ts ps ag b d)/\
   bF P Gl Gm Kp ⟨L,[],some l⟩ b E1 n1 (h1.put l (.loop .busy none 0 ts ps ag b d)) (fun t=>n<=t\/B t) fun ex E2 n2 h2=>ex=.normal/\h2.get l=some (.loop .busy none 0 ts ps ag b d)/\
    ∀ n',n2<=n'->aE n' (h2.put l (.loop .ready none 0 ts ps ag b d))->Q (.returned (.bool true)) n' (h2.put l (.loop .ready none 0 ts ps ag b d))) :
  fI P Gl Gm Kp l args n h B Q:=by
 refine⟨fun hl=>?_⟩;have hB:∀ t,n<=t->(n<=t\/B t):=fun t ht=>.inl ht;obtain⟨e1,e2⟩:=Wn ps args E ts hL hE hps;have r:dS (fun F=>jV P Gl Gm Kp F l args) n h (fun t=>n<=t\/B t) fun v n' h'=>∀ M,n'<=M->aE M h'->Q v M h':=by
  refine qBi (w:=fun F=>C.bind (C.am (.get l fun
     |.loop _ _ _ ts ps ag b _=>bif ps.length==args.length then .ret (jJ ts ps args,ag,b) else .fail
     |_=>.fail)) fun (ts,ag,b)=>
    C.bind (bD P Gl Gm Kp F ag {tmps:=ts,defers:=[],rnd:=some l}) fun
     |(.normal,a)=>
      C.bind (C.am (.get l fun
       |.loop .ready p fn ts ps ag b d=>.set l (.loop .busy p fn ts ps ag b d) (.ret ())
       |_=>.fail)) fun _=>
      C.bind (bD P Gl Gm Kp F b a) fun
       |(.pan _,_)=>C.fail
       |(e,_)=>C.am (.get l fun
        |.loop _ _ fn ts ps ag b d=>match e with
         |.normal=>.set l (.loop .ready none fn ts ps ag b d) (.ret (.returned (.bool true)))
         |.ret=>.set l (.loop .done (some .ret) fn ts ps ag b d) (.ret (.returned (.bool false)))
         |.exit id=>.set l (.loop .done (some (.exit id)) fn ts ps ag b d) (.ret (.returned (.bool false)))
         |.goto t=>.set l (.loop .done (some (.goto t)) fn ts ps ag b d) (.ret (.returned (.bool false)))
         |.pan _=>.fail
        |_=>.fail)
     |_=>C.fail) (dS.bind (cX.const _) (fun v=>?_) (Q1:=fun v n' h'=>v=(jJ ts ps args,ag,b)/\n'=n/\h'=h) (dS.am hl hB ?_) fun v n' h' _ _ q=>?_) fun F=>by(conv=>lhs;unfold jV);rfl
  .obtain⟨ts,ag,b⟩:=v;refine cX.bind (fQ _ _) fun v=>?_;obtain⟨ex,a⟩:=v;cases ex<;>first | (refine cX.bind (cX.const _) fun _=>cX.bind (fQ _ _) fun v=>cX.const _) | exact cX.const _
  .simp only[mV,hg,pU,hlen,beq_self_eq_true,cond_true,xD];exact⟨(by first | trivial | rfl),(by first | trivial | rfl),(by first | trivial | rfl)⟩
  .obtain⟨rfl,rfl,rfl⟩:=q;refine dS.bind (fQ _ _) (fun v=>?_) (w.runs ⟨⟨e1,e2⟩,rfl,rfl⟩ hl hB) fun v n1 h1 _ a6 q=>?_
   .obtain⟨ex,a⟩:=v;cases ex<;>first | (refine cX.bind (cX.const _) fun _=>cX.bind (fQ _ _) fun v=>cX.const _) | exact cX.const _
   .obtain⟨ex,_⟩:=v;obtain⟨E1,a3,Y,a4,q⟩:=q;simp only at Y;subst Y;have U:∀ t,n1<=t->(n'<=t\/B t):=fun t ht=>.inl om;refine dS.bind (cX.const _) (fun _=>cX.bind (fQ _ _) fun v=>cX.const _) (Q1:=fun _ M O=>M=n1/\O=h1.put l (.loop .busy none 0 ts ps ag b d)) (dS.am a6 U ?_) fun _ M O _ a7 q'=>?_
    .simp only[mV,a4,pU,xD];exact⟨.inr hbl,(by first | trivial | rfl),(by first | trivial | rfl)⟩
    .obtain⟨rfl,rfl⟩:=q';refine dS.bind (fQ _ _) (fun v=>cX.const _) (bF.runs q a3 a7 U) fun v _ _ _ a8 q=>?_;obtain⟨ex,_⟩:=v;obtain⟨E2,_,Y,a5,q⟩:=q;simp only at Y;subst Y;refine dS.am a8 (fun t ht=>.inl om) ?_;simp only[mV,a5,pU,xD];exact⟨.inr hbl,q⟩
 obtain⟨F,out,e,fr,wr,q⟩:=r;exact⟨F,out,e,fr,fun t a b=>(wr t a).resolve_left om,q⟩
end
end Go.Ez
namespace Go.Proofs.Pa
open Go.Ez Go.Proofs.Vt
section
variable {Gl:qC6}{Gm:qC7}{Kp:qC8}(S:Seat Gm Kp)
def sC (f:kY):List AV:=[.int .i64 f.err,.int .i64 f.at']
def Fq:kY:=⟨0,0⟩
theorem if00:cL Tryz.prog BinOp.eql 20 (isLit (Operand.tmp 4) || isLit (Operand.const Value.nilIface)) AV.if0 AV.if0=some (.bool true):=kr
theorem if10 (v:AV):cL Tryz.prog BinOp.eql 20 (isLit (Operand.tmp 4) || isLit (Operand.const Value.nilIface)) (AV.iface 107 v) AV.if0=some (.bool false):=by
 show (yP Tryz.prog 100 20 (AV.iface 107 v) AV.if0).map AV.bool=_;obtain⟨m,hu⟩:∃ m,Tryz.prog.underlying 20=some (.interface m):=⟨_,rfl⟩;unfold yP;rw[hu]
 rfl
theorem OG (args:List AV):aT Tryz.prog 138 args=.ret (.enter 138 args):=aH Tryz.func138 rfl kr args
theorem HA {n a:Nat}{h:Hp}{B:Nat->Prop}{m:Option AV}{Q:Option AV->Nat->Hp->Prop}(ha:h.get a=some (.cells (sC Fq)))(hB:n<=a\/B a)
  (hQ:(m=none/\∀ n',n<=n'->Q none n' h)\/∃ f:kY,m=some (iY f)/\∀ n' h',n<=n'->aE n' h'->h'.get a=some (.cells (sC f))->(∀ t,t<n->t≠a->h'.get t=h.get t)->Q none n' h'):Pl Tryz.prog Gl Gm Kp 138 [.ref a 0] m n h B Q:=by
 refine Pl.body 11 Tryz.func138 rfl rfl rfl (iT.seq (iT.region ?_));refine⟨rfl,by decide,?_⟩;refine iT.code rfl (bF.lt fun O _=>aW ?_);rcases hQ with⟨rfl,hQ⟩ | ⟨f,rfl,hQ⟩
 .simp -dsimp (disch:=first | assumption | omega) only [go_sem,Nat.reduceLT,Nat.reduceBEq,Nat.reduceAdd,Nat.reduceSub,Nat.reduceLeDiff,Nat.reduceEqDiff,↓reduceIte,beq_true,beq_false,decide_eq_true,decide_eq_false,Option.getD_none,if00];exact hQ n (Nat.le_refl _)
 .have U:=aN O ha;simp only[sC,Fq]at ha;simp -dsimp (disch:=first | assumption | omega) only [go_sem,Nat.reduceLT,Nat.reduceBEq,Nat.reduceAdd,Nat.reduceSub,Nat.reduceLeDiff,Nat.reduceEqDiff,↓reduceIte,beq_true,beq_false,decide_eq_true,decide_eq_false,Option.getD_some,iY,if10,ha];refine qCJ hB ?_;refine zz ?_;refine hQ _ _ om (fun t Y=>?_) (by rw[qCf,if_pos rfl];rfl) (fun t Y M=>?_)
  .rw[qCf,if_neg om,qCf,if_neg om,aX _ _ _ _ om];exact O t om
  .rw[qCf,if_neg M,qCf,if_neg om,aX _ _ _ _ om]
include S
theorem Xp {g:FuncId}{c:List AV}(hca:∀ args,aT Tryz.prog g args=.ret (.enter g args)){n:Nat}{h:Hp}{B:Nat->Prop}{Q:aS->Nat->Hp->Prop}
  (hg:aG Tryz.prog Gl Gm Kp g c (n+1) ((n,.cells (sC Fq))::h) (fun t=>n<=t\/B t) fun e n1 h1=>h1.get n=some (.cells (sC Fq))/\match e with
   |.returned _=>∀ n2 h2,n1<=n2->aE n2 h2->(∀ t,t<n1->t≠n->h2.get t=h1.get t)->Q (.returned (.agg (sC Fq))) n2 h2
   |.panicked v=>∃ f:kY,v=iY f/\∀ n2 h2,n1<=n2->aE n2 h2->(∀ t,t<n1->t≠n->h2.get t=h1.get t)->Q (.returned (.agg (sC f))) n2 h2) :
  aG Tryz.prog Gl Gm Kp 87 [.fn (.func g) [] c] n h B Q:=by
 refine qCr 7 [.cell 2 107] Tryz.func87 rfl (S.gm _ dc) (S.kp _ dc dc) rfl rfl fun _=>?_;refine bZ.seq (bZ.code (aW ?_));refine zz ?_;refine bZ.seq (bZ.defer dc rfl rfl ?_);refine bZ.code (aW ?_);refine x1 hca ?_;refine qCK (hg.mono (fun _ _ h=>h) fun e n1 h1 _ a1 _ U=>?_);obtain⟨O,U⟩:=U;have a9:=aN a1 O;cases e with
 |returned v=>
  have a4:h1.get n=some (.cells [.int .i64 0,.int .i64 0]):=O;refine z1 a4 ?_;have a7:aE n1 (h1.put n (.cells [.int .i64 0,.int .i64 0])):=fun t ht=>(by rw[qCf,if_neg om];exact a1 t ht);refine⟨OG _,HA (qJ _ _ _) (.inr (.inl (Nat.le_refl _))) (.inl ⟨rfl,fun n2 a2=>?_⟩)⟩;show gS Tryz.prog Gl [ResultVar.cell 2 107] false _ Q .ret _ n2 _;refine zz ?_;exact qCI fun n3 a3 M=>U n3 _ om M fun t ht a8=>by rw[qCf,if_neg a8]
 |panicked v=>
  obtain⟨f,rfl,U⟩:=U;refine zz ?_;refine⟨OG _,HA O (.inr (.inl (Nat.le_refl _))) (.inr ⟨f,rfl,fun n2 h2 a2 a7 a5 a6=>?_⟩)⟩;have Y:h2.get n=some (.cells [.int .i64 f.err,.int .i64 f.at']):=a5;show gS Tryz.prog Gl [ResultVar.cell 2 107] false _ Q .ret _ n2 _;refine z1 Y ?_;exact qCI fun n3 a3 M=>U n3 _ om M a6
omit S in
theorem zB {w:List UInt8}{p:Nat}{c:UInt8}{q:UInt8->Bool}(h:jE w p [c,c,c,c]=true)(hq:q c=true):1<=dA w p q:=by
 have O:=wR h sm;simp only[List.length_cons,List.length_nil]at O;refine Cp om ?_;have h2:=List.isPrefixOf_iff_prefix.1 h;obtain⟨t,U⟩:=h2;have:bG w p=c:=by
  have M:(w.drop p)[0]?=some c:=(by rw[<- U];rfl);rw[List.getElem?_drop,Nat.add_zero]at M;simp[bG,List.getD,M]
 rw[this];exact hq
theorem NQ {b o tb cm wm:Nat}{w:List UInt8}{n:Nat}{h:Hp}{ov cv:AV}{s:SS}(R:iC b h o tb cm wm w ov cv s)(hlt:s.pos<w.length):rW Gl Gm Kp b o tb cm wm w 273 [.ref o 0] (sJ w) IQ n h s:=by
 refine rW.fin R fun hl ho=>qB6 S 46 [] Tryz.func273 fun _ _=>?_;have ah:=R.obj;have az:=R.wl;have a3:=R.pos;have ay:=R.bo;have ag:sJ w s=sJ w s:=rfl
 conv at ag=>rhs;unfold sJ
 generalize hms:sJ w s=ms at *;have M:=ag.trans (LM.ok_bind (x:=LM.pos) (s:=s) rfl);have ax:=(bG w s.pos).toNat_lt;refine zz ?_;refine qCK (lC S 0 om om ah fun n2 h2 _ ap aj=>?_);have R2:=R.quiet hl aj;simp only[Nat.add_zero];refine zz ?_;refine qCK ((Vv S _).use fun _ _ _ ac ak=>?_);have R3:=R2.quiet ap ak;cases hrun:jC (bG w s.pos) with
 |true=>
  simp only[hrun,if_true]at M;refine z1 hrun ?_;refine qCK (rW.call (qAS S R3 hlt hrun) (R3.bn ac) (M.trans (congrFun (LM.bind_pure _).symm _)) ho (fun a s9 v n9 h9 ab a4 Y a5 O U R9 a7=>?_) fun e he n9 h9 O U=>by(refine zz ?_);exact qC9<|eG.err he);refine zz ?_;exact qC9<|eG.ok (a:=()) Y trivial R9
 |false=>
  simp only[hrun,Bool.false_eq_true,if_false]at M;refine z1 hrun ?_;cases hba:qO w s.pos with
  |true=>
   simp only[hba,if_true]at M;exact absurd M ho
  |false=>
   simp only[hba,Bool.false_eq_true,if_false]at M;refine qCK (DX S R3 hba fun n4 _ _ ar al=>?_);have R4:=R3.quiet ac al;have a8:=R4.obj;by_cases ai:(bG w s.pos).toNat=34
   .have e0:bG w s.pos=34:=UInt8.toNat_inj.1 ai;rw[if_pos e0]at M;exact absurd M ho
   .have e0:bG w s.pos≠34:=fun h=>ai (by rw[h];rfl);rw[if_neg e0]at M;refine zz ?_;refine qCK (tM S [45,45,45,45] a3 a8 fun n5 _ _ ad an=>?_);have R5:=R4.quiet ar an;have a1:=R5.obj;cases hda:jE w s.pos [45,45,45,45] with
    |true=>
     simp only[hda,if_true]at M;have aa:=zB (q:=fun b=>decide (b.toNat=45)) hda rfl;have aw:=pX w s.pos fun b=>decide (b.toNat=45);refine z1 hda ?_;refine qCK (pY S 0 (PW S) VX om om a1 fun n6 h6 ae a2 a6=>?_);have R6:=R5.quiet ad a6;simp only[Nat.add_zero];refine zz ?_;refine qCK (rW.call (sO S R6 (lM 6 []) (dA w s.pos fun b=>decide (b.toNat=45)) aa om rfl rfl) (R6.bn a2) (M.trans (congrFun (LM.bind_pure _).symm _)) ho (fun a s9 v n9 h9 ab a4 Y a5 O U R9 a7=>?_) fun e he n9 h9 O U=>by(refine zz ?_);exact qC9<|eG.err he);refine zz ?_;exact qC9<|eG.ok (a:=()) Y trivial R9
    |false=>
     simp only[hda,Bool.false_eq_true,if_false]at M;refine z1 hda ?_;refine qCK (tM S [61,61,61,61] a3 a1 fun n6 h6 ae a2 a6=>?_);have R6:=R5.quiet ad a6;have a9:=R6.obj;cases heq:jE w s.pos [61,61,61,61] with
     |true=>
      simp only[heq,if_true]at M;have aa:=zB (q:=fun b=>decide (b.toNat=61)) heq rfl;have aw:=pX w s.pos fun b=>decide (b.toNat=61);refine z1 heq ?_;refine qCK (pY S 0 (ES S) VY om om a9 fun n7 _ _ au ao=>?_);have R7:=R6.quiet a2 ao;simp only[Nat.add_zero];refine zz ?_;refine qCK (rW.call (sO S R7 (lM 7 []) (dA w s.pos fun b=>decide (b.toNat=61)) aa om rfl rfl) (R7.bn au) (M.trans (congrFun (LM.bind_pure _).symm _)) ho (fun a s9 v n9 h9 ab a4 Y a5 O U R9 a7=>?_) fun e he n9 h9 O U=>by(refine zz ?_);exact qC9<|eG.err he);refine zz ?_;exact qC9<|eG.ok (a:=()) Y trivial R9
     |false=>
      simp only[heq,Bool.false_eq_true,if_false]at M;refine z1 heq ?_;refine qCK (rW.call (SL S R6 hlt) (R6.bn a2) (M.trans (congrFun (LM.bind_pure _).symm _)) ho (fun a s9 v n9 h9 ab a4 Y a5 O U R9 a7=>?_) fun e he n9 h9 O U=>by(refine zz ?_);exact qC9<|eG.err he);refine zz ?_;exact qC9<|eG.ok (a:=()) Y trivial R9
end
section
variable {Gl:qC6}{Gm:qC7}{Kp:qC8}(S:Seat Gm Kp)
theorem Vo (args:List AV):aT Tryz.prog 271 args=.ret (.enter 271 args):=aH Tryz.func271 rfl kr args
theorem XB:cL Tryz.prog BinOp.neq 20 (isLit (Operand.tmp 7) || isLit (Operand.const Value.nilIface)) AV.if0 AV.if0=some (.bool false):=kr
theorem XC (t:TypeId)(v:AV):cL Tryz.prog BinOp.neq 20 (isLit (Operand.tmp 7) || isLit (Operand.const Value.nilIface)) (AV.iface t v) AV.if0=some (.bool true):=by
 show (yP Tryz.prog 100 20 (AV.iface t v) AV.if0).map (fun b=>AV.bool (!b))=_;obtain⟨m,hu⟩:∃ m,Tryz.prog.underlying 20=some (.interface m):=⟨_,rfl⟩;unfold yP;rw[hu]
 rfl
theorem Ip {n a:Nat}{h:Hp}{B:Nat->Prop}{x y z:AV}{m:Option AV}{Q:Option AV->Nat->Hp->Prop}(h0:h.get a=some (.cells [x]))(h1:h.get (a+1)=some (.cells [y]))(h2:h.get (a+1+1)=some (.cells [z]))(hB:∀ t,a<=t->n<=t\/B t)
  (hQ:(m=none/\Q none n h)\/∃ f:kY,m=some (qF f)/\∀ n' h',n<=n'->aE n' h'->h'.get a=some (.cells [.ptr0])->h'.get (a+1)=some (.cells [.int .i64 f.at'])->h'.get (a+1+1)=some (.cells [.int .i64 f.err])->(∀ t,t<a->h'.get t=h.get t)->Q none n' h'):Pl Tryz.prog Gl Gm Kp 271 [.ref a 0,.ref (a+1) 0,.ref (a+1+1) 0] m n h B Q:=by
 refine Pl.body 21 Tryz.func271 rfl rfl rfl (iT.seq (iT.region ?_));refine⟨rfl,by decide,rfl,by decide,?_⟩;refine iT.seq (iT.region ?_);rcases hQ with⟨rfl,hQ⟩ | ⟨f,rfl,hQ⟩
 .refine⟨rfl,by decide,rfl,rfl,by decide,_,XB,?_⟩;refine iT.code rfl (bF.lt fun M O=>aW ?_);refine zz ?_;exact hQ
 .refine⟨rfl,by decide,rfl,rfl,by decide,_,XC _ _,?_⟩;refine iT.code rfl (bF.lt fun M O=>aW ?_);have U:=aN M h0;have Y:=aN M h1;have a1:=aN M h2;have a2:=hB a (Nat.le_refl _);have a3:=hB (a+1) om;have a4:=hB (a+1+1) om;simp -dsimp (disch:=first | assumption | omega) only [go_sem,Nat.reduceLT,Nat.reduceBEq,Nat.reduceAdd,Nat.reduceSub,Nat.reduceLeDiff,Nat.reduceEqDiff,↓reduceIte,beq_true,beq_false,decide_eq_true,decide_eq_false,Option.getD_some,qF,Bool.not_true,Bool.not_false];refine qCP [(1,4),(3,4),(3,5)] [] kr ?_
  (repeat (first | (refine qCJ (by first | assumption | omega) ?_) | (refine z3 h0 h1 h2 ?_) | exact True.intro))
  refine hQ _ _ om (fun t ht=>?_) (zc) (zc) (zc) fun t ht=>zc;rw[qCf,if_neg om,qCf,if_neg om,qCf,if_neg om,qCf,if_neg om,aX _ _ _ _ om];exact M t om
theorem rW.callF {α β:Type}{b o tb cm wm:Nat}{w:List UInt8}{n:Nat}{h:Hp}{s:SS}{f:FuncId}{args:List AV}{m:LM α}{En:α->AV->Prop}(M:rW Gl Gm Kp b o tb cm wm w f args m En n h s){ms:Except kY (β×SS)}{g:α->LM β}(hm:ms=(m >>= g) s)(ho:ms≠.error lT){B:Nat->Prop}(hB:∀ t,b<=t->B t){Q:aS->Nat->Hp->Prop}
  (k1:∀ a s' v n' h' ov' cv',ms=g a s'->En a v->n<=n'->aE n' h'->iC b h' o tb cm wm w ov' cv' s'->(∀ t,t<b->h'.get t=h.get t)->Q (.returned v) n' h')
  (k2:∀ e,ms=.error e->∀ n' h',n<=n'->aE n' h'->(∀ t,t<b->h'.get t=h.get t)->Q (.panicked (qF e)) n' h'):aG Tryz.prog Gl Gm Kp f args n h B Q:=
 (M (fun hc=>ho (hm.trans (LM.err_bind hc))) Q (fun a s' e v n' h' ov' cv' ev O Y R U=>k1 a s' v n' h' ov' cv' (hm.trans (LM.ok_bind e)) ev O Y R U) fun e he n' h' O Y U=>k2 e (hm.trans (LM.err_bind he)) n' h' O Y U).mono (fun t _ ht=>hB t ht) fun _ _ _ _ _ _ h=>h
include S
theorem NL {tb cm wm:Nat}{w:List UInt8}(hwl:w.length<1000000000){n:Nat}{h:Hp}(htab:h.get tb=some (.cells [.map cm,.map wm,.int .i64 3]))(hcan:h.get cm=some (.map dF))(hwrd:h.get wm=some (.map fR))(f:Nat)(hf:f<1000000000)(ho:wA w f ⟨0,[],0⟩≠.error lT){Q:aS->Nat->Hp->Prop}
  (h1:∀ s',wA w f ⟨0,[],0⟩=.ok ((),s')->∀ o ov cv n' h',n+3<=n'->aE n' h'->iC (n+3) h' o tb cm wm w ov cv s'->(∀ t,t<n->h'.get t=h.get t)->Q (.returned (.tup [.ref o 0,.int .i64 0,.int .i64 0])) n' h')
  (h2:∀ e,wA w f ⟨0,[],0⟩=.error e->∀ n' h',n<=n'->aE n' h'->(∀ t,t<n->h'.get t=h.get t)->Q (.returned (.tup [.ptr0,.int .i64 e.at',.int .i64 e.err])) n' h'):aG Tryz.prog Gl Gm Kp 201 [.ref tb 0,.str w] n h (fun _=>False) Q:=by
 refine aG.mono (B:=fun _=>False) (Q:=fun x n' h'=>(∃ s' o ov cv,wA w f ⟨0,[],0⟩=.ok ((),s')/\x=.returned (.tup [.ref o 0,.int .i64 0,.int .i64 0])/\n+3<=n'/\iC (n+3) h' o tb cm wm w ov cv s')\/∃ e,wA w f ⟨0,[],0⟩=.error e/\x=.returned (.tup [.ptr0,.int .i64 e.at',.int .i64 e.err])) ?_ (fun _ _ h=>h) (fun x n' h' a b c d=>by
  rcases d with⟨s',o,ov,cv,e,rfl,hle,R⟩ | ⟨e,he,rfl⟩
  .exact h1 s' e o ov cv n' h' hle b R fun t Y=>c t Y id
  .exact h2 e he n' h' a b fun t Y=>c t Y id)
 generalize hms:wA w f ⟨0,[],0⟩=ms at *;have ae:ms=(rL w f >>= fun _=>qQ w f) ⟨0,[],0⟩:=hms.symm;refine qCr 28 [.cell 4 192,.cell 5 3,.cell 6 38] Tryz.func201 rfl (S.gm _ dc) (S.kp _ dc dc) rfl rfl fun hl=>?_;have b3:=aN hl htab;have ax:=aN hl hcan;have b4:=aN hl hwrd;refine bZ.seq (bZ.code (aW ?_));refine zz ?_;refine bZ.seq (bZ.defer dc rfl rfl ?_);refine bZ.code (aW ?_);refine zz ?_;have R0:iC (n+3) (Hp.put ((n+1+1+1,.cells [.str w,.int .i64 0,.ref tb 0,.sl0,.sl0])::(n+1+1,.cells [.int .i64 0])::(n+1,.cells [.int .i64 0])::(n,.cells [.ptr0])::h) n (.cells [.ref (n+1+1+1) 0])) (n+1+1+1) tb cm wm w .sl0 .sl0 ⟨0,[],0⟩:=
  ⟨(by refine zz ?_;rfl),.inl ⟨rfl,rfl⟩,.inl rfl,by decide,y1 htab,y1 hcan,y1 hwrd,by omega,by omega,hwl,by simp,by simp,by simp⟩
 have ay:aE (n+1+1+1+1) (Hp.put ((n+1+1+1,.cells [.str w,.int .i64 0,.ref tb 0,.sl0,.sl0])::(n+1+1,.cells [.int .i64 0])::(n+1,.cells [.int .i64 0])::(n,.cells [.ptr0])::h) n (.cells [.ref (n+1+1+1) 0])):=fun t Y=>by
  rw[qCf,if_neg om,aX _ _ _ _ om,aX _ _ _ _ om,aX _ _ _ _ om,aX _ _ _ _ om];exact hl t om
 refine qCK (rW.callF (HJ S f om _ _ _ _ _ R0) ae ho (fun t Y=>.inl om) (fun a s1 v n1 h1 aj cv1 ac ar al az R1 a2=>?_) fun e he nE hE a5 ab M=>?_)
 .have U:h1.get n=some (.cells [.ref (n+1+1+1) 0]):=(a2 n om).trans (zc);have g1:h1.get (n+1)=some (.cells [.int .i64 0]):=(a2 _ om).trans (zc);have g2:h1.get (n+1+1)=some (.cells [.int .i64 0]):=(a2 _ om).trans (zc);refine zz ?_;refine qCu (fun k E nn hh=>∃(s2:SS) (ov2 cv2:AV),E=[(0,.ref tb 0),(1,.str w),(4,.ref n 0),(5,.ref (n+1) 0),(6,.ref (n+1+1) 0)]/\ms=qQ w k s2/\n+4<=nn/\k<=f/\iC (n+3) hh (n+1+1+1) tb cm wm w ov2 cv2 s2/\
   hh.get n=some (.cells [.ref (n+1+1+1) 0])/\hh.get (n+1)=some (.cells [.int .i64 0])/\hh.get (n+1+1)=some (.cells [.int .i64 0])) f ⟨s1,aj,cv1,rfl,ac,by omega,Nat.le_refl _,R1,U,g1,g2⟩ ?_
  .clear U g1 g2 ac R1 a2;rintro k E nn hh hlk hBk ⟨s2,ov2,cv2,rfl,hm,hnn,hkf,R2,U,g1,g2⟩;cases k with
   |zero=>exact absurd hm (fun hc=>ho hc)
   |succ k=>
    rw[qQ.eq_2]at hm;have a3:=hm.trans (LM.ok_bind (x:=LM.pos) (s:=s2) rfl);have a1:=R2.obj;have ai:=R2.pos;by_cases a8:s2.pos<w.length
    .simp only[a8,if_true]at a3;refine z2 U a1 ?_;refine qCK (rW.callF (NQ S R2 a8) a3 ho (fun t Y=>.inl om) (fun a s3 v n3 h3 b5 ap ag au an b0 R3 a6=>?_) fun e he nE hE a5 ab M=>?_)
     .have q0:=(a6 n om).trans U;have q1:=(a6 (n+1) om).trans g1;have q2:=(a6 (n+1+1) om).trans g2;refine z1 q0 ?_;refine qCK (rW.callF (HJ S k om _ _ _ _ _ R3) ag ho (fun t Y=>.inl om) (fun a s4 v n4 h4 ak ad ah aw ao b1 R4 a7=>?_) fun e he nE hE a5 ab M=>?_)
      .refine zz ?_;refine aU.mq k ⟨s4,ak,ad,rfl,ah,by omega,by omega,R4,(a7 n om).trans q0,(a7 (n+1) om).trans q1,(a7 (n+1+1) om).trans q2⟩
      .refine zz ?_;refine⟨Vo _,Ip (a:=n) (x:=.ref (n+1+1+1) 0) (y:=.int .i64 0) (z:=.int .i64 0) ((M _ om).trans q0) ((M _ om).trans q1) ((M _ om).trans q2) (fun t Y=>.inr (.inl Y)) (.inr ⟨e,rfl,fun n8 h8 a4 aa U g1 g2 a9=>?_⟩)⟩;show gS Tryz.prog Gl [ResultVar.cell 4 192,ResultVar.cell 5 3,ResultVar.cell 6 38] false _ _ .ret _ n8 _;refine z3 U @g1 @g2 ?_;exact qC9<|.inr ⟨e,he,rfl⟩
     .refine zz ?_;refine⟨Vo _,Ip (a:=n) (x:=.ref (n+1+1+1) 0) (y:=.int .i64 0) (z:=.int .i64 0) ((M _ om).trans U) ((M _ om).trans g1) ((M _ om).trans g2) (fun t Y=>.inr (.inl Y)) (.inr ⟨e,rfl,fun n8 h8 a4 aa U g1 g2 a9=>?_⟩)⟩;show gS Tryz.prog Gl [ResultVar.cell 4 192,ResultVar.cell 5 3,ResultVar.cell 6 38] false _ _ .ret _ n8 _;refine z3 U @g1 @g2 ?_;exact qC9<|.inr ⟨e,he,rfl⟩
    .simp only[a8,if_false]at a3;refine z4 U @g1 @g2 a1 ?_;have O:∀ t,(((hh.put n (aK.cells [AV.ref (n+1+1+1) 0])).put (n+1) (aK.cells [AV.int IntKind.i64 0])).put (n+1+1) (aK.cells [AV.int IntKind.i64 0])).get t=hh.get t:=fun t=>by
      rw[qCf,qCf,qCf];split
      .rename_i e;rw[e];exact g2.symm
      .split
       .rename_i e;rw[e];exact g1.symm
       .split
        .rename_i e;rw[e];exact U.symm
        .rfl
     have RF:=R2.quiet hlk fun t _=>O t;refine⟨Vo _,Ip (a:=n) (x:=.ref (n+1+1+1) 0) (y:=.int .i64 0) (z:=.int .i64 0) ((O _).trans U) ((O _).trans g1) ((O _).trans g2) (fun t Y=>.inr (.inl Y)) (.inl ⟨rfl,?_⟩)⟩;show gS Tryz.prog Gl [ResultVar.cell 4 192,ResultVar.cell 5 3,ResultVar.cell 6 38] false _ _ .ret _ nn _;refine zz ?_;exact qCI fun n' b2 _=>.inl ⟨s2,n+1+1+1,ov2,cv2,a3,rfl,by omega,RF⟩
 .refine zz ?_;refine⟨Vo _,Ip (a:=n) (x:=.ref (n+1+1+1) 0) (y:=.int .i64 0) (z:=.int .i64 0) ((M _ om).trans (zc)) ((M _ om).trans (zc)) ((M _ om).trans (zc)) (fun t Y=>.inr (.inl Y)) (.inr ⟨e,rfl,fun n8 h8 a4 aa U g1 g2 a9=>?_⟩)⟩;show gS Tryz.prog Gl [ResultVar.cell 4 192,ResultVar.cell 5 3,ResultVar.cell 6 38] false _ _ .ret _ n8 _;refine z3 U @g1 @g2 ?_;exact qC9<|.inr ⟨e,he,rfl⟩
end
end Go.Proofs.Pa
namespace Go.Ez
theorem fI.mono {P:Program}{Gl:qC6}{Gm:qC7}{Kp:qC8}{l:Nat}{args:List AV}{n:Nat}{h:Hp}{B B':Nat->Prop}{Q Q':aS->Nat->Hp->Prop}(w:fI P Gl Gm Kp l args n h B Q)(hB:∀ t,t<n->B t->B' t)
  (hQ:∀ e n' h',n<=n'->aE n' h'->(∀ t,t<n->¬B t->h'.get t=h.get t)->Q e n' h'->Q' e n' h'):fI P Gl Gm Kp l args n h B' Q':=by
 refine⟨fun Y=>?_⟩;obtain⟨F,out,e,fr,U,hq⟩:=w.ok Y;refine⟨F,out,e,fr,fun t a b=>hB t b (U t a b),fun n' O M=>hQ _ _ _ (Nat.le_trans fr.le O) M (fun t ht hb=>fr.keep t ?_) (hq n' O M)⟩;cases hc:out.wr.testBit t with
 |false=>rfl
 |true=>exact absurd (U t hc ht) hb
end Go.Ez
namespace Go.Proofs.Pa
open Go.Ez Go.Proofs.Vt
section
variable {Gl:qC6}{Gm:qC7}{Kp:qC8}(S:Seat Gm Kp)
def qX (p:Int×Int):AV:=.agg [.int .i64 p.1,.int .i64 p.2]
theorem qAY {x:Int}(h:0<=x):x.tdiv 8=x / 8:=Int.tdiv_eq_ediv_of_nonneg h
theorem Lz {p:Int×Int}{b:UInt8}{N:Int}(h1:1<=p.1/\p.1<N)(h2:1<=p.2/\p.2<8*N):(1<=(hH p b).1/\(hH p b).1<N+1)/\1<=(hH p b).2/\(hH p b).2<8*(N+1):=by
 unfold hH;split
 .simp only;omega
 .split
  .simp only;omega
  .simp only;omega
include S
theorem RZ (p:Int×Int)(b:UInt8)(h1:1<=p.1/\p.1<100000000000)(h2:1<=p.2/\p.2<100000000000):cD Gl Gm Kp 278 [qX p,.int .u8 b.toNat] (qX (hH p b)):=by
 refine cD.fin fun n h _=>qB6 S 30 [.cell 4 205] Tryz.func278 fun _ _=>?_;have hb:=b.toNat_lt;unfold qX hH;by_cases M:b.toNat=10
 .simp -dsimp (disch:=first | assumption | omega) only [go_sem,Nat.reduceLT,Nat.reduceBEq,Nat.reduceAdd,Nat.reduceSub,Nat.reduceLeDiff,Nat.reduceEqDiff,↓reduceIte,beq_true,beq_false,decide_eq_true,decide_eq_false,if_pos M];exact qCI fun _ _ _=>by simp[M]
 by_cases O:b.toNat=9
 .have Y:=qAY (x:=p.2-1) om;have U:((8:Int)=0)=False:=dc;simp -dsimp (disch:=first | assumption | omega) only [go_sem,Nat.reduceLT,Nat.reduceBEq,Nat.reduceAdd,Nat.reduceSub,Nat.reduceLeDiff,Nat.reduceEqDiff,↓reduceIte,beq_true,beq_false,decide_eq_true,decide_eq_false,if_neg M,if_pos O,Y,U];exact qCI fun _ _ _=>by simp[M,O]
 .simp -dsimp (disch:=first | assumption | omega) only [go_sem,Nat.reduceLT,Nat.reduceBEq,Nat.reduceAdd,Nat.reduceSub,Nat.reduceLeDiff,Nat.reduceEqDiff,↓reduceIte,beq_true,beq_false,decide_eq_true,decide_eq_false,if_neg M,if_neg O];exact qCI fun _ _ _=>by simp[M,O]
theorem BK (w:List UInt8)(hw:w.length<1000000000)(l c:Nat)(J:Nat->Int×Int->Hp->Prop){n:Nat}{h:Hp}{W:Nat->Prop}(hJ0:J 0 (1,1) h)(hJc:∀ i p hh,J i p hh->hh.get c=some (.cells [.str w]))(hWn:∀ t,W t->t<n)
  (hJq:∀ i p hh hh',J i p hh->(∀ t,t<n->hh'.get t=hh.get t)->J i p hh') (hcn:c<n)
  (hr:∀ i p n1 h1,n<=n1->aE n1 h1->i<=w.length->J i p h1->fI Tryz.prog Gl Gm Kp l [.int .i64 i,qX p] n1 h1 W fun e n2 h2=>e=.returned (.bool true)/\J (i+1) (hH p (bG w i)) h2)
  {Q:aS->Nat->Hp->Prop} (hQ:∀ p n' h',n<=n'->aE n' h'->J (w.length+1) p h'->Q (.returned (.tup [])) n' h'):aG Tryz.prog Gl Gm Kp 277 [.fn (.yield l) [] [],.ref c 0] n h W Q:=by
 refine qB6 S 27 [] Tryz.func277 fun _ _=>?_;have a8:=hJc _ _ _ hJ0;refine z1 a8 ?_;refine qCQ (E0:=[(0,.fn (.yield l) [] []),(1,.ref c 0),(3,.ref n 0),(7,.int .i64 w.length),(8,.int .i64 (0:Nat))]) (fun k E nn hh=>∃(i:Nat) (p:Int×Int),E=[(0,.fn (.yield l) [] []),(1,.ref c 0),(3,.ref n 0),(7,.int .i64 w.length),(8,.int .i64 i)]/\i+k=w.length/\n+1<=nn/\J i p hh/\hh.get n=some (.cells [.int .i64 p.1,.int .i64 p.2])/\(1<=p.1/\p.1<(i:Int)+2)/\(1<=p.2/\p.2<8*((i:Int)+2))) w.length ?_ ?_ ?_
 .exact sb
 .refine⟨0,(1,1),rfl,by omega,by omega,hJq _ _ _ _ hJ0 fun t ht=>?_,zc,by simp,by simp⟩;exact zc
 .rintro k E nn hh hlk hBk ⟨i,p,rfl,hik,hnn,hJ,hg,hp1,hp2⟩;have aa:=hJc _ _ _ hJ;have U:=(hr i p nn hh om hlk om hJ);unfold qX at U;by_cases a5:i<w.length
  .refine z1 hg ?_;refine qT.mk (U.mono (fun t _ ht=>.inr ht) fun e n2 h2 a4 ad a2 q=>?_);obtain⟨rfl,M⟩:=q;have Y:h2.get n=some (.cells [.int .i64 p.1,.int .i64 p.2]):=(a2 n om fun hc=>absurd (hWn _ hc) (Nat.lt_irrefl _)).trans hg;have a1:=hJc _ _ _ M;have a7:bG w i=w[i]:=(by unfold bG;rw[List.getD_eq_getElem?_getD,List.getElem?_eq_getElem a5];rfl);refine zz ?_;refine qCP [] [] kr ?_;have ae:w[i]?=some w[i]:=List.getElem?_eq_getElem a5;refine z3 Y a1 ae ?_;have a6:=Lz (b:=bG w i) (p:=p) (N:=(i:Int)+2) hp1 hp2;have O:=RZ (Gl:=Gl) S p (bG w i) om om;unfold qX at O;rw[a7]at O;refine qCN (fun _=>False) (fun _ _ h=>h.elim) (O.use fun _ _ _ _ a3=>?_);have a9:=(a3 n om).trans Y;refine g1 a9 ?_;refine qCT fun nx _ _=>?_;refine zz ?_;refine aU.mq (k-1) ⟨i+1,hH p (bG w i),rfl,by omega,by omega,hJq _ _ _ _ M fun t ht=>?_,?_,?_,?_⟩
   .rw[qCf,if_neg om];exact a3 t om
   .rw[a7];exact zc
   .have:=a6.1;omega
   .have:=a6.2;omega
  .have ab:i=w.length:=om;refine z2 hg aa ?_;subst ab;refine qT.mk (U.mono (fun t _ ht=>.inr ht) fun e n2 h2 a4 ad a2 q=>?_);obtain⟨rfl,M⟩:=q;refine zz ?_;exact qCI fun n' _ ac=>hQ _ _ _ om ac M
end
section
variable {Gl:qC6}{Gm:qC7}{Kp:qC8}(S:Seat Gm Kp)
def SP (n:Nat):Int:=bif n==9 || n==10 || n==11 || n==12 || n==13 || n==32 then 1 else 0
def lB:List Int:=(List.range 256).map SP
def dL:List AV:=lB.map fun z=>.int .u8 z
def yE (b:UInt8):Bool:=SP b.toNat==1
theorem Ah (n:Nat)(h:n<256):dL[n]?=some (.int .u8 (SP n)):=by
 unfold dL lB;rw[List.getElem?_map,List.getElem?_map,List.getElem?_range h]
 rfl
theorem pA {b:UInt8}(h:yE b=true):SP b.toNat=1:=by simpa [yE]using h
theorem sT {b:UInt8}(h:yE b=false):SP b.toNat=0:=by
 unfold yE at h;unfold SP at *;cases hc:(b.toNat==9 || b.toNat==10 || b.toNat==11 || b.toNat==12 || b.toNat==13 || b.toNat==32) with
 |true=>rw[hc]at h;cases h
 |false=>rfl
def Ec:Bool->List UInt8->Nat
 |_,[]=>0
 |was,b::r=>(if was&&!yE b then 1 else 0)+Ec (yE b) r
def QE (w:List UInt8):Nat->Nat->Nat->List (List UInt8)
 |0,_,_=>[]
 |f+1,start,i=>if i<w.length then
   if yE (bG w i) then (w.drop start).take (i-start)::QE w f (i+1+dA w (i+1) yE) (i+1+dA w (i+1) yE) else QE w f start (i+1)
  else if start<w.length then [w.drop start] else []
def fM (w:List UInt8):List (List UInt8):=QE w (w.length+1) (dA w 0 yE) (dA w 0 yE)
theorem sQ {w:List UInt8}{i:Nat}{q:UInt8->Bool}(hlt:i<w.length)(hq:q w[i]=true):dA w i q=1+dA w (i+1) q:=by
 unfold dA;rw[List.drop_eq_getElem_cons hlt,List.takeWhile_cons,hq];simp only[if_true,List.length_cons];omega
theorem sR {w:List UInt8}{i:Nat}{q:UInt8->Bool}(hlt:i<w.length)(hq:q w[i]=false):dA w i q=0:=by
 unfold dA;rw[List.drop_eq_getElem_cons hlt,List.takeWhile_cons,hq]
 rfl
theorem uT {w:List UInt8}{i:Nat}{q:UInt8->Bool}(hlt:w.length<=i):dA w i q=0:=by
 unfold dA;rw[List.drop_eq_nil_of_le hlt]
 rfl
theorem uM (k:Nat)(hk:k<256):dU Tryz.prog 232 (.gref 1 0) (.int .u8 k)=.ret (.gref 1 k):=by
 obtain⟨hu⟩:Nonempty (Tryz.prog.underlying 232=some (.array 256 5)):=⟨by kernel_rfl⟩;have M:bN Tryz.prog 5=some 1:=kr;unfold dU;rw[hu];simp only[M];have hi:inside (k:Int) 256=some k:=by
  unfold inside;simp[hk,Nat.blt_eq,show k.blt 256=true by simpa [Nat.blt_eq]using hk]
 rw[hi];simp[bW,AM.ofOpt]
theorem Rq (hA:Gl 1=some dL)(k:Nat)(hk:k<256):rM Tryz.prog Gl 5 (.gref 1 k)=.ret (.int .u8 (SP k)):=by
 show (match Gl 1 with | some cs=>AM.ofOpt (cN Tryz.prog 5 cs k) | none=>AM.fail)=_;rw[hA];simp only;rw[ra5];unfold dC;rw[Ah k hk]
 rfl
theorem orU8 (a b:Nat)(ha:a<128)(hb:b<128)(t:TypeId)(l:Bool):cL Tryz.prog .or t l (.int .u8 a) (.int .u8 b)=some (.int .u8 ((a|||b:Nat):Int)):=by
 have M:a|||b<2 ^ 7:=Nat.or_lt_two_pow ha hb
 have:IntKind.u8.wrap (BitVec.ofInt IntKind.u8.bits a|||BitVec.ofInt IntKind.u8.bits b).toNat=((a|||b:Nat):Int):=by
  have e:(BitVec.ofInt IntKind.u8.bits a|||BitVec.ofInt IntKind.u8.bits b).toNat=a|||b:=by
   rw[BitVec.toNat_or];show (BitVec.ofInt 8 a).toNat|||(BitVec.ofInt 8 b).toNat=_
   rw[BitVec.ofInt_natCast,BitVec.ofInt_natCast,BitVec.toNat_ofNat,BitVec.toNat_ofNat,Nat.mod_eq_of_lt om,Nat.mod_eq_of_lt om]
  rw[e,IK _ om]
 show (if IntKind.u8≠IntKind.u8 then none else some (AV.int .u8 (IntKind.u8.wrap (BitVec.ofInt IntKind.u8.bits a|||BitVec.ofInt IntKind.u8.bits b).toNat)))=_;rw[this]
 rfl
theorem Vk (x y:Int)(z:Int)(h:(x=0/\z=0)\/(x=1/\y=-1/\z=1)\/(x=1/\y=-2/\z=0))(hy:y=-1\/y=-2)(t:TypeId)(l:Bool):cL Tryz.prog .and t l (.int .i64 x) (.int .i64 y)=some (.int .i64 z):=by
 rcases h with⟨rfl,rfl⟩ | ⟨rfl,rfl,rfl⟩ | ⟨rfl,rfl,rfl⟩
 .rcases hy with rfl | rfl<;>rfl
 .rfl
 .rfl
theorem qA6:gZ .xor .i64 (if IntKind.i64.signed=true then -1 else IntKind.i64.max) 0=some (.int .i64 (-1)):=by rfl
theorem qA7:gZ .xor .i64 (if IntKind.i64.signed=true then -1 else IntKind.i64.max) 1=some (.int .i64 (-2)):=by rfl
theorem wr1 (done:List (List UInt8))(N:Nat)(h:done.length+1<=N)(x:List UInt8):fE 1 1 (done.map AV.str++List.replicate (N-done.length) (.str [])) (done.length*1) (.str x)=some ((done++[x]).map AV.str++List.replicate (N-(done++[x]).length) (.str [])):=by
 have M:(done.map AV.str).length=done.length:=List.length_map _;have O:List.replicate (N-done.length) (AV.str [])=.str []::List.replicate (N-(done.length+1)) (.str []):=by
  rw[show N-done.length=(N-(done.length+1))+1 by omega,List.replicate_succ]
 rw[O,show done.length*1=done.length*1+0 from rfl,Dn _ _ _ _ _ _ dc,List.getElem?_append_right (by rw[M];exact Nat.le_refl _),M,Nat.sub_self];simp[dQ,lJ,AV.cells,AV.one,splice,AV.whole]
 rfl
include S
theorem EZ (hA:Gl 1=some dL)(w:List UInt8)(hw:w.length<1000000)(hasc:uH w=true)(hcnt:Ec true w=(fM w).length):cD Gl Gm Kp 140 [.str w] (.vec ((fM w).map .str) 1 false):=by
 refine cD.fin fun n h _=>qB6 S 106 [.tmp 2] Tryz.func140 fun _ _=>?_;refine zz ?_;refine qCu (fun k E nn hh=>∃(i c b:Nat) (was:Bool),E=[(0,.str w),(2,.sl0),(3,.int .i64 c),(4,.int .i64 (bif was then 1 else 0)),(5,.int .u8 b),(6,.int .i64 i)]/\i+k=w.length/\n<=nn/\b<128/\c<=i/\c+Ec was (w.drop i)=(fM w).length) w.length ⟨0,0,0,true,rfl,by omega,Nat.le_refl _,by decide,by omega,by simpa using hcnt⟩ ?_
 .rintro k E nn hh hlk hBk ⟨i,c,b,was,rfl,hik,hnn,hb,hci,hc⟩;by_cases ad:i<w.length
  .have hg:w[i]?=some w[i]:=List.getElem?_eq_getElem ad;have ah:w[i].toNat<128:=by
    have:=(List.all_eq_true.1 hasc) w[i] (List.getElem_mem ad);simpa using this
   have ab:=orU8 b w[i].toNat hb ah;have ai:b|||w[i].toNat<2 ^ 7:=Nat.or_lt_two_pow hb ah
   have U:=uM w[i].toNat om;have M:=Rq hA w[i].toNat om;rw[List.drop_eq_getElem_cons ad,Ec]at hc;cases was with
   |true=>
    cases hsp:yE w[i] with
    |true=>
     rw[pA hsp]at M;have Y:=Vk 1 (-2) 0 om om;refine z7 hg ab U M @qA7 Y @Int.add_zero ?_;refine qCR (k-1) [(0,.str w),(2,.sl0),(3,.int .i64 (c:Nat)),(4,.int .i64 (bif true then 1 else 0)),(5,.int .u8 (b|||w[i].toNat:Nat)),(6,.int .i64 (i+1:Nat))] om sb ⟨i+1,c,_,true,rfl,by omega,by omega,by omega,by omega,by rw[<- hc,hsp];simp;try omega⟩
    |false=>
     rw[sT hsp]at M;have Y:=Vk 1 (-1) 1 om om;refine z7 hg ab U M @qA6 Y @Int.add_zero ?_;refine qCR (k-1) [(0,.str w),(2,.sl0),(3,.int .i64 (c+1:Nat)),(4,.int .i64 (bif false then 1 else 0)),(5,.int .u8 (b|||w[i].toNat:Nat)),(6,.int .i64 (i+1:Nat))] om sb ⟨i+1,c+1,_,false,rfl,by omega,by omega,by omega,by omega,by rw[<- hc,hsp];simp;try omega⟩
   |false=>
    cases hsp:yE w[i] with
    |true=>
     rw[pA hsp]at M;have Y:=Vk 0 (-2) 0 om om;refine z7 hg ab U M @qA7 Y @Int.add_zero ?_;refine qCR (k-1) [(0,.str w),(2,.sl0),(3,.int .i64 (c:Nat)),(4,.int .i64 (bif true then 1 else 0)),(5,.int .u8 (b|||w[i].toNat:Nat)),(6,.int .i64 (i+1:Nat))] om sb ⟨i+1,c,_,true,rfl,by omega,by omega,by omega,by omega,by rw[<- hc,hsp];simp;try omega⟩
    |false=>
     rw[sT hsp]at M;have Y:=Vk 0 (-1) 0 om om;refine z7 hg ab U M @qA6 Y @Int.add_zero ?_;refine qCR (k-1) [(0,.str w),(2,.sl0),(3,.int .i64 (c:Nat)),(4,.int .i64 (bif false then 1 else 0)),(5,.int .u8 (b|||w[i].toNat:Nat)),(6,.int .i64 (i+1:Nat))] om sb ⟨i+1,c,_,false,rfl,by omega,by omega,by omega,by omega,by rw[<- hc,hsp];simp;try omega⟩
  .have ag:=aM c 16 om om;have ae:c=(fM w).length:=(by rw[List.drop_eq_nil_of_le om]at hc;simpa [Ec]using hc);refine z1 ag ?_;generalize hNdef:(fM w)=Fs at ae;have hN:Fs.length<10000000:=om;clear hc hcnt;subst ae;refine qCu (fun k E n2 h2=>∃ i:Nat,E=[(0,.str w),(2,.sl0),(9,.sl nn 0 Fs.length),(10,.int .i64 (0:Nat)),(12,.int .i64 i)]/\i+k=w.length/\nn+1<=n2/\h2.get nn=some (.arr 1 (List.replicate Fs.length (.str [])))/\i+dA w i yE=dA w 0 yE) w.length ⟨0,rfl,by omega,Nat.le_refl _,zc,by omega⟩ ?_
   .rintro k2 E n2 h2 hl2 hB2 ⟨i2,rfl,hik2,hn2,ha2,hr2⟩;by_cases aa:i2<w.length
    .have hg:w[i2]?=some w[i2]:=List.getElem?_eq_getElem aa;have U:=uM w[i2].toNat (by have:=w[i2].toNat_lt;omega);have M:=Rq hA w[i2].toNat (by have:=w[i2].toNat_lt;omega);cases hsp:yE w[i2] with
     |true=>
      rw[pA hsp]at M;refine z3 hg U M ?_;refine aU.mq (k2-1) ⟨i2+1,rfl,by omega,by omega,ha2,by rw[<- hr2,sQ aa hsp];omega⟩
     |false=>
      rw[sT hsp]at M;rw[sR aa hsp,Nat.add_zero]at hr2;refine z3 hg U M ?_;refine qCu (fun f E n3 h3=>∃(done:List (List UInt8)) (st i:Nat),E=[(0,.str w),(2,.sl0),(9,.sl nn 0 Fs.length),(10,.int .i64 done.length),(11,.int .i64 st),(12,.int .i64 i)]/\w.length+1<=i+f/\st<=i/\i<=w.length/\nn+1<=n3/\h3.get nn=some (.arr 1 (done.map AV.str++List.replicate (Fs.length-done.length) (.str [])))/\done++QE w f st i=Fs) (w.length+1) ⟨[],i2,i2,rfl,by omega,Nat.le_refl _,by omega,hn2,ha2,by rw[<- hNdef];unfold fM;rw[<- hr2];rfl⟩ ?_
      .rintro f E n3 h3 hl3 hB3 ⟨done,st,i3,rfl,hf,hst,hi3,hn3,ha3,hd⟩;cases f with
       |zero=>omega
       |succ f=>
        rw[QE]at hd;by_cases a1:i3<w.length
        .have hg:w[i3]?=some w[i3]:=List.getElem?_eq_getElem a1;have ac:bG w i3=w[i3]:=(by unfold bG;rw[List.getD_eq_getElem?_getD,hg];rfl);have U:=uM w[i3].toNat (by have:=w[i3].toNat_lt;omega);have M:=Rq hA w[i3].toNat (by have:=w[i3].toNat_lt;omega);rw[if_pos a1,ac]at hd;cases hsp:yE w[i3] with
         |false=>
          rw[sT hsp]at M;rw[hsp]at hd;refine z3 hg U M ?_;refine aU.mq f ⟨done,st,i3+1,rfl,by omega,by omega,by omega,hn3,ha3,by simpa using hd⟩
         |true=>
          rw[pA hsp]at M;rw[hsp]at hd;replace hd:=nt hd;have a6:done.length+1<=Fs.length:=(by rw[<- hd];simp);have a3:=wr1 done Fs.length a6 ((w.drop st).take (i3-st));refine z5 hg U M ha3 a3 ?_;refine qCQ (E0:=[(0,.str w),(2,.sl0),(9,.sl nn 0 Fs.length),(10,.int .i64 (done.length+1:Nat)),(12,.int .i64 (i3+1:Nat))]) (fun k4 E n4 h4=>∃ i4:Nat,E=[(0,.str w),(2,.sl0),(9,.sl nn 0 Fs.length),(10,.int .i64 (done.length+1:Nat)),(12,.int .i64 i4)]/\i4+k4=w.length/\nn+1<=n4/\h4.get nn=some (.arr 1 ((done++[(w.drop st).take (i3-st)]).map AV.str++List.replicate (Fs.length-(done++[(w.drop st).take (i3-st)]).length) (.str [])))/\i4+dA w i4 yE=i3+1+dA w (i3+1) yE) (w.length-(i3+1)) ?_ ?_ ?_
          .exact sb
          .exact⟨i3+1,rfl,by omega,hn3,zc,by omega⟩
          .rintro k4 E n4 h4 hl4 hB4 ⟨i4,rfl,hik4,hn4,ha4,hr4⟩;by_cases a2:i4<w.length
           .have a9:w[i4]?=some w[i4]:=List.getElem?_eq_getElem a2;have a4:=uM w[i4].toNat (by have:=w[i4].toNat_lt;omega);have O:=Rq hA w[i4].toNat (by have:=w[i4].toNat_lt;omega);cases hsp4:yE w[i4] with
            |true=>
             rw[pA hsp4]at O;refine z3 a9 a4 O ?_;refine aU.mq (k4-1) ⟨i4+1,rfl,by omega,hn4,ha4,by rw[<- hr4,sQ a2 hsp4];omega⟩
            |false=>
             rw[sT hsp4]at O;rw[sR a2 hsp4,Nat.add_zero]at hr4;refine z3 a9 a4 O ?_;refine qCR f [(0,.str w),(2,.sl0),(9,.sl nn 0 Fs.length),(10,.int .i64 (done.length+1:Nat)),(11,.int .i64 i4),(12,.int .i64 i4)] om sb ⟨done++[(w.drop st).take (i3-st)],i4,i4,by simp,by omega,by omega,by omega,hn4,ha4,by rw[hr4,List.append_assoc];exact hd⟩
           .rw[uT om,Nat.add_zero]at hr4;refine zz ?_;refine qCR f [(0,.str w),(2,.sl0),(9,.sl nn 0 Fs.length),(10,.int .i64 (done.length+1:Nat)),(11,.int .i64 i4),(12,.int .i64 i4)] om sb ⟨done++[(w.drop st).take (i3-st)],i4,i4,by simp,by omega,by omega,by omega,hn4,ha4,by rw[hr4,List.append_assoc];exact hd⟩
        .rw[if_neg a1]at hd;by_cases a5:st<w.length
         .rw[if_pos a5]at hd;have a6:done.length+1<=Fs.length:=(by rw[<- hd];simp);have a3:=wr1 done Fs.length a6 ((w.drop st).take (w.length-st));have a8:(w.drop st).take (w.length-st)=w.drop st:=List.take_of_length_le (by rw[List.length_drop];exact Nat.le_refl _);have hz:List.replicate (Fs.length-(done++[w.drop st]).length) (AV.str [])=[]:=(by rw[hd,Nat.sub_self];rfl);rw[a8]at a3;rw[hz,List.append_nil,hd]at a3;refine z3 ha3 a8 a3 ?_;refine qCJ ⟨by simp,fun x hx=>?_⟩ ?_
          .obtain⟨y,_,rfl⟩:=List.mem_map.1 (List.mem_of_mem_take hx)
           rfl
          .refine zz ?_;refine qCI fun _ _ _=>?_;have a7:(Fs.map AV.str).length=Fs.length:=List.length_map _;rw[List.drop_zero,<- a7,List.take_length]
         .rw[if_neg a5,List.append_nil]at hd;have hz:List.replicate (Fs.length-done.length) (AV.str [])=[]:=(by rw[hd,Nat.sub_self];rfl);rw[hz,List.append_nil,hd]at ha3;refine z1 ha3 ?_;refine qCJ ⟨by simp,fun x hx=>?_⟩ ?_
          .obtain⟨y,_,rfl⟩:=List.mem_map.1 (List.mem_of_mem_take hx)
           rfl
          .refine zz ?_;refine qCI fun _ _ _=>?_;have a7:(Fs.map AV.str).length=Fs.length:=List.length_map _;rw[List.drop_zero,<- a7,List.take_length]
    .rw[uT om,Nat.add_zero]at hr2;refine zz ?_;refine qCu (fun f E n3 h3=>∃(done:List (List UInt8)) (st i:Nat),E=[(0,.str w),(2,.sl0),(9,.sl nn 0 Fs.length),(10,.int .i64 done.length),(11,.int .i64 st),(12,.int .i64 i)]/\w.length+1<=i+f/\st<=i/\i<=w.length/\nn+1<=n3/\h3.get nn=some (.arr 1 (done.map AV.str++List.replicate (Fs.length-done.length) (.str [])))/\done++QE w f st i=Fs) (w.length+1) ⟨[],i2,i2,rfl,by omega,Nat.le_refl _,by omega,hn2,ha2,by rw[<- hNdef];unfold fM;rw[<- hr2];rfl⟩ ?_
     .rintro f E n3 h3 hl3 hB3 ⟨done,st,i3,rfl,hf,hst,hi3,hn3,ha3,hd⟩;cases f with
      |zero=>omega
      |succ f=>
       rw[QE]at hd;by_cases a1:i3<w.length
       .have hg:w[i3]?=some w[i3]:=List.getElem?_eq_getElem a1;have ac:bG w i3=w[i3]:=(by unfold bG;rw[List.getD_eq_getElem?_getD,hg];rfl);have U:=uM w[i3].toNat (by have:=w[i3].toNat_lt;omega);have M:=Rq hA w[i3].toNat (by have:=w[i3].toNat_lt;omega);rw[if_pos a1,ac]at hd;cases hsp:yE w[i3] with
        |false=>
         rw[sT hsp]at M;rw[hsp]at hd;refine z3 hg U M ?_;refine aU.mq f ⟨done,st,i3+1,rfl,by omega,by omega,by omega,hn3,ha3,by simpa using hd⟩
        |true=>
         rw[pA hsp]at M;rw[hsp]at hd;replace hd:=nt hd;have a6:done.length+1<=Fs.length:=(by rw[<- hd];simp);have a3:=wr1 done Fs.length a6 ((w.drop st).take (i3-st));refine z5 hg U M ha3 a3 ?_;refine qCQ (E0:=[(0,.str w),(2,.sl0),(9,.sl nn 0 Fs.length),(10,.int .i64 (done.length+1:Nat)),(12,.int .i64 (i3+1:Nat))]) (fun k4 E n4 h4=>∃ i4:Nat,E=[(0,.str w),(2,.sl0),(9,.sl nn 0 Fs.length),(10,.int .i64 (done.length+1:Nat)),(12,.int .i64 i4)]/\i4+k4=w.length/\nn+1<=n4/\h4.get nn=some (.arr 1 ((done++[(w.drop st).take (i3-st)]).map AV.str++List.replicate (Fs.length-(done++[(w.drop st).take (i3-st)]).length) (.str [])))/\i4+dA w i4 yE=i3+1+dA w (i3+1) yE) (w.length-(i3+1)) ?_ ?_ ?_
         .exact sb
         .exact⟨i3+1,rfl,by omega,hn3,zc,by omega⟩
         .rintro k4 E n4 h4 hl4 hB4 ⟨i4,rfl,hik4,hn4,ha4,hr4⟩;by_cases a2:i4<w.length
          .have a9:w[i4]?=some w[i4]:=List.getElem?_eq_getElem a2;have a4:=uM w[i4].toNat (by have:=w[i4].toNat_lt;omega);have O:=Rq hA w[i4].toNat (by have:=w[i4].toNat_lt;omega);cases hsp4:yE w[i4] with
           |true=>
            rw[pA hsp4]at O;refine z3 a9 a4 O ?_;refine aU.mq (k4-1) ⟨i4+1,rfl,by omega,hn4,ha4,by rw[<- hr4,sQ a2 hsp4];omega⟩
           |false=>
            rw[sT hsp4]at O;rw[sR a2 hsp4,Nat.add_zero]at hr4;refine z3 a9 a4 O ?_;refine qCR f [(0,.str w),(2,.sl0),(9,.sl nn 0 Fs.length),(10,.int .i64 (done.length+1:Nat)),(11,.int .i64 i4),(12,.int .i64 i4)] om sb ⟨done++[(w.drop st).take (i3-st)],i4,i4,by simp,by omega,by omega,by omega,hn4,ha4,by rw[hr4,List.append_assoc];exact hd⟩
          .rw[uT om,Nat.add_zero]at hr4;refine zz ?_;refine qCR f [(0,.str w),(2,.sl0),(9,.sl nn 0 Fs.length),(10,.int .i64 (done.length+1:Nat)),(11,.int .i64 i4),(12,.int .i64 i4)] om sb ⟨done++[(w.drop st).take (i3-st)],i4,i4,by simp,by omega,by omega,by omega,hn4,ha4,by rw[hr4,List.append_assoc];exact hd⟩
       .rw[if_neg a1]at hd;by_cases a5:st<w.length
        .rw[if_pos a5]at hd;have a6:done.length+1<=Fs.length:=(by rw[<- hd];simp);have a3:=wr1 done Fs.length a6 ((w.drop st).take (w.length-st));have a8:(w.drop st).take (w.length-st)=w.drop st:=List.take_of_length_le (by rw[List.length_drop];exact Nat.le_refl _);have hz:List.replicate (Fs.length-(done++[w.drop st]).length) (AV.str [])=[]:=(by rw[hd,Nat.sub_self];rfl);rw[a8]at a3;rw[hz,List.append_nil,hd]at a3;refine z3 ha3 a8 a3 ?_;refine qCJ ⟨by simp,fun x hx=>?_⟩ ?_
         .obtain⟨y,_,rfl⟩:=List.mem_map.1 (List.mem_of_mem_take hx)
          rfl
         .refine zz ?_;refine qCI fun _ _ _=>?_;have a7:(Fs.map AV.str).length=Fs.length:=List.length_map _;rw[List.drop_zero,<- a7,List.take_length]
        .rw[if_neg a5,List.append_nil]at hd;have hz:List.replicate (Fs.length-done.length) (AV.str [])=[]:=(by rw[hd,Nat.sub_self];rfl);rw[hz,List.append_nil,hd]at ha3;refine z1 ha3 ?_;refine qCJ ⟨by simp,fun x hx=>?_⟩ ?_
         .obtain⟨y,_,rfl⟩:=List.mem_map.1 (List.mem_of_mem_take hx)
          rfl
         .refine zz ?_;refine qCI fun _ _ _=>?_;have a7:(Fs.map AV.str).length=Fs.length:=List.length_map _;rw[List.drop_zero,<- a7,List.take_length]
end
section
variable {Gl:qC6}{Gm:qC7}{Kp:qC8}(S:Seat Gm Kp)
def tS (s:List UInt8)(v:AV):List (List UInt8×AV)->List (List UInt8×AV)
 |[]=>[(s,v)]
 |(s',v')::t=>bif s==s' then (s,v)::t else (s',v')::tS s v t
def Ro (l:List (List UInt8×AV)):List (AV×AV):=l.map fun q=>(.str q.1,q.2)
theorem Cl (s:List UInt8)(v:AV):∀ l,jM (.str s) v (Ro l)=some (Ro (tS s v l))
 |[]=>rfl
 |(s',v')::t=>by
  show jM (.str s) v ((.str s',v')::Ro t)=_;unfold jM tS;have M:yV (.str s) (.str s')=some (s==s'):=rfl;rw[M];cases hc:s==s' with
  |true=>
   have e:s=s':=(by simpa using hc);subst e
   rfl
  |false=>
   simp only[cond_false];rw[Cl s v t]
   rfl
def lU (k:Nat):List (AV×AV):=yD.take k
theorem pt0:jM (.str [126]) (.agg [.int .i64 4,.int .i64 4,.bool false]) []=some (lU 1):=rfl
theorem pt1:jM (.str [83,85,66,83,69,84]) (.agg [.int .i64 8,.int .i64 8,.bool false]) (lU 1)=some (lU 2):=rfl
theorem pt2:jM (.str [85,78,73,79,78]) (.agg [.int .i64 8,.int .i64 8,.bool false]) (lU 2)=some (lU 3):=rfl
theorem pt3:jM (.str [68,79,77,65,73,78]) (.agg [.int .i64 9,.int .i64 9,.bool false]) (lU 3)=some (lU 4):=rfl
theorem pt4:jM (.str [45]) (.agg [.int .i64 12,.int .i64 12,.bool false]) (lU 4)=some (lU 5):=rfl
theorem pt5:jM (.str [69,78,65,66,76,69,68]) (.agg [.int .i64 4,.int .i64 15,.bool false]) (lU 5)=some (lU 6):=rfl
theorem pt6:jM (.str [85,78,67,72,65,78,71,69,68]) (.agg [.int .i64 4,.int .i64 15,.bool false]) (lU 6)=some (lU 7):=rfl
theorem pt7:jM (.str [91,93]) (.agg [.int .i64 4,.int .i64 15,.bool false]) (lU 7)=some (lU 8):=rfl
theorem pt8:jM (.str [60,62]) (.agg [.int .i64 4,.int .i64 15,.bool false]) (lU 8)=some (lU 9):=rfl
include S
theorem Mr {n:Nat}{h:Hp}{B:Nat->Prop}{Q:aS->Nat->Hp->Prop}(hQ:∀ m n' h',n<=m->m<n'->aE n' h'->h'.get m=some (.map yD)->(∀ t,t<n->h'.get t=h.get t)->Q (.returned (.map m)) n' h'):aG Tryz.prog Gl Gm Kp 92 [] n h B Q:=by
 refine aG.mono (B:=fun _=>False) (Q:=fun e n' h'=>∃ m,e=.returned (.map m)/\n<=m/\h'.get m=some (.map yD)) ?_ (fun _ _ h=>h.elim) (fun e n' h' a b c d=>by obtain⟨x,rfl,h1,h2⟩:=d;exact hQ x n' h' h1 (aN b h2) b h2 fun t M=>c t M id);refine qB6 S 22 [.tmp 0] Tryz.func92 fun _ _=>?_;refine z5 @pt0 @pt1 @pt2 @pt3 @pt4 ?_;refine qCu (fun k E nn hh=>∃ i:Nat,E=[(1,.map n),(11,.vec [.str [69,78,65,66,76,69,68],.str [85,78,67,72,65,78,71,69,68],.str [91,93],.str [60,62]] 1 true),(12,.int .i64 (4:Nat)),(13,.int .i64 i)]/\i+k=4/\n+1<=nn/\hh.get n=some (.map (lU (5+i)))) 4 ⟨0,rfl,by omega,by omega,zc⟩ ?_
 .rintro k E nn hh hlk hBk ⟨i,rfl,hik,hnn,hg⟩;have hi:i=0\/i=1\/i=2\/i=3\/i=4:=om;rcases hi with rfl | rfl | rfl | rfl | rfl
  .simp only[Nat.add_zero,Nat.reduceAdd]at hg;refine z2 hg @pt5 ?_;refine aU.mq (k-1) ⟨1,rfl,by omega,by omega,zc⟩
  .simp only[Nat.add_zero,Nat.reduceAdd]at hg;refine z2 hg @pt6 ?_;refine aU.mq (k-1) ⟨2,rfl,by omega,by omega,zc⟩
  .simp only[Nat.add_zero,Nat.reduceAdd]at hg;refine z2 hg @pt7 ?_;refine aU.mq (k-1) ⟨3,rfl,by omega,by omega,zc⟩
  .simp only[Nat.add_zero,Nat.reduceAdd]at hg;refine z2 hg @pt8 ?_;refine aU.mq (k-1) ⟨4,rfl,by omega,by omega,zc⟩
  .refine zz ?_;exact qCI fun n' _ _=>⟨n,rfl,Nat.le_refl _,hg⟩
end
section
variable {Gl:qC6}{Gm:qC7}{Kp:qC8}(S:Seat Gm Kp)
def gX : List (List UInt8 × oQ) :=
  [([61, 62], ⟨1, 1, false, false⟩),
   ([60, 61, 62, 32, 126, 62], ⟨2, 2, false, false⟩),
   ([47, 92, 32, 92, 47], ⟨3, 3, true, false⟩),
   ([61, 32, 35, 32, 60, 32, 62, 32, 60, 61, 32, 62, 61, 32, 92, 105, 110, 32, 92, 110, 111, 116, 105, 110, 32, 92, 115, 117, 98, 115, 101, 116, 101, 113, 32, 92, 115, 117, 112, 115, 101, 116, 101, 113], ⟨5, 5, false, false⟩),
   ([92, 115, 113, 115, 117, 98, 115, 101, 116, 101, 113, 32, 92, 112, 114, 101, 99, 32, 92, 115, 117, 99, 99, 32, 92, 115, 105, 109], ⟨5, 5, false, true⟩),
   ([92, 99, 100, 111, 116], ⟨5, 14, true, false⟩),
   ([64, 64], ⟨6, 6, true, false⟩),
   ([58, 62], ⟨7, 7, false, false⟩),
   ([92, 99, 117, 112, 32, 92, 99, 97, 112], ⟨8, 8, true, false⟩),
   ([92], ⟨8, 8, false, false⟩),
   ([46, 46], ⟨9, 9, false, false⟩),
   ([46, 46, 46], ⟨9, 9, false, true⟩),
   ([36, 32, 36, 36, 32, 63, 63, 32, 35, 35, 32, 92, 115, 113, 99, 117, 112, 32, 92, 115, 113, 99, 97, 112], ⟨9, 13, true, true⟩),
   ([43], ⟨10, 10, true, false⟩),
   ([40, 43, 41, 32, 43, 43], ⟨10, 10, true, true⟩),
   ([37], ⟨10, 11, false, false⟩),
   ([37, 37, 32, 124, 32, 124, 124], ⟨10, 11, true, true⟩),
   ([92, 88], ⟨10, 13, false, false⟩),
   ([45], ⟨11, 11, true, false⟩),
   ([40, 45, 41, 32, 45, 45], ⟨11, 11, true, true⟩),
   ([42, 32, 92, 111], ⟨13, 13, true, false⟩),
   ([92, 100, 105, 118], ⟨13, 13, false, false⟩),
   ([47, 32, 47, 47], ⟨13, 13, false, true⟩),
   ([42, 42, 32, 40, 46, 41, 32, 38, 32, 38, 38, 32, 92, 115, 116, 97, 114, 32, 92, 98, 117, 108, 108, 101, 116], ⟨13, 13, true, true⟩),
   ([94], ⟨14, 14, false, false⟩),
   ([94, 94], ⟨14, 14, false, true⟩)]
def uS:List AV:=gX.map fun r=>.agg [.str r.1,.int .i64 r.2.lo,.int .i64 r.2.hi,.bool r.2.left,.bool r.2.defn]
def Mj (o:oQ):AV:=.agg [.int .i64 o.lo,.int .i64 o.hi,.bool o.left,.bool o.defn]
def rowWords (o:oQ)(ws:List (List UInt8))(acc:List (List UInt8×AV)):List (List UInt8×AV):=ws.foldl (fun m s=>tS s (Mj o) m) acc
def wN (acc:List (List UInt8×AV))(r:List UInt8×oQ):List (List UInt8×AV):=rowWords r.2 (fM r.1) acc
def pR (w:List UInt8):Bool:=decide (w.length<1000000)&&uH w&&decide (Ec true w=(fM w).length)
theorem Bi:(gX.all fun r=>pR r.1)=true:=kr
theorem Lg:gX.length=26:=rfl
theorem Ra:Ro (gX.foldl wN [])=Fy:=kr
theorem nH {w:List UInt8}(h:pR w=true):w.length<1000000/\uH w=true/\Ec true w=(fM w).length:=by
 unfold pR at h;simp only[Bool.and_eq_true,decide_eq_true_eq]at h;exact⟨h.1.1,h.1.2,h.2⟩
theorem Vu:∀(w:List UInt8) (b:Bool),Ec b w<=w.length
 |[],_=>by unfold Ec;exact Nat.le_refl _
 |c::r,b=>by
  have:=Vu r (yE c);unfold Ec;rw[List.length_cons];split<;>omega
theorem vS {w:List UInt8}(h:pR w=true):(fM w).length<=1000000:=by
 have h:=nH h;have:=Vu w true;omega
theorem lW {α β:Type}(f:α->β->α)(a:α)(l:List β)(i:Nat)(h:i<l.length):(l.take (i+1)).foldl f a=f ((l.take i).foldl f a) l[i]:=by
 rw[List.take_succ_eq_append_getElem h,List.foldl_append]
 rfl
include S
theorem Ky (hA:Gl 1=some dL){w:List UInt8}(hw:pR w=true):cD Gl Gm Kp 140 [.str w] (.vec ((fM w).map .str) 1 false):=EZ S hA w (nH hw).1 (nH hw).2.1 (nH hw).2.2
theorem Re (hA:Gl 1=some dL){n:Nat}{h:Hp}{B:Nat->Prop}{Q:aS->Nat->Hp->Prop}(hQ:∀ m n' h',n<=m->m<n'->aE n' h'->h'.get m=some (.map Fy)->(∀ t,t<n->h'.get t=h.get t)->Q (.returned (.map m)) n' h'):aG Tryz.prog Gl Gm Kp 93 [] n h B Q:=by
 refine aG.mono (B:=fun _=>False) (Q:=fun e n' h'=>∃ m,e=.returned (.map m)/\n<=m/\h'.get m=some (.map Fy)) ?_ (fun _ _ h=>h.elim) (fun e n' h' a b c d=>by obtain⟨x,rfl,h1,h2⟩:=d;exact hQ x n' h' h1 (aN b h2) b h2 fun t ht=>c t ht id);refine qB6 S 62 [.tmp 0] Tryz.func93 fun _ _=>?_;refine zz ?_;refine qCu (fun k E nn hh=>∃ i:Nat,E=[(1,.map n),(33,.vec uS 5 true),(34,.int .i64 (26:Nat)),(35,.int .i64 i)]/\i+k=26/\n+1<=nn/\hh.get n=some (.map (Ro ((gX.take i).foldl wN [])))) 26 ⟨0,rfl,by omega,by omega,by(refine zz ?_;rfl)⟩ ?_
 .rintro k E nn hh hlk hBk ⟨i,rfl,hik,hnn,hg⟩;have a8:=Lg;by_cases O:i<gX.length
  .have Y:uS[i]?=some (.agg [.str gX[i].1,.int .i64 gX[i].2.lo,.int .i64 gX[i].2.hi,.bool gX[i].2.left,.bool gX[i].2.defn]):=(by unfold uS;rw[List.getElem?_map,List.getElem?_eq_getElem O];rfl);have a6:uS.length=26:=rfl;have hF:=Ky S hA ((List.all_eq_true.1 Bi) gX[i] (List.getElem_mem O));have a9:=vS ((List.all_eq_true.1 Bi) gX[i] (List.getElem_mem O));have M:=lW wN [] gX i O;generalize hR:gX[i]=R at *;generalize hacc:(gX.take i).foldl wN []=acc at *;refine z3 Y a6 @qCU ?_;refine qCK (hF.use fun n2 h2 _ _ a3=>?_);have a1:(gX.take (i+1)).foldl wN []=rowWords R.2 (fM R.1) acc:=M;clear M hF Y;generalize fM R.1=ws at *;have a4:(ws.map AV.str).length=ws.length:=List.length_map _;have g2:=(a3 n om).trans ((y1 hg):_=some (aK.map (Ro acc)));refine z1 a4 ?_;refine qCu (fun k2 E n3 h3=>∃ j:Nat,E=[(1,.map n),(33,.vec uS 5 true),(34,.int .i64 (26:Nat)),(35,.int .i64 i),(3,.ref nn 0),(41,.vec (ws.map .str) 1 false),(42,.int .i64 ws.length),(43,.int .i64 j)]/\j+k2=ws.length/\n2<=n3/\h3.get n=some (.map (Ro (rowWords R.2 (ws.take j) acc)))/\
    h3.get nn=some (.cells [.str R.1,.int .i64 R.2.lo,.int .i64 R.2.hi,.bool R.2.left,.bool R.2.defn])) ws.length ⟨0,rfl,by omega,by omega,by first | exact g2 | (refine z1 @g2 ?_;done),y1 a3⟩ ?_
   .rintro k2 E n3 h3 hl3 hB3 ⟨j,rfl,hjk,hn3,g3,gr3⟩;by_cases hj:j<ws.length
    .have a7:(ws.map AV.str)[j]?=some (.str ws[j]):=(by rw[List.getElem?_map,List.getElem?_eq_getElem hj];rfl);have U:=Cl ws[j] (Mj R.2) (rowWords R.2 (ws.take j) acc);have a2:rowWords R.2 (ws.take (j+1)) acc=tS ws[j] (Mj R.2) (rowWords R.2 (ws.take j) acc):=lW _ _ _ _ hj;unfold Mj at U;refine z5 a7 a4 gr3 @g3 U ?_;refine aU.mq (k2-1) ⟨j+1,rfl,by omega,hn3,by(rw[a2];exact y1 @Mj.eq_1),y1 gr3⟩
    .have a5:j=ws.length:=om;subst a5;rw[List.take_length]at g3;refine zz ?_;refine aU.mq (k-1) ⟨i+1,rfl,by omega,by omega,by rw[a1];exact g3⟩
  .have hi:i=26:=om;subst hi;refine zz ?_;exact qCI fun n' _ _=>⟨n,rfl,Nat.le_refl _,by rw[<- Ra];exact hg⟩
theorem If (hA:Gl 1=some dL){l:List Tok}{lv:AV}(hl:zM lv l)(hlen:l.length<1000000000)(hflat:∀ t ∈ l,eE t.d=true/\AV.one t.d=true){n:Nat}{h:Hp}{B:Nat->Prop}{Q:aS->Nat->Hp->Prop}
  (hQ:∀ o pm im n' h',n<=n'->aE n' h'->n<=o->eB h' o pm im lv .sl0 ⟨l,0,[]⟩->(∀ t,t<n->h'.get t=h.get t)->Q (.returned (.ref o 0)) n' h'):aG Tryz.prog Gl Gm Kp 86 [lv,.int .i64 0] n h B Q:=by
 refine aG.mono (B:=fun _=>False) (Q:=fun e n' h'=>∃ o pm im,e=.returned (.ref o 0)/\n<=o/\eB h' o pm im lv .sl0 ⟨l,0,[]⟩) ?_ (fun _ _ h=>h.elim) (fun e n' h' a b c d=>by obtain⟨x,pm,im,rfl,h1,h2⟩:=d;exact hQ x pm im n' h' a b h1 h2 fun t ht=>c t ht id);refine qB6 S 12 [.tmp 4] Tryz.func86 fun _ _=>?_;refine zz ?_;refine qCK (Mr S fun pm n1 h1 _ _ _ gp _=>?_);refine zz ?_;refine qCK (Re S hA fun im n2 h2 _ _ _ gi U=>?_);have O:=(U pm om).trans gp;have M:AV.one lv=true/\AV.whole lv=true/\AV.cells lv=[lv]:=by
  rcases hl with⟨rfl,_⟩ | ⟨f,rfl⟩<;>exact⟨rfl,rfl,rfl⟩
 obtain⟨Y,a1,a2⟩:=M;refine z3 Y a1 a2 ?_;exact qCI fun n' _ _=>⟨n2,pm,im,rfl,by omega,by(refine zz ?_;rfl),hl,.inl ⟨rfl,rfl⟩,hlen,hflat,Nat.zero_le _,Nat.succ_pos _,y1 O,y1 gi⟩
end
end Go.Proofs.Pa
namespace Go.Ez
section
variable {P:Program}{Gl:qC6}{Gm:qC7}{Kp:qC8}
theorem bZ.less {L:Nat}{ds:List mP}{c:Code}{E0 E:Env}{n:Nat}{h:Hp}{B:Nat->Prop}{k:List mP->dZ}(hs:E0.sub E)(w:aE n h->(∀ t,n<=t->B t)->bZ P Gl Gm Kp L ds c E0 n h B k):bZ P Gl Gm Kp L ds c E n h B k:=
 ⟨fun a hE O M=>(w O M).ok a ⟨⟨hE.len,fun t v U=>hE.val t v (hs t v U)⟩,hE.ds,hE.rn⟩ O M⟩
theorem bZ.split {L:Nat}{ds:List mP}{B:Nat->Prop}{k:List mP->dZ}(Inv:Env->Nat->Hp->Prop):∀(i:Nat) (c:Code) {E:Env}{n:Nat}{h:Hp},dN P Gl Gm Kp ⟨L,ds,none⟩ B (yC i c) (rT (fun E n h=>fO Inv E n h ⟨⟩) (k ds)) E n h->
  (∀ E n' h',n<=n'->aE n' h'->(∀ t,n'<=t->B t)->Inv E n' h'->bZ P Gl Gm Kp L ds (Cs i c) E n' h' B k)->bZ P Gl Gm Kp L ds c E n h B k:=by
 intro i
 induction i with
 |zero=>
  intro c E n h w w2;rw[tK]at w;obtain⟨E0,hs,hi⟩:=w;rw[tO]at w2;exact bZ.less hs fun O U=>w2 E0 n h (Nat.le_refl _) O U hi
 |succ i ih=>
  intro c E n h w w2;cases c with
  |seq a b=>
   have w:dN P Gl Gm Kp ⟨L,ds,none⟩ B a (rT (fun E n h=>dN P Gl Gm Kp ⟨L,ds,none⟩ B (yC i b) (rT (fun E n h=>fO Inv E n h ⟨⟩) (k ds)) E n h) (rT (fun E n h=>fO Inv E n h ⟨⟩) (k ds))) E n h:=w;refine bZ.seq (bZ.code ((aW w).imp fun ex E' n' h' Y O _ w'=>?_));cases ex with
   |normal=>exact ih b w' fun E n2 h2 M=>w2 E n2 h2 (Nat.le_trans Y M)
   |_=>exact w'
  |_=>obtain⟨E0,hs,hi⟩:=w;exact bZ.less hs fun O U=>w2 E0 n h (Nat.le_refl _) O U hi
theorem Ru (rs:List ResultVar)(keep:Bool)(B:Nat->Prop)(Q:aS->Nat->Hp->Prop):Rt P Gl Gm Kp rs keep B Q []=gS P Gl rs keep B Q:=by
 funext ex E n h
 cases ex<;>rfl
theorem aG.cutX {f:FuncId}{fn:Func}{c:Code}{args:List AV}{keep:Bool}{n:Nat}{h:Hp}{B:Nat->Prop}{Q:aS->Nat->Hp->Prop}(L:Nat)(rs:List ResultVar)(i:Nat)(Inv:Env->Nat->Hp->Prop)(hf:P.funcs[f]?=some fn)(hb:fn.body=some c)(hg:Gm f=none)
  (hk:Kp f=(keep,false)) (hL:args.length+(fn.ntmps-args.length)=L) (hr:fn.results.toList=rs)
  (w:(∀ t,n<=t->(n<=t\/B t))->aE n h->dN P Gl Gm Kp ⟨L,[],none⟩ (fun t=>n<=t\/B t) (yC i c) (rT (fun E n h=>fO Inv E n h ⟨⟩) (gS P Gl rs keep (fun t=>n<=t\/B t) Q)) (nT 0 args) n h)
  (w2:∀ E n1 h1,n<=n1->aE n1 h1->Inv E n1 h1->bZ P Gl Gm Kp L [] (Cs i c) E n1 h1 (fun t=>n<=t\/B t) (Rt P Gl Gm Kp rs keep (fun t=>n<=t\/B t) Q)):aG P Gl Gm Kp f args n h B Q:=by
 refine qCr L rs hf hb hg hk hL hr fun U=>bZ.split Inv i c ?_ fun E n' h' O M _ hi=>w2 E n' h' O M hi;rw[Ru];exact w (fun t Y=>.inl Y) U
end
end Go.Ez
namespace Go.Proofs.Pa
open Go.Ez Go.Proofs.Vt
section
variable (Gl:qC6)(Gm:qC7)(Kp:qC8)
def mE:Prop:=∀(n:Nat) (h:Hp) (Q:aS->Nat->Hp->Prop),(∀ tb cm wm n' h',n<=n'->aE n' h'->(n<=tb/\tb<n')->(n<=cm/\cm<n')->(n<=wm/\wm<n')->h'.get tb=some (.cells [.map cm,.map wm,.int .i64 3])->h'.get cm=some (.map dF)->h'.get wm=some (.map fR)->(∀ t,t<n->h'.get t=h.get t)->Q (.returned (.ref tb 0)) n' h')->
 aG Tryz.prog Gl Gm Kp 202 [] n h (fun _=>False) Q
end
section
variable {Gl:qC6}{Gm:qC7}{Kp:qC8}(S:Seat Gm Kp)
theorem VI (args:List AV):aT Tryz.prog 277 args=.ret (.enter 277 args):=aH Tryz.func277 rfl kr args
include S
theorem HL (w:List UInt8){n:Nat}{h:Hp}{B:Nat->Prop}{Q:aS->Nat->Hp->Prop}(hQ:∀ c n' h',n<=c->c<n'->aE n' h'->h'.get c=some (.cells [.str w])->(∀ t,t<n->h'.get t=h.get t)->Q (.returned (.fn (.func 277) [] [.ref c 0])) n' h'):aG Tryz.prog Gl Gm Kp 203 [.str w] n h B Q:=by
 refine aG.mono (B:=fun _=>False) (Q:=fun e n' h'=>∃ c,e=.returned (.fn (.func 277) [] [.ref c 0])/\n<=c/\h'.get c=some (.cells [.str w])) ?_ (fun _ _ h=>h.elim) (fun e n' h' a b c d=>by obtain⟨x,rfl,h1,h2⟩:=d;exact hQ x n' h' h1 (aN b h2) b h2 fun t M=>c t M id);refine qB6 S 4 [.tmp 2] Tryz.func203 fun _ _=>?_;refine zz ?_;exact qC9<|⟨n,rfl,by omega,zc⟩
end
end Go.Proofs.Pa
namespace Go.Ez
theorem fI.mk2 {P:Program}{Gl:qC6}{Gm:qC7}{Kp:qC8}{L:Nat}{E:Env}{n:Nat}{h:Hp}{B:Nat->Prop}{l d:Nat}{v1 v2:AV}{ts:List AV}{p1 p2:Tmp}{ag b:Code}(hL:ts.length=L)(hE:∀ t v,lk E t=some v->ts[t]?=some v)(h1:p1<L)(h2:p2<L)(hg:h.get l=some (.loop .ready none 0 ts [p1,p2] ag b d))(hbl:B l){Q:aS->Nat->Hp->Prop}
  (w:bF P Gl Gm Kp ⟨L,[],some l⟩ ag ((p2,v2)::(p1,v1)::E) n h (fun t=>n<=t\/B t) fun ex E1 n1 h1=>ex=.normal/\h1.get l=some (.loop .ready none 0 ts [p1,p2] ag b d)/\
   bF P Gl Gm Kp ⟨L,[],some l⟩ b E1 n1 (h1.put l (.loop .busy none 0 ts [p1,p2] ag b d)) (fun t=>n<=t\/B t) fun ex E2 n2 h2=>ex=.normal/\h2.get l=some (.loop .busy none 0 ts [p1,p2] ag b d)/\
    ∀ n',n2<=n'->aE n' (h2.put l (.loop .ready none 0 ts [p1,p2] ag b d))->Q (.returned (.bool true)) n' (h2.put l (.loop .ready none 0 ts [p1,p2] ag b d))) :
  fI P Gl Gm Kp l [v1,v2] n h B Q:=fI.mk' hL hE (by simp[h1,h2]) rfl hg hbl w
theorem fI.mk1 {P:Program}{Gl:qC6}{Gm:qC7}{Kp:qC8}{L:Nat}{E:Env}{n:Nat}{h:Hp}{B:Nat->Prop}{l d:Nat}{v1:AV}{ts:List AV}{p1:Tmp}{ag b:Code}(hL:ts.length=L)(hE:∀ t v,lk E t=some v->ts[t]?=some v)(h1:p1<L)(hg:h.get l=some (.loop .ready none 0 ts [p1] ag b d))(hbl:B l){Q:aS->Nat->Hp->Prop}
  (w:bF P Gl Gm Kp ⟨L,[],some l⟩ ag ((p1,v1)::E) n h (fun t=>n<=t\/B t) fun ex E1 n1 h1=>ex=.normal/\h1.get l=some (.loop .ready none 0 ts [p1] ag b d)/\
   bF P Gl Gm Kp ⟨L,[],some l⟩ b E1 n1 (h1.put l (.loop .busy none 0 ts [p1] ag b d)) (fun t=>n<=t\/B t) fun ex E2 n2 h2=>ex=.normal/\h2.get l=some (.loop .busy none 0 ts [p1] ag b d)/\
    ∀ n',n2<=n'->aE n' (h2.put l (.loop .ready none 0 ts [p1] ag b d))->Q (.returned (.bool true)) n' (h2.put l (.loop .ready none 0 ts [p1] ag b d))) :
  fI P Gl Gm Kp l [v1] n h B Q:=fI.mk' hL hE (by simp[h1]) rfl hg hbl w
end Go.Ez
namespace Go.Proofs.Pa
open Go.Ez Go.Proofs.Vt
section
variable {Gl:qC6}{Gm:qC7}{Kp:qC8}(S:Seat Gm Kp)
def zG (w:List UInt8)(i:Nat)(p:Int×Int)(r:List Tok):List Tok:=if i<=w.length then oC (w.drop i) i p r else r
theorem qP (w:List UInt8)(i:Nat)(p:Int×Int):oC w i p []=[]:=by cases w<;>rfl
theorem Lr (w:List UInt8)(i:Nat)(p:Int×Int):zG w i p []=[]:=by
 unfold zG;split
 .exact qP _ _ _
 .rfl
theorem FY {w:List UInt8}{i:Nat}{p:Int×Int}{t:Tok}{r:List Tok}(hi:i<=w.length)(ht:t.at'=i):zG w i p (t::r)={t with line:=p.1,col:=p.2}::zG w (i+1) (hH p (bG w i)) r:=by
 unfold zG;rw[if_pos hi];by_cases M:i<w.length
 .rw[List.drop_eq_getElem_cons M,if_pos om];have O:bG w i=w[i]:=(by unfold bG;rw[List.getD_eq_getElem?_getD,List.getElem?_eq_getElem M];rfl);rw[O]
  conv=>lhs;unfold oC
  rw[if_pos ht]
 .have:i=w.length:=om;subst this;rw[List.drop_length,if_neg om];unfold oC;rw[if_pos ht]
theorem MP {w:List UInt8}{i:Nat}{p:Int×Int}{t:Tok}{r:List Tok}(hi:i<=w.length)(ht:t.at'≠i):zG w i p (t::r)=zG w (i+1) (hH p (bG w i)) (t::r):=by
 unfold zG;rw[if_pos hi];by_cases M:i<w.length
 .rw[List.drop_eq_getElem_cons M,if_pos om];have O:bG w i=w[i]:=(by unfold bG;rw[List.getD_eq_getElem?_getD,List.getElem?_eq_getElem M];rfl);rw[O]
  conv=>lhs;unfold oC
  rw[if_neg ht]
 .have:i=w.length:=om;subst this;rw[List.drop_length,if_neg om];unfold oC;rw[if_neg ht]
def LM.NZ {α:Type}(m:LM α):Prop:=∀ s e,m s=.error e->e.err≠0
theorem LM.NZ.bind {α β:Type}{x:LM α}{f:α->LM β}(hx:x.NZ)(hf:∀ a,(f a).NZ):(x >>= f).NZ:=fun s e h=>by
 change LM.bind x f s=.error e at h;unfold LM.bind at h;cases hc:x s with
 |ok q=>rw[hc]at h;exact hf q.1 q.2 e h
 |error e'=>rw[hc]at h;cases h;exact hx s _ hc
theorem LM.NZ.pure {α:Type}(a:α):(LM.pure a).NZ:=fun s e h=>by cases h
theorem LM.NZ.oof {α:Type}:(LM.oof (α:=α)).NZ:=fun s e h=>by cases h;decide
theorem LM.NZ.pos:LM.pos.NZ:=fun s e h=>by cases h
theorem LM.NZ.skip (k:Nat):(LM.skip k).NZ:=fun s e h=>by cases h
theorem LM.NZ.put (t:Tok)(k:Nat):(LM.put t k).NZ:=fun s e h=>by cases h
theorem LM.NZ.note:LM.note.NZ:=fun s e h=>by
 unfold LM.note at h;split at h
 .cases h
 .cases h;decide
theorem LM.NZ.fail {α:Type}{a e:Int}(he:e≠0):(LM.fail (α:=α) a e).NZ:=fun s f h=>by cases h;exact he
theorem qCg {α:Type}{c:Prop}[Decidable c]{x y:LM α}(hx:x.NZ)(hy:y.NZ):(if c then x else y).NZ:=by split<;>assumption
theorem Bp (w:List UInt8):∀(f a d:Nat),(mI w f a d).NZ
 |0,_,_=>LM.NZ.oof
 |f+1,a,d=>by
  unfold mI;have M:=Bp w f
  (repeat' (first | assumption | exact LM.NZ.pure _ | exact LM.NZ.oof | exact LM.NZ.pos | exact LM.NZ.skip _ | exact LM.NZ.put _ _ | exact LM.NZ.note | exact LM.NZ.fail dc | refine qCg ?_ ?_ | refine LM.NZ.bind ?_ fun _=>?_ | exact M _ _))
theorem Br (w:List UInt8):∀ f:Nat,(rL w f).NZ
 |0=>LM.NZ.oof
 |f+1=>by
  unfold rL;have M:=Br w f
  (repeat' (first | assumption | exact LM.NZ.pure _ | exact LM.NZ.oof | exact LM.NZ.pos | exact LM.NZ.skip _ | exact LM.NZ.put _ _ | exact LM.NZ.note | exact LM.NZ.fail dc | refine qCg ?_ ?_ | refine LM.NZ.bind ?_ fun _=>?_ | exact Bp _ _ _ _))
theorem qR (w:List UInt8):∀ k:Nat,(fV w k).NZ
 |0=>by
  unfold fV
  (repeat' (first | assumption | exact LM.NZ.pure _ | exact LM.NZ.oof | exact LM.NZ.pos | exact LM.NZ.skip _ | exact LM.NZ.put _ _ | exact LM.NZ.note | exact LM.NZ.fail dc | refine qCg ?_ ?_ | refine LM.NZ.bind ?_ fun _=>?_ | fail))
 |k+1=>by
  unfold fV;have M:=qR w k;refine LM.NZ.bind LM.NZ.pos fun p=>?_;simp only;split
  ·(repeat' (first | assumption | exact LM.NZ.pure _ | exact LM.NZ.oof | exact LM.NZ.pos | exact LM.NZ.skip _ | exact LM.NZ.put _ _ | exact LM.NZ.note | exact LM.NZ.fail dc | refine qCg ?_ ?_ | refine LM.NZ.bind ?_ fun _=>?_ | fail))
  .exact M
theorem Zt (w:List UInt8):(sJ w).NZ:=by
 have M:(Ls w).NZ:=by
  unfold Ls
  (repeat' (first | assumption | exact LM.NZ.pure _ | exact LM.NZ.oof | exact LM.NZ.pos | exact LM.NZ.skip _ | exact LM.NZ.put _ _ | exact LM.NZ.note | exact LM.NZ.fail dc | refine qCg ?_ ?_ | refine LM.NZ.bind ?_ fun _=>?_ | fail))
 have O:(yW w).NZ:=by
  unfold yW;refine LM.NZ.bind LM.NZ.pos fun p=>?_;refine qCg ?_ (qR w _);simp only;split
  .exact qCg (LM.NZ.put _ _) (qR w _)
  .exact qR w _
 unfold sJ
 (repeat' (first | assumption | exact LM.NZ.pure _ | exact LM.NZ.oof | exact LM.NZ.pos | exact LM.NZ.skip _ | exact LM.NZ.put _ _ | exact LM.NZ.note | exact LM.NZ.fail dc | refine qCg ?_ ?_ | refine LM.NZ.bind ?_ fun _=>?_ | fail))
theorem Bq (w:List UInt8):∀ f:Nat,(qQ w f).NZ
 |0=>LM.NZ.oof
 |f+1=>by
  unfold qQ;have M:=Bq w f;have h1:=Zt w;have h2:=Br w f
  (repeat' (first | assumption | exact LM.NZ.pure _ | exact LM.NZ.oof | exact LM.NZ.pos | exact LM.NZ.skip _ | exact LM.NZ.put _ _ | exact LM.NZ.note | exact LM.NZ.fail dc | refine qCg ?_ ?_ | refine LM.NZ.bind ?_ fun _=>?_ | fail))
theorem Ga (w:List UInt8)(f:Nat)(s:SS)(e:kY)(h:wA w f s=.error e):e.err≠0:=
 (LM.NZ.bind (Br w f) fun _=>Bq w f) s e h
include S
theorem Gq {asg body:Code}{ts:List AV}(J:Code->Code->Nat->Int×Int->Hp->Prop)(W:Nat->Prop)(w:List UInt8)(hw:w.length<1000000000){c n:Nat}{h:Hp}{B:Nat->Prop}(hcn:c<n)(hWn:∀ t,W t->t<n+2)(hWB:∀ t,W t->B t)
  (hJ0:J asg body 0 (1,1) ((n+1,.loop .ready none 0 ts [33,34] asg body n)::(n,.dfr)::h)) (hJc:∀ i p hh,J asg body i p hh->hh.get c=some (.cells [.str w]))
  (hJq:∀ i p hh hh',J asg body i p hh->(∀ t,t<n+2->hh'.get t=hh.get t)->J asg body i p hh')
  (hr:∀ i p n1 h1,n+2<=n1->aE n1 h1->i<=w.length->J asg body i p h1->fI Tryz.prog Gl Gm Kp (n+1) [.int .i64 i,qX p] n1 h1 W fun e n2 h2=>e=.returned (.bool true)/\J asg body (i+1) (hH p (bG w i)) h2)
  {Q:aS->Nat->Hp->Prop} (hQ:∀ p n' h',n+2<=n'->aE n' h'->J asg body (w.length+1) p h'->Q (.returned (.tup [])) n' h') :
  aG Tryz.prog Gl Gm Kp 277 ([]++[.fn (.yield (n+1)) [] []]++[.ref c 0]) (n+2) ((n+1,.loop .ready none 0 ts #[33,34].toList asg body n)::(n,.dfr)::h) B Q:=
 (BK S w hw (n+1) c (J asg body) hJ0 hJc hWn hJq om hr hQ).mono (fun t _ M=>hWB t M) fun _ _ _ _ _ _ h=>h
theorem BN (TT:mE Gl Gm Kp)(w:List UInt8)(ho:lI w≠.error lT){n:Nat}{h:Hp}{B:Nat->Prop}{Q:aS->Nat->Hp->Prop}
  (h1:∀ l,lI w=.ok l->∀ lv n' h',zM lv l->(∀ t ∈ l,eE t.d=true/\AV.one t.d=true)->l.length<=20000->n<=n'->aE n' h'->(∀ t,t<n->h'.get t=h.get t)->Q (.returned (.tup [lv,.int .i64 0,.int .i64 0])) n' h')
  (h2:∀ e,lI w=.error e->∀ n' h',n<=n'->aE n' h'->(∀ t,t<n->h'.get t=h.get t)->Q (.returned (.tup [.sl0,.int .i64 e.at',.int .i64 e.err])) n' h'):aG Tryz.prog Gl Gm Kp 122 [.str w] n h B Q:=by
 refine aG.mono (B:=fun _=>False) (Q:=fun x n' h'=>(∃ l lv,lI w=.ok l/\x=.returned (.tup [lv,.int .i64 0,.int .i64 0])/\zM lv l/\(∀ t ∈ l,eE t.d=true/\AV.one t.d=true)/\l.length<=20000)\/∃ e,lI w=.error e/\x=.returned (.tup [.sl0,.int .i64 e.at',.int .i64 e.err])) ?_ (fun _ _ h=>h.elim) (fun x n' h' a b c d=>by
  rcases d with⟨l,lv,e,rfl,hr,hf,hn⟩ | ⟨e,he,rfl⟩
  .exact h1 l e lv n' h' hr hf hn a b fun t ht=>c t ht id
  .exact h2 e he n' h' a b fun t ht=>c t ht id)
 generalize hms:lI w=ms at *;unfold lI at hms;refine aG.cutX 78 [.tmp 2,.tmp 3,.tmp 4] 6 (fun E n1 h1=>∃(c5 c8 o b tb cm wm:Nat) (ov cv:AV) (s:SS),E=[(0,.str w),(5,.ref c5 0),(8,.ref c8 0)]/\iC b h1 o tb cm wm w ov cv s/\n<=b/\h1.get c5=some (.cells [.ref o 0])/\h1.get c8=some (.cells [.int .i64 (0:Nat)])/\
  o<c5/\c5<c8/\(∀ a k,ov=.sl a 0 k->a<c5)/\s.out.length<=20000/\ms=.ok (oC w 0 (1,1) s.out)) Tryz.func122 rfl (S.gm _ dc) (S.kp _ dc dc) rfl rfl (fun hB hl=>?_) ?_
 .by_cases hw:100000<w.length
  .rw[if_pos hw]at hms;refine zz ?_;exact qC9<|.inr ⟨_,hms.symm,rfl⟩
  .rw[if_neg hw]at hms;refine zz ?_;refine qCK ((TT _ _ _ fun tb cm wm n1 h1 ai a1 bb b8 bc aw au ax ba=>?_).mono (fun _ _ h=>h.elim) fun _ _ _ _ _ _ h=>h);refine zz ?_;have b0:wA w (w.length+2) ⟨0,[],0⟩≠.error lT:=fun hc=>(by rw[hc]at hms;exact ho hms.symm);refine qCK ((NL S om aw au ax (w.length+2) om b0 (fun s hs o ov cv n2 h2 aj a3 R2 O=>?_) fun e he n2 h2 aj a3 O=>?_).mono (fun _ _ h=>h.elim) fun _ _ _ _ _ _ h=>h)
   .rw[hs]at hms;simp only at hms;have a5:=R2.obj;have a6:=R2.on a3;have az:=R2.bo;have b4:=R2.few;have b5:=R2.pos;have ac:∀ a k,ov=.sl a 0 k->a<n2:=fun a k e=>by
     rcases R2.out with⟨e2,_⟩ | ⟨a2,e2,h2,_⟩
     .rw[e]at e2;cases e2
     .rw[e]at e2;cases e2;exact aN a3 h2
    by_cases M:20000<s.out.length
    .rw[if_pos M]at hms;rcases R2.out with⟨rfl,hz⟩ | ⟨a2,rfl,ha2,_⟩
     .exact absurd M (by rw[hz];decide)
     .refine z1 a5 ?_;exact qC9<|.inr ⟨_,hms.symm,rfl⟩
    .rw[if_neg M]at hms;rcases R2.out with⟨rfl,hz⟩ | ⟨a2,rfl,ha2,_⟩
     .have bd:s.out.length=0:=(by rw[hz];rfl);refine z1 a5 ?_;refine qCO [(0,.str w),(5,.ref n2 0),(8,.ref (n2+1) 0)] sb ⟨n2,n2+1,o,n1+3,tb,cm,wm,_,cv,s,rfl,R2.quiet a3 fun t ht=>zc,by omega,zc,by(refine zz ?_;rfl),a6,by omega,ac,by omega,hms.symm⟩
     .refine z1 a5 ?_;refine qCO [(0,.str w),(5,.ref n2 0),(8,.ref (n2+1) 0)] sb ⟨n2,n2+1,o,n1+3,tb,cm,wm,_,cv,s,rfl,R2.quiet a3 fun t ht=>zc,by omega,zc,by(refine zz ?_;rfl),a6,by omega,ac,by omega,hms.symm⟩
   .rw[he]at hms;simp only at hms;have b9:e.err≠0:=Ga _ _ _ _ he;refine zz ?_;exact qC9<|.inr ⟨e,hms.symm,rfl⟩
 .rintro E n1 h1 ai a1 ⟨c5,c8,o,b,tb,cm,wm,ov,cv,s,rfl,R,hnb,g5,g8,hoc,h58,hac,M,hok⟩;have b6:=aN a1 g8;refine bZ.seq (bZ.seq (bZ.code (aW ?_)));refine zz ?_;refine qCK (HL S w fun bx n2 h2 b7 aa a3 ah O=>?_);refine zz ?_;have R2:=R.quiet a1 O;have ag:=(O c5 om).trans g5;have a7:=(O c8 om).trans g8;refine bZ.block (bZ.range rfl VI fun ts ap hE=>?_);rcases R2.out with⟨rfl,hz⟩ | ⟨a,rfl,hga,hba,hne⟩
  .refine Gq S (fun asg body i p hh=>hh.get (n2+1)=some (.loop .ready none 0 ts [33,34] asg body n2)/\hh.get n2=some .dfr/\hh.get bx=some (.cells [.str w])/\hh.get c5=some (.cells [.ref o 0])/\hh.get c8=some (.cells [.int .i64 (0:Nat)])/\hh.get o=some (.cells [.str w,.int .i64 s.pos,.ref tb 0,.sl0,cv])) (fun t=>t=n2+1) w R.wl aa (fun t ht=>by omega) (fun t ht=>.inl om) ?j0 (fun i p hh hj=>hj.2.2.1) ?jq ?jr ?jQ
   case j0=>
    have ar:=(O c5 om).trans g5;have a6:=R.on a1;have ab:=(O o om).trans R.obj;refine⟨zc,zc,y1 ah,y1 ag,y1 a7,y1 ab⟩
   case jq=>
    rintro i p hh hh' ⟨k1,k2,k3,k4,k5,k6⟩ hk;have a6:=R.on a1;exact⟨(hk _ om).trans k1,(hk _ om).trans k2,(hk _ om).trans k3,(hk _ om).trans k4,(hk _ om).trans k5,(hk _ om).trans k6⟩
   case jr=>
    rintro i p n3 h3 hle3 hl3 hi ⟨jl,jd,jx,j5,j8,jo⟩;refine fI.mk2 ap hE dc dc jl (by rfl) ?_;refine aW ?_;refine z1 @qX.eq_1 ?_;refine⟨jl,aW ?_⟩;refine zz ?_;refine qCP [] [] kr ?_;refine z3 j8 j5 jo ?_;intro n' ae ad
    (repeat' (first | assumption | rfl | refine And.intro ?_ ?_))
   case jQ=>
    rintro p n3 h3 hle3 hl3 ⟨jl,jd,jx,j5,j8,jo⟩;refine⟨_,_,_,_,_,_,_,jl,by decide,?_⟩;refine bZ.code (aW ?_);refine z2 j5 jo ?_;refine⟨y1 jd,.inl om,?_⟩;show gS Tryz.prog Gl [.tmp 2,.tmp 3,.tmp 4] false _ _ .ret _ n3 _;refine zz ?_;exact qC9<|.inl ⟨_,_,hok,rfl,.inl ⟨rfl,by rw[hz,qP]⟩,by rw[hz,qP];simp,by rw[hz,qP];decide⟩
  .have ac:a<c5:=hac a _ rfl;have a6:=R.on a1;have ay:=R.outNe rfl;have b3:=Ne.symm ay;have az:=R.bo;refine Gq S (fun asg body i p hh=>∃ done rest:List Tok,hh.get (n2+1)=some (.loop .ready none 0 ts [33,34] asg body n2)/\hh.get n2=some .dfr/\hh.get bx=some (.cells [.str w])/\hh.get c5=some (.cells [.ref o 0])/\hh.get c8=some (.cells [.int .i64 done.length])/\hh.get o=some (.cells [.str w,.int .i64 s.pos,.ref tb 0,.sl a 0 s.out.length,cv])/\
    hh.get a=some (.arr 8 ((done++rest).map Tok.av))/\done.length+rest.length=s.out.length/\oC w 0 (1,1) s.out=done++zG w i p rest/\(∀ t ∈ done,eE t.d=true/\AV.one t.d=true)/\(∀ t ∈ rest,eE t.d=true/\AV.one t.d=true)) (fun t=>t=n2+1\/t=a\/t=c8) w R.wl aa (fun t ht=>by omega) (fun t ht=>.inr (.inl om)) ?j0 (fun i p hh ⟨done,rest,hj⟩=>hj.2.2.1) ?jq ?jr ?jQ
   case j0=>
    have ar:=(O c5 om).trans g5;have ab:=(O o om).trans R.obj;refine⟨[],s.out,zc,zc,y1 ah,y1 ag,by first | (exact y1 a7;done) | (refine z1 a7 ?_;done) | (refine z1 a7 ?_;rfl),y1 ab,by first | (exact y1 hga;done) | (refine z1 hga ?_;done) | (refine z1 hga ?_;rfl),by simp,by(unfold zG;simp),by simp,R.flat⟩
   case jq=>
    rintro i p hh hh' ⟨done,rest,k1,k2,k3,k4,k5,k6,k7,k8⟩ hk;exact⟨done,rest,(hk _ om).trans k1,(hk _ om).trans k2,(hk _ om).trans k3,(hk _ om).trans k4,(hk _ om).trans k5,(hk _ om).trans k6,(hk _ om).trans k7,k8⟩
   case jr=>
    rintro i p n3 h3 hle3 hl3 hi ⟨done,rest,jl,jd,jx,j5,j8,jo,ja,jn,jp,jf,jf2⟩;refine fI.mk2 ap hE dc dc jl (.inl rfl) ?_;refine aW ?_;refine z1 @qX.eq_1 ?_;refine⟨jl,aW ?_⟩;refine zz ?_;refine qCP [] [] kr ?_;cases rest with
    |nil=>
     have b2:done.length=s.out.length:=(by simpa using jn);refine z3 j8 j5 jo ?_;intro n' ae ad;refine⟨done,[],?_⟩
     (repeat' (first | assumption | rfl | exact jp.trans (by rw[Lr,Lr]) | refine And.intro ?_ ?_))
    |cons t r=>
     have b2:done.length<s.out.length:=(by rw[<- jn];simp);have al:=(jf2 t (List.mem_cons_self ..)).2;rw[List.map_append,List.map_cons]at ja;have a8:(done.map Tok.av).length=done.length:=List.length_map _;have a4:∀ X:AV,(done.map Tok.av++X::r.map Tok.av)[done.length]?=some X:=fun X=>(by rw[List.getElem?_append_right (by rw[a8];exact Nat.le_refl _),a8,Nat.sub_self];rfl);have an:∀ X Y:AV,(done.map Tok.av++X::r.map Tok.av).set done.length Y=done.map Tok.av++Y::r.map Tok.av:=fun X Y=>(by rw[List.set_append_right _ _ (by rw[a8];exact Nat.le_refl _),a8,Nat.sub_self];rfl);by_cases ao:t.at'=i
     .refine z8 j8 j5 jo ja a4 @qCU @qBz @qB0 ?_;refine qCP [(9,16),(13,16)] [] kr ?_;refine zS j8 j5 jo ja a4 an al @qCU @qBz @qB0 ?_;intro n' ae ad;have b1:=jf2 t (List.mem_cons_self ..);have bh:done.length+1+r.length=s.out.length:=(by rw[<- jn,List.length_cons];omega);have be:∀ t_1 ∈ done++[{t with line:=p.1,col:=p.2}],eE t_1.d=true/\AV.one t_1.d=true:=fun u hu=>by
       rcases List.mem_append.1 hu with hu | hu
       .exact jf u hu
       .rw[List.mem_singleton.1 hu];exact b1
      have bg:∀ t ∈ r,eE t.d=true/\AV.one t.d=true:=fun u hu=>jf2 u (List.mem_cons_of_mem _ hu);refine⟨done++[{t with line:=p.1,col:=p.2}],r,?_⟩;rw[List.append_assoc,List.length_append];simp only[List.singleton_append,List.length_singleton,List.map_append,List.map_cons,Int.natCast_add]
      (repeat' (first | assumption | trivial | rfl | exact jp.trans (by rw[FY hi ao,List.append_assoc];rfl) | refine And.intro ?_ ?_))
     .refine z8 j8 j5 jo ja a4 @qCU @qBz @qB0 ?_;intro n' ae ad;refine⟨done,t::r,?_⟩;rw[List.map_append,List.map_cons]
      (repeat' (first | assumption | rfl | exact jp.trans (by rw[MP hi ao]) | refine And.intro ?_ ?_))
   case jQ=>
    rintro p n3 h3 hle3 hl3 ⟨done,rest,jl,jd,jx,j5,j8,jo,ja,jn,jp,jf,jf2⟩;refine⟨_,_,_,_,_,_,_,jl,by decide,?_⟩;refine bZ.code (aW ?_);refine z2 j5 jo ?_;refine⟨y1 jd,.inl om,?_⟩;show gS Tryz.prog Gl [.tmp 2,.tmp 3,.tmp 4] false _ _ .ret _ n3 _;have ak:s.out.length=(List.map Tok.av (done++rest)).length:=(by simp[jn]);refine x1 ja ?_;have a9:∀ t ∈ done++rest,eE t.d=true/\AV.one t.d=true:=fun t ht=>(List.mem_append.1 ht).elim (jf t) (jf2 t);refine qCJ (fun x hx=>?_) ?_
    .obtain⟨t,ht,rfl⟩:=List.mem_map.1 (List.mem_of_mem_take hx);have hd:=(a9 t ht).1;simp only[lG,Tok.av,Tok.cells,jG,hd]
     rfl
    .have U:zG w (w.length+1) p rest=rest:=(by unfold zG;rw[if_neg om]);refine zz ?_;refine qC9<|.inl ⟨_,_,hok,rfl,.inr ⟨false,?_⟩,?_,?_⟩
     .rw[jp,U,ak,List.drop_zero,List.take_length]
     .rw[jp,U];exact a9
     .rw[jp,U,List.length_append,jn];exact M
end
section
variable {Gl:qC6}{Gm:qC7}{Kp:qC8}(S:Seat Gm Kp)
def Qx (w:List UInt8):Nat->Option Nat->Nat->List (List UInt8)
 |0,_,_=>[]
 |f+1,st,i=>if i<w.length then
   (if yE (bG w i) then (match st with
    |some s=>((w.drop s).take (i-s))::Qx w f none (i+1)
    |none=>Qx w f none (i+1))
   else (match st with
    |some s=>Qx w f (some s) (i+1)
    |none=>Qx w f (some i) (i+1)))
  else match st with
   |some s=>[w.drop s]
   |none=>[]
def bQ (w:List UInt8):List (List UInt8):=Qx w (w.length+1) none 0
def SQ:Option Nat->Int
 |some s=>s
 |none=>-1
include S
theorem vT (w:List UInt8){n:Nat}{h:Hp}{B:Nat->Prop}{Q:aS->Nat->Hp->Prop}(hQ:∀ c n' h',n<=c->c<n'->aE n' h'->h'.get c=some (.cells [.str w])->(∀ t,t<n->h'.get t=h.get t)->Q (.returned (.fn (.func 326) [] [.ref c 0])) n' h'):aG Tryz.prog Gl Gm Kp 274 [.str w] n h B Q:=by
 refine aG.mono (B:=fun _=>False) (Q:=fun e n' h'=>∃ c,e=.returned (.fn (.func 326) [] [.ref c 0])/\n<=c/\h'.get c=some (.cells [.str w])) ?_ (fun _ _ h=>h.elim) (fun e n' h' a b c d=>by obtain⟨x,rfl,h1,h2⟩:=d;exact hQ x n' h' h1 (aN b h2) b h2 fun t M=>c t M id);refine qB6 S 4 [.tmp 2] Tryz.func274 fun _ _=>?_;refine zz ?_;exact qC9<|⟨n,rfl,by omega,zc⟩
theorem Qp (hA:Gl 1=some dL)(w:List UInt8)(hw:w.length<1000000000)(hasc:uH w=true)(l c:Nat)(J:Nat->Hp->Prop){n:Nat}{h:Hp}{W:Nat->Prop}(hJ0:J 0 h)(hJc:∀ i hh,J i hh->hh.get c=some (.cells [.str w]))(hWn:∀ t,W t->t<n)
  (hJq:∀ i hh hh',J i hh->(∀ t,t<n->hh'.get t=hh.get t)->J i hh')
  (hr:∀ i (hi:i<(bQ w).length) n1 h1,n<=n1->aE n1 h1->J i h1->fI Tryz.prog Gl Gm Kp l [.str (bQ w)[i]] n1 h1 W fun e n2 h2=>e=.returned (.bool true)/\J (i+1) h2)
  {Q:aS->Nat->Hp->Prop} (hQ:∀ n' h',n<=n'->aE n' h'->J (bQ w).length h'->Q (.returned (.tup [])) n' h'):aG Tryz.prog Gl Gm Kp 326 [.fn (.yield l) [] [],.ref c 0] n h W Q:=by
 refine qB6 S 56 [] Tryz.func326 fun _ _=>?_;have a9:=hJc _ _ hJ0;refine z1 a9 ?_;refine qCu (fun f E nn hh=>∃(i:Nat) (st:Option Nat) (done:List (List UInt8)),E=[(0,.fn (.yield l) [] []),(1,.ref c 0),(3,.int .i64 (SQ st)),(4,.int .i64 i)]/\w.length+1<=i+f/\i<=w.length/\(∀ s,st=some s->s<=i)/\n<=nn/\J done.length hh/\done++Qx w f st i=bQ w) (w.length+1) ⟨0,none,[],rfl,by omega,by omega,(fun s h=>by cases h),by omega,hJ0,rfl⟩ ?_
 .rintro f E nn hh hlk hBk ⟨i,st,done,rfl,hf,hi,hst,hnn,hJ,hd⟩;have O:=hJc _ _ hJ;cases f with
  |zero=>omega
  |succ f=>
   rw[Qx.eq_def]at hd;simp only at hd;by_cases a3:i<w.length
   .have hg:w[i]?=some w[i]:=List.getElem?_eq_getElem a3;have a8:bG w i=w[i]:=(by unfold bG;rw[List.getD_eq_getElem?_getD,hg];rfl);have ae:w[i].toNat<128:=by
     have:=(List.all_eq_true.1 hasc) w[i] (List.getElem_mem a3);simpa using this
    have a2:=uM w[i].toNat om;have U:=Rq hA w[i].toNat om;rw[if_pos a3,a8]at hd;cases hsp:yE w[i] with
    |true=>
     rw[pA hsp]at U;rw[hsp]at hd;replace hd:=nt hd;cases st with
     |none=>
      simp -dsimp (disch:=first | assumption | omega) only [go_sem,Nat.reduceLT,Nat.reduceBEq,Nat.reduceAdd,Nat.reduceSub,Nat.reduceLeDiff,Nat.reduceEqDiff,↓reduceIte,beq_true,beq_false,decide_eq_true,decide_eq_false,O,hg,a2,U,SQ];refine aU.mq f ⟨i+1,none,done,rfl,by omega,by omega,(fun s h=>by cases h),hnn,hJ,hd⟩
     |some s=>
      have a7:=hst s rfl;have M:done.length<(bQ w).length:=(by rw[<- hd];simp);have hx:(bQ w)[done.length]'M=((w.drop s).take (i-s)):=by
       have a1:(bQ w)[done.length]?=some ((w.drop s).take (i-s)):=(by rw[<- hd,List.getElem?_append_right (Nat.le_refl _),Nat.sub_self];rfl);rw[List.getElem?_eq_getElem M]at a1;exact Option.some.inj a1
      have Y:=hr done.length M nn hh om hlk hJ;rw[hx]at Y;simp -dsimp (disch:=first | assumption | omega) only [go_sem,Nat.reduceLT,Nat.reduceBEq,Nat.reduceAdd,Nat.reduceSub,Nat.reduceLeDiff,Nat.reduceEqDiff,↓reduceIte,beq_true,beq_false,decide_eq_true,decide_eq_false,O,hg,a2,U,SQ];refine qT.mk (Y.mono (fun t _ ht=>.inr ht) fun e n2 h2 a6 ac ab q=>?_);obtain⟨rfl,a4⟩:=q;refine zz ?_;refine aU.mq f ⟨i+1,none,done++[(w.drop s).take (i-s)],rfl,by omega,by omega,(fun s h=>by cases h),by omega,by simpa using a4,by rw[List.append_assoc];exact hd⟩
    |false=>
     rw[sT hsp]at U;rw[hsp]at hd;replace hd:=nf hd;cases st with
     |none=>
      simp -dsimp (disch:=first | assumption | omega) only [go_sem,Nat.reduceLT,Nat.reduceBEq,Nat.reduceAdd,Nat.reduceSub,Nat.reduceLeDiff,Nat.reduceEqDiff,↓reduceIte,beq_true,beq_false,decide_eq_true,decide_eq_false,O,hg,a2,U,SQ];refine aU.mq f ⟨i+1,some i,done,rfl,by omega,by omega,(fun s h=>by cases h;omega),hnn,hJ,hd⟩
     |some s=>
      have a7:=hst s rfl;simp -dsimp (disch:=first | assumption | omega) only [go_sem,Nat.reduceLT,Nat.reduceBEq,Nat.reduceAdd,Nat.reduceSub,Nat.reduceLeDiff,Nat.reduceEqDiff,↓reduceIte,beq_true,beq_false,decide_eq_true,decide_eq_false,O,hg,a2,U,SQ];refine aU.mq f ⟨i+1,some s,done,rfl,by omega,by omega,(fun s h=>by cases h;omega),hnn,hJ,hd⟩
   .rw[if_neg a3]at hd;cases st with
    |none=>
     simp -dsimp (disch:=first | assumption | omega) only [go_sem,Nat.reduceLT,Nat.reduceBEq,Nat.reduceAdd,Nat.reduceSub,Nat.reduceLeDiff,Nat.reduceEqDiff,↓reduceIte,beq_true,beq_false,decide_eq_true,decide_eq_false,O,SQ];exact qCI fun n' ad a5=>hQ _ _ om a5 (by rw[<- hd,List.append_nil];exact hJ)
    |some s=>
     have a7:=hst s rfl;have aa:(w.drop s).take (w.length-s)=w.drop s:=List.take_of_length_le (by rw[List.length_drop];exact Nat.le_refl _);have M:done.length<(bQ w).length:=(by rw[<- hd];simp);have hx:(bQ w)[done.length]'M=(w.drop s):=by
      have a1:(bQ w)[done.length]?=some (w.drop s):=(by rw[<- hd,List.getElem?_append_right (Nat.le_refl _),Nat.sub_self];rfl);rw[List.getElem?_eq_getElem M]at a1;exact Option.some.inj a1
     have Y:=hr done.length M nn hh om hlk hJ;rw[hx]at Y;simp -dsimp (disch:=first | assumption | omega) only [go_sem,Nat.reduceLT,Nat.reduceBEq,Nat.reduceAdd,Nat.reduceSub,Nat.reduceLeDiff,Nat.reduceEqDiff,↓reduceIte,beq_true,beq_false,decide_eq_true,decide_eq_false,O,SQ,aa];refine qT.mk (Y.mono (fun t _ ht=>.inr ht) fun e n2 h2 a6 ac ab q=>?_);obtain⟨rfl,a4⟩:=q;refine zz ?_;exact qCI fun n' ad a5=>hQ _ _ om a5 (by rw[<- hd];simpa using a4)
end
section
variable {Gl:qC6}{Gm:qC7}{Kp:qC8}(S:Seat Gm Kp)
def Le (s:List UInt8)(c:UInt8):Int:=match s.findIdx? (·==c) with | some i=>i | none=>-1
def Js (Gl:qC6)(Gm:qC7)(Kp:qC8):Prop:=∀ s c,cD Gl Gm Kp 210 [.str s,.int .u8 c.toNat] (.int .i64 (Le s c))
def NM:Nat->UInt8->List UInt8->List (List UInt8)
 |0,_,_=>[]
 |f+1,c,s=>match s.findIdx? (·==c) with
  |some i=>s.take i::NM f c (s.drop (i+1))
  |none=>[s]
def gT (c:UInt8)(s:List UInt8):List (List UInt8):=NM (s.length+1) c s
theorem Qr {s:List UInt8}{c:UInt8}{i:Nat}(h:s.findIdx? (·==c)=some i):i<s.length:=(List.findIdx?_eq_some_iff_getElem.1 h).1
include S
theorem MG (hI:Js Gl Gm Kp)(s:List UInt8)(c:UInt8):cD Gl Gm Kp 78 [.str s,.str [c]] (.int .i64 (Le s c)):=by
 have O:cD Gl Gm Kp 126 [.str s,.str [c]] (.int .i64 (Le s c)):=by
  refine cD.fin fun n h hl=>qB6 S 143 [.tmp 4] Tryz.func126 fun hB _=>?_;have M:([c]:List UInt8).length=1:=rfl;have hg:([c]:List UInt8)[0]?=some c:=rfl;have Y:inside 0 1=some 0:=rfl;cases hs:[c]==s with
  |true=>
   have:[c]=s:=(by simpa using hs);subst this;refine z2 M hs ?_;refine qCI fun _ _ _=>?_;simp[Le]
  |false=>
   refine z4 M hs hg Y ?_;refine qCK ((hI s c).use fun n1 h1 U M a1=>?_);refine zz ?_;exact qC9<|rfl
 refine cD.fin fun n h hl=>qB6 S 8 [.tmp 4] Tryz.func78 fun hB _=>?_;refine zz ?_;refine qCK (O.use fun n1 h1 U M a1=>?_);refine zz ?_;exact qC9<|rfl
theorem Ni (w p:List UInt8){n:Nat}{h:Hp}{B:Nat->Prop}{Q:aS->Nat->Hp->Prop}(hQ:∀ c1 c2 c3 n' h',n<=c1->n<=c2->n<=c3->c1≠c2->c3≠c2->aE n' h'->h'.get c1=some (.cells [.str p])->h'.get c2=some (.cells [.str w])->h'.get c3=some (.cells [.int .i64 0])->(∀ t,t<n->h'.get t=h.get t)->Q (.returned (.fn (.func 362) [] [.ref c1 0,.ref c2 0,.ref c3 0])) n' h'):aG Tryz.prog Gl Gm Kp 275 [.str w,.str p] n h B Q:=by
 refine aG.mono (B:=fun _=>False) (Q:=fun e n' h'=>∃ c1 c2 c3,e=.returned (.fn (.func 362) [] [.ref c1 0,.ref c2 0,.ref c3 0])/\n<=c1/\n<=c2/\n<=c3/\c1≠c2/\c3≠c2/\h'.get c1=some (.cells [.str p])/\h'.get c2=some (.cells [.str w])/\h'.get c3=some (.cells [.int .i64 0])) ?_ (fun _ _ h=>h.elim) (fun e n' h' a b c d=>by obtain⟨c1,c2,c3,rfl,M,O,U,q4,q5,q6,q7,q8⟩:=d;exact hQ c1 c2 c3 n' h' M O U q4 q5 b q6 q7 q8 fun t ht=>c t ht id);refine qB6 S 8 [.tmp 4] Tryz.func275 fun Y hl=>?_;refine zz ?_;refine qCK (aG.mono (B:=fun _=>False) (Q:=fun e n' h'=>e=.returned (.fn (.func 362) [] [.ref (n+1) 0,.ref n 0,.ref (n+1+1) 0])/\h'.get (n+1)=some (.cells [.str p])/\h'.get n=some (.cells [.str w])/\h'.get (n+1+1)=some (.cells [.int .i64 0])) ?_ (fun _ _ h=>h.elim) fun e n1 h1 _ _ _ q=>?_)
 .refine qB6 S 8 [.tmp 6] Tryz.func328 fun Y hl=>?_;refine zz ?_;exact qC9<|⟨rfl,zc,zc,zc⟩
 .obtain⟨rfl,M,O,U⟩:=q;refine zz ?_;exact qC9<|⟨n+1,n,n+1+1,rfl,by omega,by omega,by omega,by omega,by omega,M,O,U⟩
theorem BI (hI:Js Gl Gm Kp)(c:UInt8)(w:List UInt8)(hw:w.length<1000000000)(l c1 c2 c3:Nat)(J:Nat->Hp->Prop){n:Nat}{h:Hp}{W:Nat->Prop}(hJ0:J 0 h)(g1:h.get c1=some (.cells [.str [c]]))(g2:h.get c2=some (.cells [.str w]))(g3:h.get c3=some (.cells [.int .i64 0]))(hne:c1≠c2/\c3≠c2)
  (hJc:∀ i hh,J i hh->hh.get c1=some (.cells [.str [c]])/\hh.get c3=some (.cells [.int .i64 0])) (hWn:∀ t,W t->t<n) (hW2:¬W c2)
  (hJq:∀ i hh hh',J i hh->(∀ t,t<n->t≠c2->hh'.get t=hh.get t)->J i hh')
  (hr:∀ i (hi:i<(gT c w).length) n1 h1,n<=n1->aE n1 h1->J i h1->fI Tryz.prog Gl Gm Kp l [.str (gT c w)[i]] n1 h1 W fun e n2 h2=>e=.returned (.bool true)/\J (i+1) h2)
  {Q:aS->Nat->Hp->Prop} (hQ:∀ n' h',n<=n'->aE n' h'->J (gT c w).length h'->Q (.returned (.tup [])) n' h'):aG Tryz.prog Gl Gm Kp 362 [.fn (.yield l) [] [],.ref c1 0,.ref c2 0,.ref c3 0] n h (fun t=>W t\/t=c2) Q:=by
 refine qB6 S 52 [] Tryz.func362 fun _ hl=>?_;have al:=aN hl g1;have an:=aN hl g2;have ao:=aN hl g3;refine z1 @g1 ?_;refine qCu (fun f E nn hh=>∃(s:List UInt8) (done:List (List UInt8)),E=[(0,.fn (.yield l) [] []),(1,.ref c1 0),(2,.ref c2 0),(3,.ref c3 0)]/\s.length+1<=f/\s.length<=w.length/\n<=nn/\J done.length hh/\hh.get c2=some (.cells [.str s])/\done++NM f c s=gT c w) (w.length+1) ⟨w,[],rfl,by omega,by omega,by omega,hJ0,g2,rfl⟩ ?_
 .rintro f E nn hh hlk hBk ⟨s,done,rfl,hf,hsw,hnn,hJ,gs,hd⟩;obtain⟨a4,ab⟩:=hJc _ _ hJ;cases f with
  |zero=>omega
  |succ f=>
   rw[NM]at hd;refine z2 gs a4 ?_;refine qCK ((MG S hI s c).use fun n3 h3 _ a9 a1=>?_);have a2:=(a1 c2 om).trans gs;have aj:=(a1 c1 om).trans a4;have a6:=(a1 c3 om).trans ab;have a7:=hJq _ _ _ hJ fun t ht _=>a1 t om;unfold Le;cases hx:s.findIdx? (·==c) with
   |some i=>
    have hi:=Qr hx;rw[hx]at hd;simp only at hd;have ak:¬((i:Int)<0):=om;have M:done.length<(gT c w).length:=(by rw[<- hd];simp);have a3:(gT c w)[done.length]'M=(s.take i):=by
     have U:(gT c w)[done.length]?=some ((s.take i)):=(by rw[<- hd,List.getElem?_append_right (Nat.le_refl _),Nat.sub_self];rfl);rw[List.getElem?_eq_getElem M]at U;exact Option.some.inj U
    have O:=hr done.length M n3 h3 om a9 a7;rw[a3]at O;refine z3 a2 a6 @Int.add_zero ?_;refine qT.mk (O.mono (fun t _ ht=>.inr (.inl ht)) fun e n2 h2 aa ah a8 q=>?_);obtain⟨rfl,Y⟩:=q;have ac:=(a8 c2 om hW2).trans a2;have a5:=(hJc _ _ Y).1;have ag:([c]:List UInt8).length=1:=rfl;have ad:(s.drop (i+1)).take (s.length-(i+1))=s.drop (i+1):=List.take_of_length_le (by rw[List.length_drop];exact Nat.le_refl _);refine z4 ac a5 ag ad ?_;refine aU.mq f ⟨s.drop (i+1),done++[s.take i],rfl,by rw[List.length_drop];omega,by rw[List.length_drop];omega,by omega,?_,zc,by rw[List.append_assoc];exact hd⟩;refine hJq _ _ _ (by simpa using Y) fun t ht ai=>?_;rw[qCf,if_neg ai]
   |none=>
    rw[hx]at hd;simp only at hd;have M:done.length<(gT c w).length:=(by rw[<- hd];simp);have a3:(gT c w)[done.length]'M=s:=by
     have U:(gT c w)[done.length]?=some (s):=(by rw[<- hd,List.getElem?_append_right (Nat.le_refl _),Nat.sub_self];rfl);rw[List.getElem?_eq_getElem M]at U;exact Option.some.inj U
    have O:=hr done.length M n3 h3 om a9 a7;rw[a3]at O;refine z1 a2 ?_;refine qT.mk (O.mono (fun t _ ht=>.inr (.inl ht)) fun e n2 h2 aa ah a8 q=>?_);obtain⟨rfl,Y⟩:=q;refine zz ?_;exact qCI fun n' _ ae=>hQ _ _ om ae (by rw[<- hd];simpa using Y)
end
section
variable {Gl:qC6}{Gm:qC7}{Kp:qC8}
def Nl:AM aS:=.new (.map dF) fun cm=>.new (.map fR) fun wm=>.new (.cells [.map cm,.map wm,.int .i64 3]) fun tb=>.ret (.returned (.ref tb 0))
def Tj (args:List AV):C aS:=match args with
 |[]=>C.am Nl
 |_=>C.fail
theorem HQ (hg:Gm 202=some Tj):mE Gl Gm Kp:=by
 intro n h Q Y;refine⟨fun hl=>?_⟩;have r:dS (fun F=>fT Tryz.prog Gl Gm Kp F 202 []) n h (fun t=>n<=t) fun v n' h'=>∀ M,n'<=M->aE M h'->Q v M h':=by
  refine qBi (w:=fun _=>C.am Nl) (dS.am hl (fun t U=>U) ?_) fun F=>?_
  .simp only[Nl,mV,xD];intro M _ O;refine Y (n+2) n (n+1) M _ om O ⟨by omega,by omega⟩ ⟨by omega,by omega⟩ ⟨by omega,by omega⟩ (zc) (zc) (zc) fun t U=>zc
  .conv=>lhs;unfold fT
   rw[hg]
   rfl
 obtain⟨F,out,e,fr,wr,q⟩:=r;exact⟨F,out,e,fr,fun t a b=>absurd (wr t a) om,q⟩
end
section
variable {Gl:qC6}{Gm:qC7}{Kp:qC8}(S:Seat Gm Kp)
def lN:List UInt8:=[65,83,83,85,77,69,32,65,83,83,85,77,80,84,73,79,78,32,65,88,73,79,77,32,66,79,79,76,69,65,78,32,67,65,83,69,32,67,72,79,79,83,69,32,67,79,78,83,84,65,78,84,32,67,79,78,83,84,65,78,84,83,32,68,79,77,65,73,78,32,69,76,83,69,32,69,78,65,66,76,69,68,32,69,88,67,69,80,84,32,69,88,84,69,78,68,83,32,70,65,76,83,69,32,73,70,32,73,78,32,73,78,83,84,65,78,67,69,32,76,65,77,66,68,65,32,76,69,84,32,76,79,67,65,76,32,77,79,68,85,76,69,32,79,84,72,69,82,32,82,69,67,85,82,83,73,86,69,32,83,70,95,32,83,84,82,73,78,71,32,83,85,66,83,69,84,32,84,72,69,78,32,84,72,69,79,82,69,77,32,84,82,85,69,32,85,78,67,72,65,78,71,69,68,32,85,78,73,79,78,32,86,65,82,73,65,66,76,69,32,86,65,82,73,65,66,76,69,83,32,87,70,95,32,87,73,84,72]
def eH:List UInt8:=[40,32,41,32,91,32,93,32,123,32,125,32,60,60,32,62,62,32,93,95,32,62,62,95,32,44,32,58,32,59,32,46,32,95,32,33,32,64,32,39,32,61,61,32,124,45,62,32,45,62,32,60,45,32,58,61,32,46,46,32,46,46,46,32,124,32,124,45,32,45,124,32,61,62,32,61,32,35,32,60,32,62,32,43,32,45,32,42,32,47,32,37,32,94,32,92,100,105,118,32,64,64,32,58,62,32,92,32,92,105,110,32,92,110,111,116,105,110,32,92,115,117,98,115,101,116,101,113,32,92,115,117,112,115,101,116,101,113,32,92,65,32,92,69,32,92,65,65,32,92,69,69,32,91,93,32,60,62,32,126,62,32,92,99,100,111,116,32,92,115,113,115,117,98,115,101,116,101,113,32,92,115,113,99,117,112,32,92,115,113,99,97,112,32,92,112,114,101,99,32,92,115,117,99,99,32,92,115,105,109,32,92,115,116,97,114,32,92,98,117,108,108,101,116,32,43,43,32,45,45,32,42,42,32,47,47,32,124,124,32,38,32,38,38,32,36,32,36,36,32,63,63,32,37,37,32,35,35,32,94,94]
def gK:List UInt8:=[47,92,32,92,108,97,110,100,124,92,47,32,92,108,111,114,124,126,32,92,108,110,111,116,32,92,110,101,103,124,60,61,62,32,92,101,113,117,105,118,124,35,32,47,61,124,60,61,32,61,60,32,92,108,101,113,124,62,61,32,92,103,101,113,124,92,99,117,112,32,92,117,110,105,111,110,124,92,99,97,112,32,92,105,110,116,101,114,115,101,99,116,124,92,88,32,92,116,105,109,101,115,124,92,111,32,92,99,105,114,99,124,40,43,41,32,92,111,112,108,117,115,124,40,45,41,32,92,111,109,105,110,117,115,124,40,46,41,32,92,111,100,111,116]
def sN (ws:List (List UInt8)):List (List UInt8×AV):=ws.foldl (fun m s=>tS s (.bool true) m) []
def iE (ws:List (List UInt8)):List (List UInt8×AV):=ws.foldl (fun m s=>tS s (.str s) m) []
def putRow (m:List (List UInt8×AV))(row:List UInt8):List (List UInt8×AV):=(fM row).foldl (fun m s=>tS s (.str ((fM row).headD [])) m) m
theorem IJ:Ro (sN (bQ lN))=fR:=kr
theorem EJ:Ro ((gT 124 gK).foldl putRow (iE (bQ eH)))=dF:=kr
theorem Nf:((gT 124 gK).all fun r=>pR r&&!(fM r).isEmpty)=true:=kr
theorem Pw:uH lN=true:=kr
theorem Ha:uH eH=true:=kr
theorem OH (args:List AV):aT Tryz.prog 326 args=.ret (.enter 326 args):=aH Tryz.func326 rfl kr args
theorem WI (args:List AV):aT Tryz.prog 362 args=.ret (.enter 362 args):=aH Tryz.func362 rfl kr args
include S
theorem Ax (hA:Gl 1=some dL){asg body:Code}{ts:List AV}{p1:Tmp}(J:Code->Code->Nat->Hp->Prop)(W:Nat->Prop)(w:List UInt8)(hw:w.length<1000000000)(hasc:uH w=true){c n:Nat}{h:Hp}{B:Nat->Prop}(hWn:∀ t,W t->t<n+2)(hWB:∀ t,W t->B t)
  (hJ0:J asg body 0 ((n+1,.loop .ready none 0 ts [p1] asg body n)::(n,.dfr)::h)) (hJc:∀ i hh,J asg body i hh->hh.get c=some (.cells [.str w]))
  (hJq:∀ i hh hh',J asg body i hh->(∀ t,t<n+2->hh'.get t=hh.get t)->J asg body i hh')
  (hr:∀ i (hi:i<(bQ w).length) n1 h1,n+2<=n1->aE n1 h1->J asg body i h1->fI Tryz.prog Gl Gm Kp (n+1) [.str (bQ w)[i]] n1 h1 W fun e n2 h2=>e=.returned (.bool true)/\J asg body (i+1) h2)
  {Q:aS->Nat->Hp->Prop} (hQ:∀ n' h',n+2<=n'->aE n' h'->J asg body (bQ w).length h'->Q (.returned (.tup [])) n' h') :
  aG Tryz.prog Gl Gm Kp 326 ([]++[.fn (.yield (n+1)) [] []]++[.ref c 0]) (n+2) ((n+1,.loop .ready none 0 ts #[p1].toList asg body n)::(n,.dfr)::h) B Q:=
 (Qp S hA w hw hasc (n+1) c (J asg body) hJ0 hJc hWn hJq hr hQ).mono (fun t _ M=>hWB t M) fun _ _ _ _ _ _ h=>h
theorem BJ (hI:Js Gl Gm Kp)(c:UInt8){asg body:Code}{ts:List AV}{p1:Tmp}(J:Code->Code->Nat->Hp->Prop)(W:Nat->Prop)(w:List UInt8)(hw:w.length<1000000000){c1 c2 c3 n:Nat}{h:Hp}{B:Nat->Prop}(hWn:∀ t,W t->t<n+2)(hWB:∀ t,W t->B t)(hB2:B c2)(hc:c1<n/\c2<n/\c3<n)
  (g1:h.get c1=some (.cells [.str [c]])) (g2:h.get c2=some (.cells [.str w])) (g3:h.get c3=some (.cells [.int .i64 0])) (hne:c1≠c2/\c3≠c2)
  (hJ0:J asg body 0 ((n+1,.loop .ready none 0 ts [p1] asg body n)::(n,.dfr)::h)) (hJc:∀ i hh,J asg body i hh->hh.get c1=some (.cells [.str [c]])/\hh.get c3=some (.cells [.int .i64 0])) (hW2:¬W c2)
  (hJq:∀ i hh hh',J asg body i hh->(∀ t,t<n+2->t≠c2->hh'.get t=hh.get t)->J asg body i hh')
  (hr:∀ i (hi:i<(gT c w).length) n1 h1,n+2<=n1->aE n1 h1->J asg body i h1->fI Tryz.prog Gl Gm Kp (n+1) [.str (gT c w)[i]] n1 h1 W fun e n2 h2=>e=.returned (.bool true)/\J asg body (i+1) h2)
  {Q:aS->Nat->Hp->Prop} (hQ:∀ n' h',n+2<=n'->aE n' h'->J asg body (gT c w).length h'->Q (.returned (.tup [])) n' h') :
  aG Tryz.prog Gl Gm Kp 362 ([]++[.fn (.yield (n+1)) [] []]++[.ref c1 0,.ref c2 0,.ref c3 0]) (n+2) ((n+1,.loop .ready none 0 ts #[p1].toList asg body n)::(n,.dfr)::h) B Q:=
 (BI S hI c w hw (n+1) c1 c2 c3 (J asg body) hJ0 (by rw[aX _ _ _ _ om,aX _ _ _ _ om];exact g1) (by rw[aX _ _ _ _ om,aX _ _ _ _ om];exact g2) (by rw[aX _ _ _ _ om,aX _ _ _ _ om];exact g3) hne hJc hWn hW2 hJq hr hQ).mono (fun t _ M=>M.elim (hWB t) fun e=>e ▸ hB2) fun _ _ _ _ _ _ h=>h
end
section
variable {Gl:qC6}{Gm:qC7}{Kp:qC8}(S:Seat Gm Kp)
def DF (n0:Nat)(ds:List mP)(ex:mQ)(E:Env)(n:Nat)(h:Hp):Prop:=ex=.normal/\∃ d1 d2 d3 c1 tb cm wm,ds=[.collected d3,.collected d2,.collected d1]/\lk E 1=some (.ref c1 0)/\h.get c1=some (.cells [.ref tb 0])/\h.get tb=some (.cells [.map cm,.map wm,.int .i64 0])/\h.get cm=some (.map dF)/\h.get wm=some (.map fR)/\
 h.get d1=some .dfr/\h.get d2=some .dfr/\h.get d3=some .dfr/\n0<=c1/\n0<=tb/\n0<=cm/\n0<=wm/\n0<=d1/\n0<=d2/\n0<=d3/\n0<=n/\d1<d2/\d2<d3
include S
theorem NP (hA:Gl 1=some dL)(hI:Js Gl Gm Kp){c:Code}(hc:Tryz.f202.body=some c){n:Nat}{h:Hp}:bZ Tryz.prog Gl Gm Kp 70 [] (yC 5 c) [] n h (fun t=>n<=t\/False) (DF n):=by
 obtain rfl:=Option.some.inj hc;refine bZ.split (fun E n1 h1=>E=[(1,.ref (n+1+1+1) 0)]/\n1=n+4/\h1.get (n+1+1+1)=some (.cells [.ref (n+1+1) 0])/\h1.get (n+1+1)=some (.cells [.map n,.map (n+1),.int .i64 0])/\h1.get n=some (.map [])/\h1.get (n+1)=some (.map [])) 2 _ ?_ ?_
 .refine zz ?_;exact fO.mq ⟨rfl,rfl,zc,zc,zc,zc⟩
 .rintro E n1 h1 hle1 hl1 hB ⟨rfl,rfl,g1,gt,gc,gw⟩;clear hc;refine bZ.seq (bZ.seq (bZ.code (aW ?_)));refine zz ?_;refine qCK (vT S lN fun bx n2 h2 c6 bp c7 ar a3=>?_);refine zz ?_;have Bg:=(a3 _ om).trans g1;have b4:=(a3 _ om).trans gt;have au:=(a3 _ om).trans gc;have b7:=(a3 _ om).trans gw;refine bZ.block (bZ.range rfl OH fun ts bi hE=>?_);refine Ax S hA (fun asg body j hh=>hh.get (n2+1)=some (.loop .ready none 0 ts [14] asg body n2)/\hh.get n2=some .dfr/\hh.get bx=some (.cells [.str lN])/\hh.get (n+1+1+1)=some (.cells [.ref (n+1+1) 0])/\hh.get (n+1+1)=some (.cells [.map n,.map (n+1),.int .i64 0])/\hh.get n=some (.map [])/\hh.get (n+1)=some (.map (Ro (sN ((bQ lN).take j)))))
   (fun t=>t=n2+1\/t=n+1) lN dc Pw (fun t ht=>by omega) (fun t ht=>.inr (.inl om)) ?j0 (fun j hh hj=>hj.2.2.1) ?jq ?jr ?jQ
  case j0=>exact⟨zc,zc,y1 ar,y1 @Bg,y1 b4,y1 au,by(refine z1 b7 ?_;rfl)⟩
  case jq=>
   rintro j hh hh' ⟨k1,k2,k3,k4,k5,k6,k7⟩ hk;exact⟨(hk _ om).trans k1,(hk _ om).trans k2,(hk _ om).trans k3,(hk _ om).trans k4,(hk _ om).trans k5,(hk _ om).trans k6,(hk _ om).trans k7⟩
  case jr=>
   rintro j hj n3 h3 hle3 hl3 ⟨k1,k2,k3,k4,k5,k6,k7⟩;have U:=Cl (bQ lN)[j] (.bool true) (sN ((bQ lN).take j));have M:sN ((bQ lN).take (j+1))=tS (bQ lN)[j] (.bool true) (sN ((bQ lN).take j)):=lW _ _ _ _ hj;refine fI.mk1 bi hE dc k1 (.inl rfl) ?_;refine aW ?_;refine zz ?_;refine⟨k1,aW ?_⟩;refine z4 k4 k5 k7 U ?_;intro n' ah ag;rw[M]
   (repeat' (first | assumption | trivial | rfl | refine And.intro ?_ ?_))
  case jQ=>
  rintro n3 h3 hle3 hl3 ⟨k1,k2,k3,k4,k5,k6,k7⟩;rw[List.take_length,IJ]at k7;refine⟨_,_,_,_,_,_,_,k1,by decide,?_⟩;refine bZ.seq (bZ.seq (bZ.code (aW ?_)));refine zz ?_;refine qCK (vT S eH fun al n5 h5 bq bc c8 ab a2=>?_);refine zz ?_;have ao:=(a2 (n+1+1+1) om).trans ((y1 k4):_=some (aK.cells [.ref (n+1+1) 0]));have b5:=(a2 (n+1+1) om).trans ((y1 k5):_=some (aK.cells [.map n,.map (n+1),.int .i64 0]));have aw:=(a2 n om).trans ((y1 k6):_=some (aK.map []));have b8:=(a2 (n+1) om).trans ((y1 k7):_=some (aK.map fR));have ay:=(a2 n2 om).trans ((y1 k2):_=some aK.dfr);refine bZ.block (bZ.range rfl OH fun bl aj ba=>?_);refine Ax S hA (fun asg body j hh=>hh.get (n5+1)=some (.loop .ready none 0 bl [21] asg body n5)/\hh.get n5=some .dfr/\hh.get al=some (.cells [.str eH])/\hh.get (n+1+1+1)=some (.cells [.ref (n+1+1) 0])/\hh.get (n+1+1)=some (.cells [.map n,.map (n+1),.int .i64 0])/\hh.get n=some (.map (Ro (iE ((bQ eH).take j))))/\hh.get (n+1)=some (.map fR)/\hh.get n2=some .dfr)
   (fun t=>t=n5+1\/t=n) eH dc Ha (fun t ht=>by omega) (fun t ht=>.inr (.inl om)) ?j0 (fun j hh hj=>hj.2.2.1) ?jq ?jr ?jQ
  case j0=>exact⟨zc,zc,y1 ab,y1 ao,y1 b5,by(refine z1 aw ?_;rfl),y1 b8,y1 ay⟩
  case jq=>
   rintro j hh hh' ⟨k1,k2,k3,k4,k5,k6,k7,k8⟩ hk;exact⟨(hk _ om).trans k1,(hk _ om).trans k2,(hk _ om).trans k3,(hk _ om).trans k4,(hk _ om).trans k5,(hk _ om).trans k6,(hk _ om).trans k7,(hk _ om).trans k8⟩
  case jr=>
   rintro j hj n6 h6 hle6 hl6 ⟨k1,k2,k3,k4,k5,k6,k7,k8⟩;have U:=Cl (bQ eH)[j] (.str (bQ eH)[j]) (iE ((bQ eH).take j));have M:iE ((bQ eH).take (j+1))=tS (bQ eH)[j] (.str (bQ eH)[j]) (iE ((bQ eH).take j)):=lW _ _ _ _ hj;refine fI.mk1 aj ba dc k1 (.inl rfl) ?_;refine aW ?_;refine zz ?_;refine⟨k1,aW ?_⟩;refine z4 k4 k5 k6 U ?_;intro n' ah ag;rw[M]
   (repeat' (first | assumption | trivial | rfl | refine And.intro ?_ ?_))
  case jQ=>
  rintro n6 h6 hle6 hl6 ⟨k1,k2,k3,k4,k5,k6,k7,k8⟩;rw[List.take_length]at k6;refine⟨_,_,_,_,_,_,_,k1,by decide,?_⟩;refine bZ.seq (bZ.seq (bZ.code (aW ?_)));refine zz ?_;refine qCK (Ni S gK [124] fun b1 b2 b3 n7 h7 bw bz c5 a4 a5 a8 a6 aa a7 a1=>?_);refine zz ?_;have ap:=(a1 (n+1+1+1) om).trans ((y1 k4):_=some (aK.cells [.ref (n+1+1) 0]));have b6:=(a1 (n+1+1) om).trans ((y1 k5):_=some (aK.cells [.map n,.map (n+1),.int .i64 0]));have ax:=(a1 n om).trans ((y1 k6):_=some (aK.map (Ro (iE (bQ eH)))));have b9:=(a1 (n+1) om).trans ((y1 k7):_=some (aK.map fR));have az:=(a1 n2 om).trans ((y1 k8):_=some aK.dfr);have b0:=(a1 n5 om).trans ((y1 k2):_=some aK.dfr);have ac:=aN a8 a6;have ad:=aN a8 aa;have ae:=aN a8 a7;refine bZ.block (bZ.range rfl WI fun bm ak bb=>?_);refine BJ S hI 124 (fun asg body j hh=>hh.get (n7+1)=some (.loop .ready none 0 bm [29] asg body n7)/\hh.get n7=some .dfr/\(hh.get b1=some (.cells [.str [124]])/\hh.get b3=some (.cells [.int .i64 0]))/\hh.get (n+1+1+1)=some (.cells [.ref (n+1+1) 0])/\hh.get (n+1+1)=some (.cells [.map n,.map (n+1),.int .i64 0])/\hh.get n=some (.map (Ro (((gT 124 gK).take j).foldl putRow (iE (bQ eH)))))/\hh.get (n+1)=some (.map fR)/\hh.get n2=some .dfr/\hh.get n5=some .dfr)
   (fun t=>t=n7+1\/t=n) gK dc (fun t ht=>by omega) (fun t ht=>.inr (.inl om)) (.inr (.inl om)) ⟨ac,ad,ae⟩ a6 aa a7 ⟨a4,a5⟩ ?j0 (fun j hh hj=>hj.2.2.1) (fun hc=>by omega) ?jq ?jr ?jQ
  case j0=>exact⟨zc,zc,⟨y1 a6,y1 a7⟩,y1 ap,y1 b6,by(refine z1 ax ?_;rfl),y1 b9,y1 az,y1 b0⟩
  case jq=>
   rintro j hh hh' ⟨k1,k2,⟨k3,k3'⟩,k4,k5,k6,k7,k8,k9⟩ hk;exact⟨(hk _ om om).trans k1,(hk _ om om).trans k2,⟨(hk _ om a4).trans k3,(hk _ om a5).trans k3'⟩,(hk _ om om).trans k4,(hk _ om om).trans k5,(hk _ om om).trans k6,(hk _ om om).trans k7,(hk _ om om).trans k8,(hk _ om om).trans k9⟩
  case jQ=>
   rintro n8 h8 hle8 hl8 ⟨k1,k2,k3,k4,k5,k6,k7,k8,k9⟩;rw[List.take_length,EJ]at k6;refine⟨_,_,_,_,_,_,_,k1,by decide,?_⟩;refine bZ.code (aW ?_);refine zz ?_;refine⟨rfl,n2,n5,n7,n+1+1+1,n+1+1,n,n+1,rfl,rfl,y1 k4,y1 k5,y1 k6,y1 k7,y1 k8,y1 k9,y1 k2,by omega,by omega,by omega,by omega,by omega,by omega,by omega,by omega,by omega,by omega⟩
  case jr=>
   rintro j hj n8 h8 hle8 hl8 ⟨k1,k2,k3,k4,k5,k6,k7,k8,k9⟩;have Y:=(List.all_eq_true.1 Nf) (gT 124 gK)[j] (List.getElem_mem hj);simp only[Bool.and_eq_true]at Y;have hF:=Ky S hA Y.1;have bv:=vS Y.1;have M:((gT 124 gK).take (j+1)).foldl putRow (iE (bQ eH))=putRow (((gT 124 gK).take j).foldl putRow (iE (bQ eH))) (gT 124 gK)[j]:=lW _ _ _ _ hj;generalize (gT 124 gK)[j]=row at *;generalize (((gT 124 gK).take j).foldl putRow (iE (bQ eH)))=acc at *;refine fI.mk1 ak bb dc k1 (.inl rfl) ?_;refine aW ?_;refine zz ?_;refine⟨k1,aW ?_⟩;refine zz ?_;refine qCK (hF.use fun n9 h9 bu c9 O=>?_);have a9:((fM row).map AV.str).length=(fM row).length:=List.length_map _;refine z1 a9 ?_;have bh:putRow acc row=(fM row).foldl (fun m s=>tS s (.str ((fM row).headD [])) m) acc:=rfl;rw[bh]at M;have br:=Y.2;generalize fM row=ws at *;have e1:h9.get (n7+1)=some _:=(O (n7+1) om).trans (by rw[qCf,if_pos rfl]);have f2:=(O n7 om).trans ((y1 k2):_=some aK.dfr);have f3:=(O b1 om).trans ((y1 k3.1):_=some (aK.cells [.str [124]]));have an:=(O b3 om).trans ((y1 k3.2):_=some (aK.cells [.int .i64 0]));have f4:=(O (n+1+1+1) om).trans ((y1 k4):_=some (aK.cells [.ref (n+1+1) 0]));have f5:=(O (n+1+1) om).trans ((y1 k5):_=some (aK.cells [.map n,.map (n+1),.int .i64 0]));have f6:=(O n om).trans ((y1 k6):_=some (aK.map (Ro acc)));have f7:=(O (n+1) om).trans ((y1 k7):_=some (aK.map fR));have f8:=(O n2 om).trans ((y1 k8):_=some aK.dfr);have f9:=(O n5 om).trans ((y1 k9):_=some aK.dfr);refine qCu (fun m E nn hh=>∃ i:Nat,E=[(1,.ref (n+1+1+1) 0),(5,.vec (ws.map .str) 1 false),(32,.vec (ws.map .str) 1 false),(33,.int .i64 ws.length),(34,.int .i64 i)]/\i+m=ws.length/\n9<=nn/\hh.get n=some (.map (Ro ((ws.take i).foldl (fun m s=>tS s (.str (ws.headD [])) m) acc)))/\∀ t,t<n9->t≠n->hh.get t=h9.get t) ws.length ⟨0,rfl,by omega,Nat.le_refl _,f6,fun _ _ _=>rfl⟩ ?_
   .rintro m E nn hh hlk hBk ⟨i,rfl,him,hnn,q6,hfr⟩;have q4:=(hfr (n+1+1+1) om om).trans f4;have q5:=(hfr (n+1+1) om om).trans f5;by_cases hi:i<ws.length
    .have bk:(ws.map AV.str)[i]?=some (.str ws[i]):=(by rw[List.getElem?_map,List.getElem?_eq_getElem hi];rfl);have bj:(ws.map AV.str)[0]?=some (.str (ws.headD [])):=by
      cases ws with
      |nil=>cases hi
      |cons a r=>rfl
     have be:inside 0 ws.length=some 0:=by
      cases ws with
      |nil=>cases hi
      |cons a r=>rfl
     have U:=Cl ws[i] (.str (ws.headD [])) ((ws.take i).foldl (fun m s=>tS s (.str (ws.headD [])) m) acc);have bg:(ws.take (i+1)).foldl (fun m s=>tS s (.str (ws.headD [])) m) acc=tS ws[i] (.str (ws.headD [])) ((ws.take i).foldl (fun m s=>tS s (.str (ws.headD [])) m) acc):=lW _ _ _ _ hi;refine z2 bk a9 ?_;refine qCP [] [] kr ?_;refine g8 q4 q5 q6 a9 be bj U @qCU ?_;refine aU.mq (m-1) ⟨i+1,rfl,by omega,hnn,by(rw[bg];exact zc),fun t ht ai=>by rw[qCf,if_neg ai];exact hfr t ht ai⟩
    .have bd:i=ws.length:=om;subst bd;rw[List.take_length]at q6;refine zz ?_;refine⟨(hfr _ om om).trans e1,fun n' ah ag=>?_⟩;rw[M];exact⟨(hfr _ om om).trans f2,⟨(hfr _ om om).trans f3,(hfr _ om om).trans an⟩,q4,q5,q6,(hfr _ om om).trans f7,(hfr _ om om).trans f8,(hfr _ om om).trans f9⟩
end
end Go.Proofs.Pa
namespace Go.Proofs
open Go.Shelf
def Tryz.lays217_ren:Go.Shelf.Ren:=⟨fun | 217=>210 | 266=>280 | n=>n,fun | 9=>9 | 5=>5 | 3=>3 | n=>n,fun | n=>n⟩
theorem Tryz.lays217:Go.Proofs.Lays.n217 Tryz.prog Tryz.lays217_ren:={
 mixed:=by kernel_rfl
 f217:=Tryz.func210.trans (congrArg some (by kernel_rfl))
 f266:=Tryz.func280.trans (congrArg some (by kernel_rfl))
 t3:=Tryz.underlying3
 a3:=Tryz.isAgg3
 z3:=Tryz.sizeOf3
 v3:=Tryz.zeroValue3
 t5:=Tryz.underlying5
 a5:=Tryz.isAgg5
 z5:=Tryz.sizeOf5
 v5:=Tryz.zeroValue5
 t9:=Tryz.underlying9
 a9:=Tryz.isAgg9
 z9:=Tryz.sizeOf9
 v9:=Tryz.zeroValue9}
open Go.RowKit Go.Lib in
theorem Tryz.stringslite_IndexByte (s:ByteArray)(c:Int)(w:World) :
  Calls Tryz.prog 210 #[.string s,.int .u8 c] w fun e w'=>e=.returned (.int .i64 (Lib.indexByte s.data.toList c.toNat.toUInt8))/\w'=w:=Any.stringslite_IndexByte Tryz.lays217 s c w
end Go.Proofs
namespace Go.Proofs.Pa
open Go.Ez Go.Proofs.Vt
section
variable {Gl:qC6}{Gm:qC7}{Kp:qC8}
def xU (args:List AV):C aS:=
 match args with
 |[.str s,.int .u8 c]=>C.ret (.returned (.int .i64 (Go.Lib.indexByte s c.toNat.toUInt8)))
 |_=>C.fail
theorem vX (c:UInt8):∀ s:List UInt8,Go.Lib.indexByte s c=Le s c
 |[]=>rfl
 |b::l=>by
  unfold Go.Lib.indexByte;rw[vX c l];unfold Le;rw[List.findIdx?_cons];cases hb:b==c with
  |true=>simp
  |false=>
   simp only[Bool.false_eq_true,if_false];cases hx:l.findIdx? (·==c) with
   |none=>simp
   |some i=>
    simp only[Option.map_some];have:((i:Int)==-1)=false:=sm;rw[this];simp
theorem RJ (hg:Gm 210=some xU):Js Gl Gm Kp:=by
 intro s c;refine cD.fin fun n h M=>⟨fun _=>?_⟩;refine⟨1,{val:=.returned (.int .i64 (Le s c)),nx:=n,hi:=n,hp:=h,rd:=0,wr:=0},?_,Fr.ret _ M,fun t O=>by simp at O,fun _ _ _=>rfl⟩;show fT Tryz.prog Gl Gm Kp (0+1) 210 _ n h=_;unfold fT;rw[hg];simp only[xU];rw[show (c.toNat:Int).toNat.toUInt8=c by simp,vX]
 rfl
theorem Ak (w0:Base)(B:Nat)(args:List AV)(n:Nat)(h:Hp)(out:Out aS)(e:xU args n h=some out)(hl:aE n h):nR Tryz.prog Gl w0 B 210 args n h out:=by
 unfold xU at e;split at e
 .rename_i s c;obtain rfl:=Option.some.inj e;refine⟨Fr.ret _ hl,fun K G w cargs st O R Y=>?_⟩;have M:cargs=#[.string ⟨⟨s⟩⟩,.int .u8 c]:=by
   simp only[aI,aF]at O;obtain⟨u,us,h1,rfl,u2,a1,h2,rfl,U⟩:=O;subst h2;subst U;exact Array.toList_inj.1 h1
  subst M;refine callsIn_wide.2 ((Tryz.stringslite_IndexByte ⟨⟨s⟩⟩ c w).mono fun e w' hw=>?_);obtain⟨rfl,rfl⟩:=hw;refine Y G _ w' ⟨G.le_refl,fun o I h1 h2=>by rw[h1]at h2;cases h2⟩ (by rw[gV];exact st.rel) ⟨_,rfl,by simp only[aF]⟩
 .cases e
end
def Gz (Gl:qC6):Prop:=∀(w:World) (Sx:Nat->Nat->Option Value),(∀ b i v,Sx b i=some v->w.cell? ⟨b,i,none⟩=some v)->Pg (bare Sx) Gl->∀ R:Ending->World->Prop,(∀(G1:Gh) (K1:cG) (tb cm wm:Nat) (w':World),eO {toWorld:=w,S0:=Sx} w.heap.size K1 G1 w'->(bare Sx).le G1->tb≠cm->tb≠wm->cm≠wm->K1 tb=some (.cells [.map cm,.map wm,.int .i64 3])->K1 cm=some (.map dF)->K1 wm=some (.map fR)->∀ v,aF G1 (.ref tb 0) v->R (.returned v) w')->
 CallsIn (Fw none) 0 Tryz.prog 202 #[] w R
theorem Qc {Gl:qC6}(hfree:mR Gl)(H:Gz Gl)(w0:Base)(B:Nat)(args:List AV)(n:Nat)(h:Hp)(out:Out aS)(e:Tj args n h=some out)(hl:aE n h):nR Tryz.prog Gl w0 B 202 args n h out:=by
 cases args with
 |cons a r=>cases e
 |nil=>
 have e:C.am Nl n h=some out:=e;obtain⟨al,ao,hk⟩:=jB e hl;have a7:∀ K:cG,Agree K h (out.rd|||out.wr)->out.val=.returned (.ref (n+2) 0)/\out.nx=n+3/\K.merge out=((K.upd n (some (.map dF))).upd (n+1) (some (.map fR))).upd (n+2) (some (.cells [.map n,.map (n+1),.int .i64 3])):=fun K hA=>by
  have:=hk K hA;simp only[Nl,AM.runK,Option.some.injEq,Prod.mk.injEq]at this;exact⟨this.1.symm,this.2.1.symm,this.2.2.symm⟩
 refine⟨al,fun K G w cargs st hv R hq=>?_⟩;obtain⟨a8,a6,Y⟩:=a7 K st.agree;have ak:cargs=#[]:=by
  simp only[aI]at hv;exact Array.toList_inj.1 hv
 subst ak;have an:Pg (bare G.S) Gl:=by
  intro g cs hg j y hy;obtain⟨u,h1,h2⟩:=st.gl g cs hg j y hy;exact⟨u,h1,h2.bare (hfree g cs hg y (List.mem_of_getElem? hy))⟩
 refine H w G.S st.rel.S an R fun G1 K1 tb cm wm w' g2 ac _ _ _ kt kc kw v a9=>?_;obtain⟨It,a1,t1,t2,t3,t4⟩:=g2.obj tb _ kt;obtain⟨Ic,aa,c1,c2,c3,c4⟩:=g2.obj cm _ kc;obtain⟨Iw,ab,w1,w2,w3,w4⟩:=g2.obj wm _ kw;have U:∀ o,n<=o->o<n+3->G.nm o=none:=fun o h1 h2=>st.fresh o h1 (by rw[ao,a6];exact h2)
 let G2:Gh:={nm:=fun o=>if o=n then some Ic else if o=n+1 then some Iw else if o=n+2 then some It else G.nm o,S:=G1.S}
 have e0:G2.nm n=some Ic:=(by simp[G2]);have e1:G2.nm (n+1)=some Iw:=(by simp[G2]);have e2:G2.nm (n+2)=some It:=(by simp[G2]);have eo:∀ o,o≠n->o≠n+1->o≠n+2->G2.nm o=G.nm o:=fun o h1 h2 h3=>(by simp[G2,h1,h2,h3]);have a4:G.le G2:=by
  refine⟨fun o I ho=>?_,ac.2⟩;have ax:¬(n<=o/\o<n+3):=fun hc=>(by rw[U o hc.1 hc.2]at ho;cases ho);rw[eo o om om om];exact ho
 have hold:∀ b,b<w.heap.size->w'.heap[b]?=w.heap[b]?:=fun b hb=>g2.old b hb;have aj:=st.rel.size;have a2:w.heap.size<=w'.heap.size:=g2.size;have O:Ez.oS G1 G2 (fun _=>False):=⟨fun o h=>h.elim,rfl⟩;have ap:cK G2 Ic (.map dF) aa:=cK.keep O (by
  simp only[Pi];intro q hq;obtain⟨x,_,rfl⟩:=List.mem_map.1 hq;exact⟨by simp only[iO],by simp only[iO]⟩) c4
 have au:cK G2 Iw (.map fR) ab:=cK.keep O (by
  simp only[Pi];intro q hq;obtain⟨x,_,rfl⟩:=List.mem_map.1 hq;exact⟨by simp only[iO],by simp only[iO]⟩) w4
 have ar:cK G2 It (.cells [.map n,.map (n+1),.int .i64 3]) a1:=by
  cases a1<;>simp only[cK]at t4
  obtain⟨q1,q2,q3⟩:=t4;simp only[aI,aF]at q2;obtain⟨u1,r1,z1,⟨I1,y1,rfl⟩,u2,r2,rfl,⟨I2,y2,rfl⟩,u3,r3,rfl,rfl,rfl⟩:=q2;obtain rfl:I1=Ic:=Option.some.inj (y1.symm.trans c1);obtain rfl:I2=Iw:=Option.some.inj (y2.symm.trans w1);simp only[cK];refine⟨q1,?_,q3⟩;rw[z1];simp only[aI,aF];exact⟨_,_,rfl,⟨_,e0,rfl⟩,_,_,rfl,⟨_,e1,rfl⟩,_,_,rfl,rfl,rfl⟩
 have ai:∀ o,o≠n->o≠n+1->o≠n+2->(((K.upd n (some (.map dF))).upd (n+1) (some (.map fR))).upd (n+2) (some (.cells [.map n,.map (n+1),.int .i64 3]))) o=K o:=fun o h1 h2 h3=>(by simp[cG.upd,h1,h2,h3]);have ae:(((K.upd n (some (.map dF))).upd (n+1) (some (.map fR))).upd (n+2) (some (.cells [.map n,.map (n+1),.int .i64 3]))) n=some (.map dF):=(by simp[cG.upd]);have ag:(((K.upd n (some (.map dF))).upd (n+1) (some (.map fR))).upd (n+2) (some (.cells [.map n,.map (n+1),.int .i64 3]))) (n+1)=some (.map fR):=(by simp[cG.upd]);have ah:(((K.upd n (some (.map dF))).upd (n+1) (some (.map fR))).upd (n+2) (some (.cells [.map n,.map (n+1),.int .i64 3]))) (n+2)=some (.cells [.map n,.map (n+1),.int .i64 3]):=(by simp[cG.upd]);have cs:∀ o x,(((K.upd n (some (.map dF))).upd (n+1) (some (.map fR))).upd (n+2) (some (.cells [.map n,.map (n+1),.int .i64 3]))) o=some x->∃ I ob,G2.nm o=some I/\w'.heap[I.blk]?=some ob/\cK G2 I x ob/\((o≠n/\o≠n+1/\o≠n+2/\K o=some x/\G.nm o=some I/\B<=I.blk/\I.blk<w.heap.size)\/(∃ q y,K1 q=some y/\G1.nm q=some I/\((o=n/\q=cm)\/(o=n+1/\q=wm)\/(o=n+2/\q=tb))/\w.heap.size<=I.blk)):=by
  intro o x M;by_cases h2:o=n+2
  .subst h2;rw[ah]at M;obtain rfl:=Option.some.inj M;exact⟨It,a1,e2,t3,ar,.inr ⟨tb,_,kt,t1,.inr (.inr ⟨rfl,rfl⟩),t2⟩⟩
  by_cases h1:o=n+1
  .subst h1;rw[ag]at M;obtain rfl:=Option.some.inj M;exact⟨Iw,ab,e1,w3,au,.inr ⟨wm,_,kw,w1,.inr (.inl ⟨rfl,rfl⟩),w2⟩⟩
  by_cases h0:o=n
  .subst h0;rw[ae]at M;obtain rfl:=Option.some.inj M;exact⟨Ic,aa,e0,c3,ap,.inr ⟨cm,_,kc,c1,.inl ⟨rfl,rfl⟩,c2⟩⟩
  .rw[ai o h0 h1 h2]at M;obtain⟨I,ob,z1,z2,z3,z4⟩:=st.rel.obj o x M;have a5:=(Array.getElem?_eq_some_iff.1 z3).1;exact⟨I,ob,(eo o h0 h1 h2).trans z1,(hold _ a5).trans z3,z4.mono a4,.inl ⟨h0,h1,h2,M,z1,z2,a5⟩⟩
 refine hq G2 _ w' ⟨a4,fun o I h1 h2=>?_⟩ ?_ ?_
 .rw[a6];by_cases h3:o=n\/o=n+1\/o=n+2
  .omega
  .rw[eo o om om om,h2]at h1;cases h1
 .rw[Y];exact {
   os:=g2.os.trans st.rel.os
   out:=g2.out.trans st.rel.out
   tape:=g2.tape.trans st.rel.tape
   size:=Nat.le_trans aj a2
   old:=fun b hb=>(hold b om).trans (st.rel.old b hb)
   S:=g2.S
   obj:=fun o x M=>by
    obtain⟨I,ob,z1,z2,z3,z4⟩:=cs o x M;refine⟨I,ob,z1,?_,z2,z3⟩;rcases z4 with z4 | ⟨q,y,_,_,_,z4⟩
    .exact z4.2.2.2.2.2.1
    .omega
   inj:=fun o o' x x' I I' M aw hI ad a3=>by
    obtain⟨J,ob,z1,z2,z3,z4⟩:=cs o x M;obtain⟨_,ob',y1,y2,y3,y4⟩:=cs o' x' aw;obtain rfl:=Option.some.inj (z1.symm.trans hI);obtain rfl:=Option.some.inj (y1.symm.trans ad);rcases z4 with⟨_,_,_,p1,p2,_,p3⟩ | ⟨q,y,p1,p2,p3,p4⟩
    .rcases y4 with⟨_,_,_,r1,r2,_,r3⟩ | ⟨q',y',r1,r2,r3,r4⟩
     .exact st.rel.inj o o' x x' _ _ p1 r1 p2 r2 a3
     .omega
    .rcases y4 with⟨_,_,_,r1,r2,_,r3⟩ | ⟨q',y',r1,r2,r3,r4⟩
     .omega
     .have:=g2.inj q q' y y' _ _ p1 r1 p2 r2 a3;omega
   sep:=fun o x I M hI i=>by
    obtain⟨J,ob,z1,z2,z3,z4⟩:=cs o x M;obtain rfl:=Option.some.inj (z1.symm.trans hI);rcases z4 with⟨_,_,_,p1,p2,_,p3⟩ | ⟨q,y,p1,p2,p3,p4⟩
    .show G1.S J.blk i=none;cases hs:G1.S J.blk i with
     |none=>rfl
     |some u=>
      have:=g2.low J.blk i u p3 hs;have h0:=st.rel.sep o x J p1 p2 i;rw[show ({toWorld:=w,S0:=G.S}:Base).S0 J.blk i=G.S J.blk i from rfl,h0]at this;cases this
    .exact g2.sep q y J p1 p2 i
   low:=fun b i u hb hs=>st.rel.low b i u hb (g2.low b i u om hs)
   stay:=fun b hb=>⟨(hold b (st.rel.stay b hb).2).trans (st.rel.stay b hb).1,Nat.lt_of_lt_of_le (st.rel.stay b hb).2 a2⟩
   apart:=fun o x I M hI hc=>by
    obtain⟨J,ob,z1,z2,z3,z4⟩:=cs o x M;obtain rfl:=Option.some.inj (z1.symm.trans hI);rcases z4 with⟨_,_,_,p1,p2,_,p3⟩ | ⟨q,y,p1,p2,p3,p4⟩
    .exact st.rel.apart o x J p1 p2 hc
    .have:=(st.rel.stay _ hc).2;omega}
 .rw[a8];refine⟨_,rfl,?_⟩;simp only[aF]at a9 ⊢;obtain⟨I,z1,rfl⟩:=a9;obtain rfl:=Option.some.inj (z1.symm.trans t1);exact⟨_,e2,rfl⟩
theorem SI {P:Program}{Gl:qC6}{w0:Base}{B:Nat}{Gm:qC7}{Kp:qC8}(A:∀ fuel,pL P Gl w0 B Gm Kp fuel):∀(i:Nat) (c:Code) (F:Nat) (a:bE) (n:Nat) (h:Hp) (out:Out (mQ×bE)),bD P Gl Gm Kp F (yC i c) a n h=some out->aE n h->out.val.1=.normal->
  Fr n h out/\∀(K:cG) (G:Gh) (w:World) (ro:Option Nat) (ca:Act),Ez.St w0 B Gl K G w n out.hi h (out.rd|||out.wr)->eT G ro a ca->∀ Q:Exit->Act->World->Prop,(∀ G' ca' w',eU G G' n out.nx->eO w0 B (K.merge out) G' w'->eT G' ro out.val.2 ca'->(Cs i c).wpIn (Fw ro) 0 P Q ca' w')->c.wpIn (Fw ro) 0 P Q ca w:=by
 intro i;have base:∀(c:Code) (F:Nat) (a:bE) (n:Nat) (h:Hp) (out:Out (mQ×bE)),bD P Gl Gm Kp F .skip a n h=some out->aE n h->Fr n h out/\∀(K:cG) (G:Gh) (w:World) (ro:Option Nat) (ca:Act),Ez.St w0 B Gl K G w n out.hi h (out.rd|||out.wr)->eT G ro a ca->∀ Q:Exit->Act->World->Prop,(∀ G' ca' w',eU G G' n out.nx->eO w0 B (K.merge out) G' w'->eT G' ro out.val.2 ca'->c.wpIn (Fw ro) 0 P Q ca' w')->c.wpIn (Fw ro) 0 P Q ca w:=by
  intro c F a n h out e M;cases F with
  |zero=>unfold bD at e;cases e
  |succ F=>
   unfold bD at e;cases e;exact⟨Fr.ret _ M,fun K G w ro ca st hA Q hq=>hq G ca w (eU.refl _ _ _) (by rw[gV];exact st.rel) hA⟩
 induction i with
 |zero=>
  intro c F a n h out e M _;rw[tK]at e;rw[tO];exact base c F a n h out e M
 |succ i ih=>
  intro c F a n h out e M hx;cases c with
  |seq x y=>
   cases F with
   |zero=>unfold bD at e;cases e
   |succ F=>
    change bD P Gl Gm Kp (F+1) (.seq x (yC i y)) a n h=some out at e;unfold bD at e;simp only at e;obtain⟨m,p,e1,Y,rfl⟩:=C.bind_some e;obtain⟨f1,k1⟩:=(A F).code _ _ _ _ _ e1 M;obtain⟨⟨ev,a2⟩,nx,hi,hp,rd,wr⟩:=m;cases ev with
    |normal=>
     obtain⟨f2,k2⟩:=ih y F a2 nx hp p Y f1.lt hx;refine⟨f1.seq f2,fun K G w ro ca st hA Q hq=>wpIn_seq ?_⟩;refine k1 K G w ro _ st.left hA _ fun G1 ex O w1 g1 g2 g3 g4=>?_;simp only[fN]at g3;subst g3;exact k2 _ G1 w1 ro O (st.right f1 g1 g2) g4 Q fun G2 U w2 t1 t2 t3=>hq G2 U w2 (eU.seq f1 f2 g1 t1) (by rw[<- cO f2];exact t2) t3
    |_=>simp only[C.ret,Option.some.injEq]at Y;subst Y;cases hx
  |_=>exact base _ F a n h out e M
def TD (f:FuncId):Option (List AV->C aS):=if f=210 then some xU else none
def IP (f:FuncId):Bool×Bool:=if f ∈ [146,295,209,120,121] then (true,false) else (false,false)
theorem HE:Seat TD IP:=⟨fun f O=>by unfold TD;rw[if_neg (fun h=>O (by simp[h]))],fun f h1 h2=>by unfold IP;rw[if_neg (fun M=>by
  simp only[List.mem_cons,List.not_mem_nil,or_false]at M;rcases M with rfl | rfl | rfl | rfl | rfl<;>first | exact h1 dc | exact h2 dc)]⟩
theorem FF (Gl:qC6):CU Tryz.prog Gl TD:=by
 intro w0 B f g M args n h out e O;unfold TD at M;split at M
 .rename_i hf;subst hf;obtain rfl:=Option.some.inj M;exact Ak w0 B args n h out e O
 .cases M
theorem GB:Tryz.prog.follows .mixedOrders=true:=kr
theorem FX:Go.Proofs.Pa.oS IP:=⟨rfl,rfl,rfl,rfl⟩
theorem BM {Gl:qC6}(hfree:mR Gl)(hA:Gl 1=some dL){c:Code}(hc:Tryz.f202.body=some c)(w:World)(Sx:Nat->Nat->Option Value)(hS:∀ b i v,Sx b i=some v->w.cell? ⟨b,i,none⟩=some v)(hGl:Pg (bare Sx) Gl)(R:Ending->World->Prop)
  (hmid:∀(out:Out (mQ×bE)) (E:Env) (ds:List mP) (G1:Gh) (ca:Act) (w':World),Env.at ⟨70,ds,none⟩ E out.val.2->DF 0 ds out.val.1 E out.nx out.hp->Fr 0 [] out->eU (bare Sx) G1 0 out.nx->eO {toWorld:=w,S0:=Sx} w.heap.size (cG.merge (fun _=>none) out) G1 w'->eT G1 none out.val.2 ca->(Cs 5 c).wpIn (Fw none) 0 Tryz.prog (bodyPostM (Fw none) 0 Tryz.prog Tryz.f202 R) ca w') :
  CallsIn (Fw none) 0 Tryz.prog 202 #[] w R:=by
 refine callsIn_of_wp_marks Tryz.func202 hc trivial ?_;have hE:Env.at ⟨70,[],none⟩ [] {tmps:=[]++List.replicate (Tryz.f202.ntmps-([]:List AV).length) AV.undef,defers:=[],rnd:=none}:=⟨⟨by(show (List.replicate 70 AV.undef).length=70);simp,fun t v e=>by cases e⟩,rfl,rfl⟩;obtain⟨F,out,e,fr,wr,E',ds',O,U⟩:=(NP (n:=0) (h:=[]) HE (Gl:=Gl) hA (RJ (Gm:=TD) (Kp:=IP) rfl) hc).ok _ hE (fun _ _=>rfl) (fun t Y=>.inl Y);obtain⟨f1,k1⟩:=SI (fun fuel=>xG (Kp:=IP) GB hfree (FF Gl) fuel {toWorld:=w,S0:=Sx} w.heap.size) 5 c F _ 0 [] out e (fun _ _=>rfl) U.1;refine k1 (fun _=>none) (bare Sx) w none _ ⟨fun _ _=>rfl,eO.start w hS,fun _ _ _=>rfl,hGl⟩ (xF (cargs:=#[]) (nt:=Tryz.f202.ntmps) (by simp only[aI])) _ fun G1 M w1 g1 g2 g3=>hmid out E' ds' G1 M w1 O U fr g1 g2 g3
section
variable {Gl:qC6}{Gm:qC7}{Kp:qC8}(S:Seat Gm Kp)
mutual
def Node.cnt:Node->Nat
 |.mk _ _ _ _ _ l _ _=>1+mS l
def mS:List Node->Nat
 |[]=>0
 |n::r=>n.cnt+mS r
end
mutual
def Node.dep:Node->Nat
 |.mk _ _ _ _ _ l _ _=>1+rS l
def rS:List Node->Nat
 |[]=>0
 |n::r=>max n.dep (rS r)
end
theorem sA:∀ a b:List Node,mS (a++b)=mS a+mS b
 |[],b=>by simp[mS]
 |n::r,b=>by simp only[List.cons_append,mS,sA r b];omega
theorem yO:∀ a b:List Node,rS (a++b)=max (rS a) (rS b)
 |[],b=>by simp[rS]
 |n::r,b=>by simp only[List.cons_append,rS,yO r b];omega
theorem EV.at:∀{l:List Node}{xs:List AV},EV l xs->∀ j (h:j<l.length),∃ v,xs[j]?=some v/\EN l[j] v
 |_,_,.nil,j,h=>by cases h
 |_,_,.cons a t,0,h=>⟨_,rfl,a⟩
 |_,_,.cons a t,j+1,h=>by
  obtain⟨v,e,q⟩:=t.at j (Nat.lt_of_succ_lt_succ h);exact⟨v,e,q⟩
theorem KH (n:Node):1<=n.dep:=by cases n;unfold Node.dep;omega
theorem zN (n:Node):1<=n.cnt:=by cases n;unfold Node.cnt;omega
theorem vL:∀ l:List Node,l.length<=mS l
 |[]=>by simp[mS]
 |y::r=>by have:=zN y;have:=vL r;simp only[List.length_cons,mS];omega
theorem vK:∀(l:List Node) (j:Nat) (hj:j<l.length),l[j].cnt<=mS l
 |y::r,0,_=>by simp only[List.getElem_cons_zero,mS];omega
 |y::r,j+1,hj=>by have:=vK r j (Nat.lt_of_succ_lt_succ hj);simp only[List.getElem_cons_succ,mS];omega
mutual
theorem EQ:∀ n:Node,n.dep<=n.cnt
 |.mk _ _ _ _ _ l _ _=>by have:=Hh l;unfold Node.dep Node.cnt;omega
theorem Hh:∀ l:List Node,rS l<=mS l
 |[]=>by simp[rS]
 |n::r=>by have:=EQ n;have:=Hh r;simp only[rS,mS];omega
end
theorem YQ (m d:Nat):mM tY (.int .i64 m) [.int .i64 d]=some (.int .i64 (max m d:Nat)):=by
 show mM tY (.int .i64 m) [.int .i64 d]=_;simp only[mM,tY];by_cases h:(m:Int)<d
 .simp[h];omega
 .simp[h];omega
include S
theorem HI:∀(k:Nat) (x:Node) (v:AV),EN x v->x.cnt<=k->∀{c d m c1 c2 c3 n:Nat}{h:Hp},c+x.cnt<=1000000->1<=d->d+k<100000000->h.get c1=some (.cells [.int .i64 c])->h.get c2=some (.cells [.int .i64 m])->
  h.get c3=some (.cells [.fn (.func 109) [] [.ref c1 0,.ref c2 0,.ref c3 0]])->c1<c2->c2<c3->m<1000000000->∀{Q:aS->Nat->Hp->Prop},(∀ n' h',n<=n'->aE n' h'->h'.get c1=some (.cells [.int .i64 (c+x.cnt:Nat)])->h'.get c2=some (.cells [.int .i64 (max m (d+x.dep-1):Nat)])->(∀ t,t<n->t≠c1->t≠c2->h'.get t=h.get t)->Q (.returned (.tup [])) n' h')->
  aG Tryz.prog Gl Gm Kp 109 [v,.int .i64 d,.ref c1 0,.ref c2 0,.ref c3 0] n h (fun t=>t=c1\/t=c2) Q:=by
 intro k
 induction k with
 |zero=>intro x v e hk;have:=zN x;omega
 |succ k ih=>
  intro x v e hk c d m c1 c2 c3 n h hc hd _ g1 g2 g3 a6 a7 _ Q hQ;refine aG.mono (B:=fun t=>t=c1\/t=c2) (Q:=fun e n' h'=>e=.returned (.tup [])/\h'.get c1=some (.cells [.int .i64 (c+x.cnt:Nat)])/\h'.get c2=some (.cells [.int .i64 (max m (d+x.dep-1):Nat)])) ?_ (fun _ _ h=>h) (fun e n' h' a b c d=>by obtain⟨rfl,M,O⟩:=d;exact hQ n' h' a b M O fun t ht a1 a2=>c t ht (fun hc=>hc.elim a1 a2));refine qB6 S 29 [] Tryz.func109 fun _ hl=>?_;have an:=aN hl g1;have ao:=aN hl g2;have ap:=aN hl g3;cases e with
  |@mk kk nn s g dd l a e lv hd' ho' hl'=>
  unfold Node.cnt at hc hk;have ah:c1≠c2:=om;have ai:c2≠c1:=om;have a4:=hl'.one;have ar:=vL l;have ac:∀(j:Nat) (U:j<l.length),l[j].cnt<=k:=fun j U=>(by have:=vK l j U;omega);have ag:=YQ m d;refine z6 hd' ho' a4 @g1 @g2 ag ?_;cases hl' with
  |nil=>
   refine zz ?_;refine qCu (fun k2 E n2 h2=>E=[(16,.int .i64 (0:Nat)),(17,.int .i64 (0:Nat))]/\h2.get c1=some (.cells [.int .i64 (c+1:Nat)])/\h2.get c2=some (.cells [.int .i64 (max m d:Nat)])) 0 ⟨rfl,zc,zc⟩ ?_
   .rintro k2 E n2 h2 hl2 hB2 ⟨rfl,M,O⟩;refine zz ?_;refine qC9<|⟨rfl,?_,?_⟩
    .rw[M];simp[Node.cnt,mS,Nat.add_comm]
    .rw[O];simp[Node.dep,rS]
  |@vec _ xs ff hv=>
   have a5:=hv.length;refine z1 a5 ?_;refine qCu (fun k2 E n2 h2=>∃ j:Nat,E=[(1,.int .i64 d),(2,.ref c1 0),(3,.ref c2 0),(4,.ref c3 0),(15,.vec xs 8 ff),(16,.int .i64 l.length),(17,.int .i64 j)]/\j+k2=l.length/\n+1<=n2/\h2.get c1=some (.cells [.int .i64 (c+1+mS (l.take j):Nat)])/\h2.get c2=some (.cells [.int .i64 (max (max m d) (d+rS (l.take j)):Nat)])/\
    h2.get c3=some (.cells [.fn (.func 109) [] [.ref c1 0,.ref c2 0,.ref c3 0]])) l.length ⟨0,rfl,by omega,by omega,by(refine zz ?_;rfl),by(refine zz ?_;simp[rS]),y1 @g3⟩ ?_
   .rintro k2 E n2 h2 hl2 hB2 ⟨j,rfl,hjk,hn2,M,O,q3⟩;by_cases U:j<l.length
    .obtain⟨_,aj,Y⟩:=hv.at j U;obtain⟨cs,rfl,a9,a8,_⟩:=Y.shape;have ht:List.take 8 cs=cs:=List.take_of_length_le om;have aa:mS (l.take (j+1))=mS (l.take j)+l[j].cnt:=(by rw[List.take_succ_eq_append_getElem U,sA];simp[mS]);have ab:rS (l.take (j+1))=max (rS (l.take j)) l[j].dep:=(by rw[List.take_succ_eq_append_getElem U,yO];simp[rS]);have ak:mS (l.take (j+1))<=mS l:=by
      have:=sA (l.take (j+1)) (l.drop (j+1));rw[List.take_append_drop]at this;omega
     have al:=Hh (l.take j);have au:=KH l[j];have a3:¬((c+1+mS (l.take j):Nat):Int)>1000000:=(by have:=zN l[j];omega);refine Pe aj a5 a9 ht a8 @aB M O q3 a3 ?_;refine qCK ((ih l[j] _ Y (ac j U) (c:=c+1+mS (l.take j)) (d:=d+1) (m:=max (max m d) (d+rS (l.take j))) om om om (y1 M) (y1 O) (y1 q3) a6 a7 om fun _ _ _ _ r1 r2 ae=>?_).mono (fun t _ ht=>.inr ht) fun _ _ _ _ _ _ h=>h);have r3:=(ae c3 om om om).trans ((y1 q3):_=some (aK.cells [.fn (.func 109) [] [.ref c1 0,.ref c2 0,.ref c3 0]]));refine zz ?_;refine aU.mq (k2-1) ⟨j+1,rfl,by omega,by omega,by rw[r1,aa,Nat.add_assoc (c+1)],by(rw[r2,ab];congr 4;omega),r3⟩
    .have ad:j=l.length:=om;subst ad;rw[List.take_length]at M O;refine zz ?_;refine qC9<|⟨rfl,?_,?_⟩
     .rw[M];simp[Node.cnt,mS];omega
     .rw[O];simp[Node.dep,rS];omega
theorem SN {x:Node}{v:AV}(e:EN x v)(hc:x.cnt<=1000000):cD Gl Gm Kp 54 [v] (.tup [.int .i64 x.cnt,.int .i64 x.dep]):=by
 refine cD.fin fun n h _=>qB6 S 13 [.cell 2 3,.cell 3 3] Tryz.func54 fun _ _=>?_;obtain⟨cs,rfl,U,O,_⟩:=e.shape;have Y:List.take 8 cs=cs:=List.take_of_length_le om;refine z4 U Y O @aB ?_;have a1:=EQ x;refine qCK ((HI S x.cnt x _ e (Nat.le_refl _) (c:=0) (d:=1) (m:=0) (c1:=n+1) (c2:=n+1+1) (c3:=n+1+1+1) om om om (by(refine zz ?_;rfl)) (by(refine zz ?_;rfl)) (zc) om om om fun _ _ _ _ r1 r2 _=>?_).mono (fun t _ Y=>.inl om) fun _ _ _ _ _ _ h=>h);have M:¬((0+x.cnt:Nat):Int)>1000000:=om;refine z2 r1 M ?_;refine qCP [(1,2)] [] kr ?_;refine g2 r1 r2 ?_;refine qCI fun _ _ _=>?_
 try rw[Nat.zero_add]
 rw[show max 0 (1+x.dep-1)=x.dep by omega]
omit S in
def Ox:P Unit:=fun s=>if s.pos<s.l.length then P.fail s else .ok ((),s)
theorem FZ {o pm im:Nat}{lv:AV}:aL Gl Gm Kp 77 [.ref o 0] o pm im lv Ox IQ:=by
 refine aL.st fun n h cv s Y ho=>qB6 S 14 [] Tryz.func77 fun _ _=>?_;have a5:=congrFun ((rfl:Ox=fun s=>if s.pos<s.l.length then P.fail s else .ok ((),s))) s;obtain⟨_,_,_,O⟩:=Y.hd;have M:=Y.obj;refine zz ?_;refine qCP [] [] kr ?_;have a6:kR lv=.ret (.int .i64 s.l.length):=by
  rcases Y.rep.toks with⟨e1,e2⟩ | ⟨f,e1⟩
  .rw[e1,e2];rfl
  .rw[e1];simp[kR]
 by_cases hp:s.pos<s.l.length
 .have U:Ox s=(P.fail >>= P.pure) s:=by
   show (if s.pos<s.l.length then P.fail s else .ok ((),s))=_;rw[if_pos hp];rfl
  rcases Y.rep.toks with⟨rfl,e2⟩ | ⟨f,rfl⟩
  .rw[e2]at hp;cases hp
  .have a1:(s.l.map Tok.av).length=s.l.length:=List.length_map _;refine z2 M a1 ?_;refine qBt (lE S (α:=Unit) IQ) Y U ho ?_;intro _ s2 v2 n2 h2 cv2 a3 _ _ T2 _ _;refine zz ?_;exact qC9<|(T2).ends (a3) (trivial)
 .have U:Ox s=.ok ((),s):=by
   show (if s.pos<s.l.length then P.fail s else .ok ((),s))=_;rw[if_neg hp]
  rcases Y.rep.toks with⟨rfl,e2⟩ | ⟨f,rfl⟩
  .rw[e2]at hp;have a4:s.pos=0:=(by rw[e2]at O;simpa using O);refine z2 M a4 ?_;exact qC9<|(Y).ends (U) (trivial)
  .have a1:(s.l.map Tok.av).length=s.l.length:=List.length_map _;refine z2 M a1 ?_;exact qC9<|(Y).ends (U) (trivial)
theorem GG (fl:Bool)(vs:List AV){cs:List AV}(hcs:cs.length=8)(hca:cs.all AV.one=true)(hcf:jG cs=true):cD Gl Gm Kp 73 [.vec (.agg cs::vs) 8 fl,.int .i64 0,.int .i64 0] (.tup [.agg cs,.int .i64 0,.int .i64 0]):=by
 refine cD.fin fun n h _=>qB6 S 17 [.cell 6 32,.tmp 7,.tmp 8] Tryz.func73 fun _ _=>?_;have O:List.take 8 cs=cs:=List.take_of_length_le om;have M:inside 0 (vs.length+1)=some 0:=rfl;refine z6 hcs O hca @aB M @qCU ?_;rw[aD _ _ _ _ hcf];refine zz ?_;exact qC9<|rfl
def sL:AV:=.agg [.int .i64 0,.int .i64 0,.str [],.bool false,.sl0,.sl0,.int .i64 0,.int .i64 0]
theorem GF (v:AV)(a e:Int)(he:e≠0):cD Gl Gm Kp 73 [v,.int .i64 a,.int .i64 e] (.tup [sL,.int .i64 a,.int .i64 e]):=by
 refine cD.fin fun n h _=>qB6 S 17 [.cell 6 32,.tmp 7,.tmp 8] Tryz.func73 fun _ _=>?_;refine zz ?_;exact qC9<|rfl
end
section
variable {Gl:qC6}{Gm:qC7}{Kp:qC8}(S:Seat Gm Kp)
def OE (l:List Node)(v:AV):Prop:=∃ xs f,v=.vec xs 8 f/\EV l xs/\l.length<1000000000
def iI (w:List UInt8)(what:P (List Node)):Except kY (List Node):=
 match lI w with
 |.error e=>.error e
 |.ok l=>match what ⟨l,0,[]⟩ with
  |.error f=>if f=lT then .error lT else if f.err=0\/f.at'<0 then .error lT else if f.at'<l.length then .error ⟨f.err,(l.getD f.at'.toNat iH).at'⟩ else .error ⟨f.err,w.length⟩
  |.ok (xs,_)=>if xs.all (fun x=>decide (x.cnt<=1000000)) then (if xs.any (fun x=>decide (300<x.dep)) then .error ⟨2,0⟩ else .ok xs) else .error lT
include S
theorem KA {g:FuncId}{what:P (List Node)}(hca:∀ args,aT Tryz.prog g args=.ret (.enter g args)){o pm im:Nat}{lv:AV}(hg:aL Gl Gm Kp g [.ref o 0] o pm im lv what OE){n a b c:Nat}{h:Hp}{s:PS}(R:eB h o pm im lv .sl0 s)
  (ga:h.get a=some (.cells [.fn (.func g) [] []])) (gb:h.get b=some (.cells [.ref o 0])) (gc:h.get c=some (.cells [.sl0])) (hne:a≠o/\b≠o/\c≠o) (ho:what s≠.error lT) {Q:aS->Nat->Hp->Prop}
  (h1:∀ xs s',what s=.ok (xs,s')->∀ v n' h',OE xs v->n<=n'->aE n' h'->h'.get c=some (.cells [v])->(∀ t,t<n->t≠o->t≠c->h'.get t=h.get t)->Q (.returned (.tup [])) n' h')
  (h2:∀ e,what s=.error e->∀ n' h',n<=n'->aE n' h'->(∀ t,t<n->t≠o->t≠c->h'.get t=h.get t)->Q (.panicked (iY e)) n' h'):aG Tryz.prog Gl Gm Kp 123 [.ref a 0,.ref b 0,.ref c 0] n h (fun t=>t=o\/t=c) Q:=by
 refine aG.mono (B:=fun t=>t=o\/t=c) (Q:=fun e n' h'=>(∃ xs s' v,what s=.ok (xs,s')/\e=.returned (.tup [])/\OE xs v/\h'.get c=some (.cells [v]))\/∃ f,what s=.error f/\e=.panicked (iY f)) ?_ (fun _ _ h=>h) (fun e n' h' x1 x2 x3 x4=>by
  rcases x4 with⟨xs,s',v,e1,rfl,e3,e4⟩ | ⟨f,e1,rfl⟩
  .exact h1 xs s' e1 v n' h' e3 x1 x2 e4 fun t M q1 q2=>x3 t M fun U=>U.elim q1 q2
  .exact h2 f e1 n' h' x1 x2 fun t M q1 q2=>x3 t M fun U=>U.elim q1 q2)
 refine qB6 S 6 [] Tryz.func123 fun _ hl=>?_;have a2:=aN hl ga;have a3:=aN hl gb;have a1:=aN hl gc;refine x3 ga gb hca ?_;have O:∀ t,Own o .sl0 t->t=o:=fun t M=>(by rcases M with rfl | ⟨k,M⟩;rfl;cases M);refine qCK ((hg n h .sl0 s R ho _ (fun xs s' e v n1 h1 cv1 ev P1=>?_) fun e he n1 h1 _ _ _=>?_).mono (fun t _ M=>.inr (.inl (O t M))) fun _ _ _ _ _ _ h=>h)
 .obtain⟨ys,f,rfl,hv⟩:=ev;have Y:=(P1.keep c a1 fun U=>hne.2.2 (O _ U)).trans gc;refine z1 Y ?_;exact qC9<|.inl ⟨xs,s',_,e,rfl,⟨ys,f,rfl,hv⟩,zc⟩
 .refine zz ?_;exact qC9<|.inr ⟨e,he,rfl⟩
end
section
variable {Gl:qC6}{Gm:qC7}{Kp:qC8}(S:Seat Gm Kp)
theorem PT (args:List AV):aT Tryz.prog 123 args=.ret (.enter 123 args):=aH Tryz.func123 rfl kr args
theorem yX {w:List UInt8}{e:kY}(h:lI w=.error e):e.err≠0:=by
 unfold lI at h;split at h
 .cases h;decide
 .split at h
  .rename_i e' he;cases h;exact Ga _ _ _ _ he
  .split at h
   .cases h;decide
   .cases h
include S
theorem Wl (TT:mE Gl Gm Kp)(hA:Gl 1=some dL){g:FuncId}{what:P (List Node)}(hca:∀ args,aT Tryz.prog g args=.ret (.enter g args))(hg:∀ o pm im lv,aL Gl Gm Kp g [.ref o 0] o pm im lv what OE)(w:List UInt8)(hw:w.length<1000000000)(ho:iI w what≠.error lT){n:Nat}{h:Hp}{B:Nat->Prop}{Q:aS->Nat->Hp->Prop}
  (h1:∀ xs,iI w what=.ok xs->∀ v n' h',OE xs v->n<=n'->aE n' h'->(∀ t,t<n->h'.get t=h.get t)->Q (.returned (.tup [v,.int .i64 0,.int .i64 0])) n' h')
  (h2:∀ e,iI w what=.error e->∀ n' h',n<=n'->aE n' h'->(∀ t,t<n->h'.get t=h.get t)->Q (.returned (.tup [.sl0,.int .i64 e.at',.int .i64 e.err])) n' h'):aG Tryz.prog Gl Gm Kp 74 [.str w,.fn (.func g) [] []] n h B Q:=by
 refine aG.mono (B:=fun _=>False) (Q:=fun e n' h'=>(∃ xs v,iI w what=.ok xs/\e=.returned (.tup [v,.int .i64 0,.int .i64 0])/\OE xs v)\/∃ f,iI w what=.error f/\e=.returned (.tup [.sl0,.int .i64 f.at',.int .i64 f.err])) ?_ (fun _ _ h=>h.elim) (fun e n' h' x1 x2 x3 x4=>by
  rcases x4 with⟨xs,v,e1,rfl,e3⟩ | ⟨f,e1,rfl⟩
  .exact h1 xs e1 v n' h' e3 x1 x2 fun t ht=>x3 t ht id
  .exact h2 f e1 n' h' x1 x2 fun t ht=>x3 t ht id)
 generalize hms:iI w what=ms at *;unfold iI at hms;refine qB6 S 66 [.tmp 4,.tmp 5,.tmp 6] Tryz.func74 fun hB hl=>?_;refine zz ?_;have az:lI w≠.error lT:=fun U=>(by rw[U]at hms;exact ho hms.symm);refine qCK (BN S TT w az (fun l au lv n1 aj a2 a4 b5 ab ae a9=>?_) fun e he n1 aj ab ae a9=>?_)
 .rw[au]at hms;simp only at hms;refine zz ?_;refine qCK (If S hA a2 om a4 fun o pm im n2 ak b3 a3 ba R ap=>?_);have g0:ak.get n=some (.cells [.fn (.func g) [] []]):=(ap n om).trans ((a9 n om).trans (zc));have bb:=aN a3 R.obj;refine zz ?_;have b0:what ⟨l,0,[]⟩≠.error lT:=fun U=>(by rw[U]at hms;exact ho (hms.symm.trans sm));refine qCK (Xp S PT ((KA S hca (hg o pm im lv) (s:=⟨l,0,[]⟩) (R.stable a3 fun t ht=>zc) (a:=n) (b:=n2) (c:=n2+1) (y1 g0) (zc) (zc) ⟨by omega,by omega,by omega⟩ b0 (Q:=_) ?ok ?err).mono (fun t _ ht=>.inr (.inl om)) fun _ _ _ _ _ _ h=>h))
  case ok=>
   intro xs s' hx v n3 h3 hv ac aw g3 a5;rw[hx]at hms;simp only at hms;refine⟨(a5 _ om om om).trans (zc),fun n4 h4 ad ax aa=>?_⟩;have g4:=(aa (n2+1) om om).trans g3;obtain⟨vs,vf,rfl,a6,b2⟩:=hv;have ah:=a6.length;by_cases M:(xs.all fun x=>decide (x.cnt<=1000000))=true
   case neg=>rw[if_neg M]at hms;exact absurd hms.symm ho
   rw[if_pos M]at hms;refine z3 @sC.eq_1 @Fq.eq_1 @g4 ?_;refine qCu (fun k E nn hh=>∃ j:Nat,E=[(11,.ref (n2+1) 0),(51,.vec vs 8 vf),(52,.int .i64 vs.length),(53,.int .i64 j)]/\j+k=xs.length/\n4+1<=nn/\hh.get (n2+1)=some (.cells [.vec vs 8 vf])/\∀ i (hi:i<xs.length),i<j->xs[i].dep<=300) xs.length ⟨0,rfl,by omega,by omega,y1 @g4,fun i _ hi=>absurd hi (Nat.not_lt_zero i)⟩ ?_
   .rintro k E nn hh hlk hBk ⟨j,rfl,hjk,hnn,gk,hdep⟩;by_cases hj:j<xs.length
    .obtain⟨vj,b1,a7⟩:=a6.at j hj;obtain⟨cs,rfl,an,hca,b6⟩:=a7.shape;have ht:List.take 8 cs=cs:=List.take_of_length_le om;have al:xs[j].cnt<=1000000:=(by simpa using(List.all_eq_true.1 M) xs[j] (List.getElem_mem hj));refine z6 b1 ah an ht hca @aB ?_;refine qCK ((SN S a7 al).use fun n5 h5 b4 b8 ar=>?_);by_cases hd:300<xs[j].dep
     .have O:(xs.any fun x=>decide (300<x.dep))=true:=List.any_eq_true.2 ⟨xs[j],List.getElem_mem hj,by simpa using hd⟩;rw[if_pos O]at hms;refine zz ?_;exact qC9<|.inr ⟨_,hms.symm,rfl⟩
     .have ai:=(ar (n2+1) om).trans ((y1 gk):_=some (aK.cells [.vec vs 8 vf]));refine zz ?_;refine aU.mq (k-1) ⟨j+1,rfl,by omega,by omega,ai,fun i hi b7=>?_⟩;by_cases a8:i=j
      .subst a8;omega
      .exact hdep i hi om
    .have O:¬(xs.any fun x=>decide (300<x.dep))=true:=fun U=>by
      obtain⟨x,hx,hd⟩:=List.any_eq_true.1 U;obtain⟨i,hi,rfl⟩:=List.getElem_of_mem hx;have:=hdep i hi om;simp at hd;omega
     rw[if_neg O]at hms;refine z2 ah gk ?_;exact qC9<|.inl ⟨xs,_,hms.symm,rfl,vs,vf,rfl,a6,b2⟩
  case err=>
   intro f hf n3 h3 ac aw a5;rw[hf]at hms;simp only at hms;refine⟨(a5 _ om om om).trans (zc),f,rfl,fun n4 h4 ad ax aa=>?_⟩;by_cases ag:f=lT
   case pos=>rw[if_pos ag]at hms;exact absurd hms.symm ho
   rw[if_neg ag]at hms;by_cases Y:f.err=0\/f.at'<0
   case pos=>rw[if_pos Y]at hms;exact absurd hms.symm ho
   rw[if_neg Y]at hms;have ao:f.err≠0:=fun U=>Y (.inl U);obtain⟨fe,fa⟩:=f;obtain⟨p,rfl⟩:∃ p:Nat,fa=p:=⟨fa.toNat,by have:¬fa<0:=fun U=>Y (.inr U);omega⟩;simp only at hms ao;by_cases hp:p<l.length
   .rw[if_pos om]at hms;rcases a2 with⟨rfl,hz⟩ | ⟨ff,rfl⟩
    .rw[hz]at hp;cases hp
    .have a1:(l.map Tok.av).length=l.length:=List.length_map _;have ay:(l.map Tok.av)[p]?=some (l.getD p iH).av:=(by rw[List.getElem?_map,List.getD_eq_getElem?_getD,List.getElem?_eq_getElem hp];rfl);refine z2 @sC.eq_1 a1 ?_;refine qCP [] [] kr ?_;refine z5 a1 ay @qCU @qBz @qB0 ?_;exact qC9<|.inr ⟨_,hms.symm,rfl⟩
   .rw[if_neg om]at hms;have bc:kR lv=.ret (.int .i64 l.length):=by
     rcases a2 with⟨e1,e2⟩ | ⟨f,e1⟩
     .rw[e1,e2];rfl
     .rw[e1];simp[kR]
    rcases a2 with⟨rfl,hz⟩ | ⟨ff,rfl⟩
    .refine z1 @sC.eq_1 ?_;refine qCP [] [] kr ?_;refine zz ?_;exact qC9<|.inr ⟨_,hms.symm,rfl⟩
    .have a1:(l.map Tok.av).length=l.length:=List.length_map _;refine z2 @sC.eq_1 a1 ?_;refine qCP [] [] kr ?_;refine zz ?_;exact qC9<|.inr ⟨_,hms.symm,rfl⟩
 .rw[he]at hms;simp only at hms;have b9:e.err≠0:=yX he;refine zz ?_;exact qC9<|.inr ⟨e,hms.symm,rfl⟩
end
section
variable {Gl:qC6}{Gm:qC7}{Kp:qC8}(S:Seat Gm Kp)
theorem Gx:Ox=P.end':=by
 funext s
 show (if s.pos<s.l.length then P.fail s else .ok ((),s))=P.bind (P.atEnd 0) (fun b=>if b then P.pure () else P.fail) s;unfold P.bind P.atEnd;by_cases h:s.pos<s.l.length
 .rw[if_pos h];simp only[show ¬s.l.length<=s.pos+0 by omega,decide_false,Bool.false_eq_true,if_false]
 .rw[if_neg h];simp only[show s.l.length<=s.pos+0 by omega,decide_true,if_true]
  rfl
theorem ca75 (args:List AV):aT Tryz.prog 75 args=.ret (.enter 75 args):=aH Tryz.func75 rfl kr args
theorem ca94 (args:List AV):aT Tryz.prog 94 args=.ret (.enter 94 args):=aH Tryz.func94 rfl kr args
include S
theorem KJ (f:Nat){o pm im:Nat}{lv:AV}(Me:aL Gl Gm Kp 76 [.ref o 0] o pm im lv (cS f) EN):aL Gl Gm Kp 75 [.ref o 0] o pm im lv (gM f) OE:=by
 refine aL.st fun n h cv s T0 ho=>qB6 S 10 [.tmp 2] Tryz.func75 fun _ _=>?_;have a7:=congrFun (gM.eq_1 f) s;obtain⟨_,_,_,_⟩:=T0.hd;refine zz ?_;refine qBt (Me) T0 a7 ho ?_;intro _ s1 v1 n1 h1 cv1 a2 a5 _ T1 _ _;obtain⟨M,rfl,U,O,_,a4,E1⟩:=a5.sh;refine z4 U a4 O @aB ?_;refine aA.stx (fun a6=>(T1.newc (.cells cC) (.cells M)).nx om a6) fun _ T2=>?_;rw[<- Gx]at a2;refine qBt (FZ S) T2 a2 ho ?_;intro _ s3 v3 _ _ _ a8 _ _ T3 _ _;have Y:=aM 1 104 dc dc;refine z6 T3.g1 U a4 O @aB Y ?_;exact qC9<|(T3).ends (a8) (⟨[.agg M],true,rfl,.cons E1 .nil,by simp⟩)
theorem Zy (f:Nat){o pm im:Nat}{lv:AV}(Me:aL Gl Gm Kp 95 [.ref o 0] o pm im lv (pE f) EN):aL Gl Gm Kp 94 [.ref o 0] o pm im lv (fZ f) OE:=by
 refine aL.st fun n h cv s T0 ho=>qB6 S 10 [.tmp 2] Tryz.func94 fun _ _=>?_;have a7:=congrFun (fZ.eq_1 f) s;obtain⟨_,_,_,_⟩:=T0.hd;refine zz ?_;refine qBt (Me) T0 a7 ho ?_;intro _ s1 v1 n1 h1 cv1 a2 a5 _ T1 _ _;obtain⟨M,rfl,U,O,_,a4,E1⟩:=a5.sh;refine z4 U a4 O @aB ?_;refine aA.stx (fun a6=>(T1.newc (.cells cC) (.cells M)).nx om a6) fun _ T2=>?_;rw[<- Gx]at a2;refine qBt (FZ S) T2 a2 ho ?_;intro _ s3 v3 _ _ _ a8 _ _ T3 _ _;have Y:=aM 1 104 dc dc;refine z6 T3.g1 U a4 O @aB Y ?_;exact qC9<|(T3).ends (a8) (⟨[.agg M],true,rfl,.cons E1 .nil,by simp⟩)
omit S in
def iV (r:Except kY (List Node)):Except kY Node:=
 match r with
 |.ok (x::_)=>.ok x
 |.ok []=>.error lT
 |.error e=>.error e
omit S in
theorem yK {w:List UInt8}{what:P (List Node)}{e:kY}(h:iI w what=.error e):e.err≠0:=by
 unfold iI at h;split at h
 .rename_i e' he;cases h;exact yX he
 .split at h
  .split at h
   .cases h;decide
   .split at h
    .cases h;decide
    .rename_i h0;split at h<;>(cases h;exact fun M=>h0 (.inl M))
  .split at h
   .split at h
    .cases h;decide
    .cases h
   .cases h;decide
theorem Vf (K:oS Kp)(TT:mE Gl Gm Kp)(hA:Gl 1=some dL)(f:Nat)(hf:f<1000000000)(w:List UInt8)(hw:w.length<1000000000)(ho:iV (iI w (gM f))≠.error lT){n:Nat}{h:Hp}{B:Nat->Prop}{Q:aS->Nat->Hp->Prop}
  (h1:∀ x,iV (iI w (gM f))=.ok x->∀ v n' h',EN x v->n<=n'->aE n' h'->(∀ t,t<n->h'.get t=h.get t)->Q (.returned (.tup [v,.int .i64 0,.int .i64 0])) n' h')
  (h2:∀ e,iV (iI w (gM f))=.error e->∀ n' h',n<=n'->aE n' h'->(∀ t,t<n->h'.get t=h.get t)->Q (.returned (.tup [sL,.int .i64 e.at',.int .i64 e.err])) n' h'):aG Tryz.prog Gl Gm Kp 24 [.str w] n h B Q:=by
 refine aG.mono (B:=fun _=>False) (Q:=fun e n' h'=>(∃ x v,iV (iI w (gM f))=.ok x/\e=.returned (.tup [v,.int .i64 0,.int .i64 0])/\EN x v)\/∃ q:kY,iV (iI w (gM f))=.error q/\e=.returned (.tup [sL,.int .i64 q.at',.int .i64 q.err])) ?_ (fun _ _ h=>h.elim) (fun e n' h' x1 x2 x3 x4=>by
  rcases x4 with⟨x,v,e1,rfl,e3⟩ | ⟨q,e1,rfl⟩
  .exact h1 x e1 v n' h' e3 x1 x2 fun t ht=>x3 t ht id
  .exact h2 q e1 n' h' x1 x2 fun t ht=>x3 t ht id)
 refine qB6 S 14 [.cell 2 32,.tmp 3,.tmp 4] Tryz.func24 fun _ _=>?_;have aa:iI w (gM f)≠.error lT:=fun hc=>ho (by rw[hc];rfl);refine zz ?_;refine qCK (Wl S TT hA ca75 (fun o pm im lv=>KJ S f (OF S K f hf).expr) w hw aa (fun xs a5 v n1 a6 hv a3 a8 O=>?_) fun e he n1 a6 a3 a8 O=>?_)
 .obtain⟨vs,vf,rfl,ab,_⟩:=hv;have g0:=(O n om).trans ((zc):_=some (aK.cells [.int .i64 0,.int .i64 0,.str [],.bool false,.sl0,.sl0,.int .i64 0,.int .i64 0]));cases ab with
  |nil=>exact absurd (show iV (iI w (gM f))=.error lT by rw[a5];rfl) ho
  |@cons x v l vs ev evs=>
   obtain⟨cs,rfl,a2,Y,a1⟩:=ev.shape;have ht:List.take 8 cs=cs:=List.take_of_length_le om;refine zz ?_;refine qCK ((GG S vf vs a2 Y a1).use fun n2 a7 a4 a9 U=>?_);have M:=(U n om).trans g0;refine z5 a2 ht Y @aB M ?_;rw[aD _ _ _ _ a1];refine zz ?_;exact qC9<|.inl ⟨x,_,by rw[a5];rfl,rfl,ev⟩
 .have g0:=(O n om).trans ((zc):_=some (aK.cells [.int .i64 0,.int .i64 0,.str [],.bool false,.sl0,.sl0,.int .i64 0,.int .i64 0]));refine zz ?_;refine qCK ((GF S .sl0 e.at' e.err (yK he)).use fun n2 a7 a4 a9 U=>?_);have M:=(U n om).trans g0;refine z2 @sL.eq_1 M ?_;exact qC9<|.inr ⟨e,by rw[he];rfl,rfl⟩
theorem NU (K:oS Kp){o pm im:Nat}{lv:AV}(k:Nat)(hk:k<1000000000):aL Gl Gm Kp 149 [.ref o 0] o pm im lv (Oz k) EN:=by
 have A:=OF S K (o:=o) (pm:=pm) (im:=im) (lv:=lv) (Gl:=Gl) k hk;exact SX S K.k146 k hk (As S K.k295 k hk) (Ty S k A.expr) (fun a fr=>KF S k a fr A.expr) A.inst A.definition
theorem Ws (K:oS Kp)(TT:mE Gl Gm Kp)(hA:Gl 1=some dL)(f:Nat)(hf:f<1000000000)(w:List UInt8)(hw:w.length<1000000000)(ho:iV (iI w (fZ f))≠.error lT){n:Nat}{h:Hp}{B:Nat->Prop}{Q:aS->Nat->Hp->Prop}
  (h1:∀ x,iV (iI w (fZ f))=.ok x->∀ v n' h',EN x v->n<=n'->aE n' h'->(∀ t,t<n->h'.get t=h.get t)->Q (.returned (.tup [v,.int .i64 0,.int .i64 0])) n' h')
  (h2:∀ e,iV (iI w (fZ f))=.error e->∀ n' h',n<=n'->aE n' h'->(∀ t,t<n->h'.get t=h.get t)->Q (.returned (.tup [sL,.int .i64 e.at',.int .i64 e.err])) n' h'):aG Tryz.prog Gl Gm Kp 39 [.str w] n h B Q:=by
 refine aG.mono (B:=fun _=>False) (Q:=fun e n' h'=>(∃ x v,iV (iI w (fZ f))=.ok x/\e=.returned (.tup [v,.int .i64 0,.int .i64 0])/\EN x v)\/∃ q:kY,iV (iI w (fZ f))=.error q/\e=.returned (.tup [sL,.int .i64 q.at',.int .i64 q.err])) ?_ (fun _ _ h=>h.elim) (fun e n' h' x1 x2 x3 x4=>by
  rcases x4 with⟨x,v,e1,rfl,e3⟩ | ⟨q,e1,rfl⟩
  .exact h1 x e1 v n' h' e3 x1 x2 fun t ht=>x3 t ht id
  .exact h2 q e1 n' h' x1 x2 fun t ht=>x3 t ht id)
 refine qB6 S 14 [.cell 2 32,.tmp 3,.tmp 4] Tryz.func39 fun _ _=>?_;have aa:iI w (fZ f)≠.error lT:=fun hc=>ho (by rw[hc];rfl);refine zz ?_;refine qCK (Wl S TT hA ca94 (fun o pm im lv=>Zy S f (GC S K.k146 f hf fun k h=>NU S K k om)) w hw aa (fun xs a5 v n1 a6 hv a3 a8 O=>?_) fun e he n1 a6 a3 a8 O=>?_)
 .obtain⟨vs,vf,rfl,ab,_⟩:=hv;have g0:=(O n om).trans ((zc):_=some (aK.cells [.int .i64 0,.int .i64 0,.str [],.bool false,.sl0,.sl0,.int .i64 0,.int .i64 0]));cases ab with
  |nil=>exact absurd (show iV (iI w (fZ f))=.error lT by rw[a5];rfl) ho
  |@cons x v l vs ev evs=>
   obtain⟨cs,rfl,a2,Y,a1⟩:=ev.shape;have ht:List.take 8 cs=cs:=List.take_of_length_le om;refine zz ?_;refine qCK ((GG S vf vs a2 Y a1).use fun n2 a7 a4 a9 U=>?_);have M:=(U n om).trans g0;refine z5 a2 ht Y @aB M ?_;rw[aD _ _ _ _ a1];refine zz ?_;exact qC9<|.inl ⟨x,_,by rw[a5];rfl,rfl,ev⟩
 .have g0:=(O n om).trans ((zc):_=some (aK.cells [.int .i64 0,.int .i64 0,.str [],.bool false,.sl0,.sl0,.int .i64 0,.int .i64 0]));refine zz ?_;refine qCK ((GF S .sl0 e.at' e.err (yK he)).use fun n2 a7 a4 a9 U=>?_);have M:=(U n om).trans g0;refine z2 @sL.eq_1 M ?_;exact qC9<|.inr ⟨e,by rw[he];rfl,rfl⟩
end
section
variable {Gl:qC6}{Gm:qC7}{Kp:qC8}(S:Seat Gm Kp)
mutual
def Node.same:Node->Node->Bool
 |.mk k n s g _ l _ _,.mk k2 n2 s2 g2 _ l2 _ _=>decide (k=k2)&&(decide (n=n2)&&((s==s2)&&((g==g2)&&(decide (l.length=l2.length)&&uA l l2))))
def uA:List Node->List Node->Bool
 |x::r,y::r2=>x.same y&&uA r r2
 |_,_=>true
end
def OQ:AV->Bool
 |.sl0=>true
 |_=>false
mutual
def Node.plain:Node->Bool
 |.mk _ _ _ _ d l _ _=>OQ d&&Cj l
def Cj:List Node->Bool
 |[]=>true
 |x::r=>x.plain&&Cj r
end
theorem Lj {d:AV}(h:OQ d=true):d=.sl0:=by cases d<;>first | rfl | cases h
theorem uR:∀(l:List Node) (_:Cj l=true) (j:Nat) (hj:j<l.length),l[j].plain=true
 |x::r,h,0,_=>by unfold Cj at h;simp only[Bool.and_eq_true]at h;exact h.1
 |x::r,h,j+1,hj=>by unfold Cj at h;simp only[Bool.and_eq_true]at h;exact uR r h.2 j (Nat.lt_of_succ_lt_succ hj)
theorem Cq:∀(l m:List Node) (j:Nat) (h1:j<l.length) (h2:j<m.length),uA (l.drop j) (m.drop j)=(l[j].same m[j]&&uA (l.drop (j+1)) (m.drop (j+1)))
 |x::l,y::m,0,_,_=>by simp[uA]
 |x::l,y::m,j+1,h1,h2=>by simpa using Cq l m j (Nat.lt_of_succ_lt_succ h1) (Nat.lt_of_succ_lt_succ h2)
theorem neqB (a b lit:Bool):cL Tryz.prog .neq 4 lit (.bool a) (.bool b)=some (.bool (!(a==b))):=by
 cases a<;>cases b<;>cases lit<;>kernel_rfl
include S
theorem HD:∀(k:Nat) (x y:Node) (v u:AV),EN x v->EN y u->x.plain=true->y.plain=true->x.cnt<=k->y.cnt<=1000000->x.cnt<=1000000->cD Gl Gm Kp 67 [v,u] (.bool (x.same y)):=by
 intro k
 induction k with
 |zero=>intro x y v u _ _ _ _ hk;have:=zN x;omega
 |succ k ih=>
  intro x y v u ex ey px py hk au ap;refine cD.fin fun n h hl=>qB6 S 95 [.tmp 4] Tryz.func67 fun hB _=>?_;cases ex with
  |@mk k1 n1 s1 g1 d1 l1 a1 e1 lv1 hd1 ho1 hl1=>
  cases ey with
  |@mk k2 n2 s2 g2 d2 l2 a2 e2 lv2 hd2 ho2 hl2=>
  unfold Node.plain at px py;simp only[Bool.and_eq_true]at px py;obtain⟨ax,az⟩:=px;obtain⟨ay,b0⟩:=py;have e1:=Lj ax;have e2:=Lj ay;subst e1;subst e2;unfold Node.cnt at hk ap au;unfold Node.same;have b5:=vL l1;have b6:=vL l2;have M:=hl1.one;have O:=hl2.one;have a4:=fun l=>neqB g1 g2 l;have al:kR lv1=.ret (.int .i64 l1.length):=by
   cases hl1 with
   |nil=>rfl
   |vec hv=>simp[kR,hv.length]
  have an:kR lv2=.ret (.int .i64 l2.length):=by
   cases hl2 with
   |nil=>rfl
   |vec hv=>simp[kR,hv.length]
  by_cases a5:k1=k2
  case neg=>
   refine z3 M O a5 ?_;refine qCI fun _ _ _=>?_;simp[a5]
  subst a5;by_cases a6:n1=n2
  case neg=>
   refine z3 M O a6 ?_;refine qCI fun _ _ _=>?_;simp[a6]
  subst a6;cases hs12:s1==s2
  case false=>
   refine z3 M O hs12 ?_;refine qCI fun _ _ _=>?_;simp[hs12]
  cases hg12:g1==g2
  case false=>
   refine z5 M O hs12 a4 hg12 ?_;refine qCI fun _ _ _=>?_;simp[hg12]
  by_cases a3:l1.length=l2.length
  case neg=>
   cases hl1 with
   |nil=>
    cases hl2 with
    |nil=>exact absurd rfl a3
    |vec hv2=>
     have Y:=hv2.length;rw[List.length_nil]at a3;refine z6 M O hs12 a4 hg12 Y ?_;refine qCI fun _ _ _=>?_;simp[a3]
   |vec hv1=>
    have U:=hv1.length;cases hl2 with
    |nil=>
     rw[List.length_nil]at a3;refine z6 M O hs12 a4 hg12 U ?_;refine qCI fun _ _ _=>?_;simp[a3]
    |vec hv2=>
     have Y:=hv2.length;refine z7 M O hs12 a4 hg12 U Y ?_;refine qCI fun _ _ _=>?_;simp[a3]
  have a8:(decide (k1=k1)&&(decide (n1=n1)&&(true&&(true&&(decide (l1.length=l2.length)&&uA l1 l2)))))=uA l1 l2:=(by simp[a3]);rw[a8];cases hl1 with
  |nil=>
   have ad:l2=[]:=List.length_eq_zero_iff.1 (by rw[<- a3];rfl);subst ad;cases hl2 with
   |nil=>
    have U:True:=trivial;have Y:True:=trivial;refine z8 M O hs12 a4 hg12 U Y a3 ?_;refine qCu (fun m E nn hh=>E=[(2,.ref n 0),(3,.ref (n+1) 0),(5,.int .i64 0)]/\n+2<=nn/\hh.get n=some (.cells [.int .i64 k1,.int .i64 n1,.str s1,.bool g1,.sl0,.sl0,.int .i64 a1,.int .i64 e1])/\hh.get (n+1)=some (.cells [.int .i64 k1,.int .i64 n1,.str s2,.bool g2,.sl0,.sl0,.int .i64 a2,.int .i64 e2])) 0 ⟨rfl,by omega,zc,zc⟩ ?_;rintro m E nn1 hh1 hlk hBk ⟨rfl,hnn1,q1,q2⟩;refine z2 q1 q2 ?_;refine qCu (fun m E nn hh=>E=[(2,.ref n 0),(3,.ref (n+1) 0),(6,.int .i64 0)]/\hh.get n=some (.cells [.int .i64 k1,.int .i64 n1,.str s1,.bool g1,.sl0,.sl0,.int .i64 a1,.int .i64 e1])) 0 ⟨rfl,q1⟩ ?_;rintro m E nn2 hh2 hlk2 hBk2 ⟨rfl,r1⟩;refine z1 r1 ?_;exact qC9<|rfl
   |@vec _ ys f2 hv2=>
    cases hv2;have U:True:=trivial;have Y:True:=trivial;refine z8 M O hs12 a4 hg12 U Y a3 ?_;refine qCu (fun m E nn hh=>E=[(2,.ref n 0),(3,.ref (n+1) 0),(5,.int .i64 0)]/\n+2<=nn/\hh.get n=some (.cells [.int .i64 k1,.int .i64 n1,.str s1,.bool g1,.sl0,.sl0,.int .i64 a1,.int .i64 e1])/\hh.get (n+1)=some (.cells [.int .i64 k1,.int .i64 n1,.str s2,.bool g2,.sl0,(.vec [] 8 f2),.int .i64 a2,.int .i64 e2])) 0 ⟨rfl,by omega,zc,zc⟩ ?_;rintro m E nn1 hh1 hlk hBk ⟨rfl,hnn1,q1,q2⟩;refine z2 q1 q2 ?_;refine qCu (fun m E nn hh=>E=[(2,.ref n 0),(3,.ref (n+1) 0),(6,.int .i64 0)]/\hh.get n=some (.cells [.int .i64 k1,.int .i64 n1,.str s1,.bool g1,.sl0,.sl0,.int .i64 a1,.int .i64 e1])) 0 ⟨rfl,q1⟩ ?_;rintro m E nn2 hh2 hlk2 hBk2 ⟨rfl,r1⟩;refine z1 r1 ?_;exact qC9<|rfl
  |@vec _ xs f1 hv1=>
   have U:=hv1.length;cases hl2 with
   |nil=>
    have ac:l1=[]:=List.length_eq_zero_iff.1 (by rw[a3];rfl);subst ac;cases hv1;have U:True:=trivial;have Y:True:=trivial;refine z8 M O hs12 a4 hg12 U Y a3 ?_;refine qCu (fun m E nn hh=>E=[(2,.ref n 0),(3,.ref (n+1) 0),(5,.int .i64 0)]/\n+2<=nn/\hh.get n=some (.cells [.int .i64 k1,.int .i64 n1,.str s1,.bool g1,.sl0,(.vec [] 8 f1),.int .i64 a1,.int .i64 e1])/\hh.get (n+1)=some (.cells [.int .i64 k1,.int .i64 n1,.str s2,.bool g2,.sl0,.sl0,.int .i64 a2,.int .i64 e2])) 0 ⟨rfl,by omega,zc,zc⟩ ?_;rintro m E nn1 hh1 hlk hBk ⟨rfl,hnn1,q1,q2⟩;refine z2 q1 q2 ?_;refine qCu (fun m E nn hh=>E=[(2,.ref n 0),(3,.ref (n+1) 0),(6,.int .i64 0)]/\hh.get n=some (.cells [.int .i64 k1,.int .i64 n1,.str s1,.bool g1,.sl0,(.vec [] 8 f1),.int .i64 a1,.int .i64 e1])) 0 ⟨rfl,q1⟩ ?_;rintro m E nn2 hh2 hlk2 hBk2 ⟨rfl,r1⟩;refine z1 r1 ?_;exact qC9<|rfl
   |@vec _ ys f2 hv2=>
    have Y:=hv2.length;refine z8 M O hs12 a4 hg12 U Y a3 ?_;refine qCu (fun m E nn hh=>E=[(2,.ref n 0),(3,.ref (n+1) 0),(5,.int .i64 0)]/\n+2<=nn/\hh.get n=some (.cells [.int .i64 k1,.int .i64 n1,.str s1,.bool g1,.sl0,(.vec xs 8 f1),.int .i64 a1,.int .i64 e1])/\hh.get (n+1)=some (.cells [.int .i64 k1,.int .i64 n1,.str s2,.bool g2,.sl0,(.vec ys 8 f2),.int .i64 a2,.int .i64 e2])) 0 ⟨rfl,by omega,zc,zc⟩ ?_;rintro m E nn1 hh1 hlk hBk ⟨rfl,hnn1,q1,q2⟩;refine z2 q1 q2 ?_;refine qCu (fun m E nn hh=>∃ j:Nat,E=[(2,.ref n 0),(3,.ref (n+1) 0),(6,.int .i64 j)]/\j+m=l1.length/\n+2<=nn/\hh.get n=some (.cells [.int .i64 k1,.int .i64 n1,.str s1,.bool g1,.sl0,.vec xs 8 f1,.int .i64 a1,.int .i64 e1])/\hh.get (n+1)=some (.cells [.int .i64 k1,.int .i64 n1,.str s2,.bool g2,.sl0,.vec ys 8 f2,.int .i64 a2,.int .i64 e2])/\uA l1 l2=uA (l1.drop j) (l2.drop j)) l1.length ⟨0,rfl,by omega,hnn1,q1,q2,by simp⟩ ?_
    .rintro m E nn2 hh2 hlk2 hBk2 ⟨j,rfl,hjm,hnn2,r1,r2,hsd⟩;by_cases hj:j<l1.length
     .have a7:j<l2.length:=om;obtain⟨vj,ar,a9⟩:=hv1.at j hj;obtain⟨uj,aw,aa⟩:=hv2.at j a7;rw[Cq l1 l2 j hj a7]at hsd;have b8:=vK l1 j hj;have b3:=vK l2 j a7;have aj:=ih l1[j] l2[j] vj uj a9 aa (uR l1 az j hj) (uR l2 b0 j a7) om om om;obtain⟨cs,rfl,ag,ae,b7⟩:=a9.shape;obtain⟨ds,rfl,ai,ah,b9⟩:=aa.shape;have ht:List.take 8 cs=cs:=List.take_of_length_le om;have ao:List.take 8 ds=ds:=List.take_of_length_le om;refine z4 r1 r2 U Y ?_;refine qCP [] [] kr ?_;refine TA r1 r2 U Y ar aw ag ai ht ao ae (And.intro ah (And.intro @aB @qCU)) ?_;refine qCN (fun _=>False) (fun _ _ h=>h.elim) (aj.use fun n3 h3 b4 ba ab=>?_);have b1:=(ab n om).trans r1;have b2:=(ab (n+1) om).trans r2;cases hsj:l1[j].same l2[j] with
      |true=>
       rw[hsj,Bool.true_and]at hsd;refine gg ?_;refine qCT fun nx U Y=>?_;refine zz ?_;refine aU.mq (m-1) ⟨j+1,rfl,by omega,by omega,b1,b2,hsd⟩
      |false=>
       rw[hsj,Bool.false_and]at hsd;rw[hsd];refine gg ?_;refine qCT fun nx U Y=>?_;refine zz ?_;exact qC9<|rfl
     .have ak:j=l1.length:=om;subst ak;have ht:uA l1 l2=true:=(by rw[hsd,List.drop_length];cases (List.drop l1.length l2)<;>rfl);rw[ht];refine z2 r1 U ?_;exact qC9<|rfl
end
end Go.Proofs.Pa

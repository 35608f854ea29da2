/- Part 4 of a proof of ParsePrecedence (for all texts p, q): what it rests on. -/
import Derived.Test.YtdmchkjlgppagaaGreatDoorMC
set_option linter.all false
set_option maxRecDepth 100000
set_option maxHeartbeats 8000000
namespace Go.Proofs.Pa
open Go.Ez Go.Proofs.Vt
section
variable {Gl:qC6}{Gm:qC7}{Kp:qC8}(S:Seat Gm Kp)
section
variable {n n1 n2:Nat}{h h1 h2:Hp}{o pm im:Nat}{lv cv cv1 cv2:AV}{X:List (Nat×aK)}{s s1 s2:PS}
theorem eB.ownNoMap {t:Nat}{x:List (AV×AV)}(R:eB h o pm im lv cv s)(e:h.get t=some (.map x)):¬Own o cv t:=by
 rintro (rfl | ⟨k,rfl⟩)
 .rw[R.obj]at e;cases e
 .rcases R.cols with⟨hc,_⟩ | ⟨oc,xs,hc,hx,_⟩
  .cases hc
  .cases hc;rw[hx]at e;cases e
theorem St.cols {cvx:AV}{cols':List Int}(T:St n h o pm im lv cv X s1 n1 h1 cv1)(hle:n1<=n2)(hl:aE n2 h2)(hobj:h2.get o=some (.cells [.map pm,.map im,lv,.int .i64 s1.pos,cvx]))(hc:vD h2 cvx cols')(hlen:cols'.length<1000000000)
  (hk:∀ t,t<n1->¬Own o cv1 t->h2.get t=h1.get t) (hown:∀ t,Own o cvx t->Own o cv1 t\/n1<=t):St n h o pm im lv cv X {s1 with cols:=cols'} n2 h2 cvx:=
 T.step ⟨hle,hl,⟨hobj,T.rep.toks,hc,T.rep.len,T.rep.flat,T.rep.pos,hlen,T.rep.tabs.stable fun t x e=>(hk t (aN T.lt e) (T.rep.ownNoMap e)).trans e⟩,hk,hown⟩
theorem St.popc {oc:Nat}(T:St n h o pm im lv cv X s1 n1 h1 (.sl oc 0 s1.cols.length))(hne:s1.cols≠[]):St n h o pm im lv cv X {s1 with cols:=s1.cols.dropLast} n1 (h1.put o (.cells [.map pm,.map im,lv,.int .i64 s1.pos,.sl oc 0 (s1.cols.length-1)])) (.sl oc 0 (s1.cols.length-1)):=by
 have a2:=aN T.lt T.obj;obtain⟨oc',xs,hcv,hx,hl,O⟩:∃ oc' xs,AV.sl oc 0 s1.cols.length=.sl oc' 0 s1.cols.length/\h1.get oc'=some (.arr 1 xs)/\s1.cols.length<=xs.length/\xs.take s1.cols.length=s1.cols.map (.int .i64 ·):=by
  rcases T.rep.cols with⟨hc,_⟩ | hc
  .cases hc
  .exact hc
 cases hcv;have U:oc≠o:=(by rintro rfl;rw[T.obj]at hx;cases hx);have M:s1.cols.dropLast.length=s1.cols.length-1:=List.length_dropLast;have a1:0<s1.cols.length:=List.length_pos_iff.2 hne;refine T.cols (Nat.le_refl _) (fun t O=>?_) (by rw[qCf,if_pos rfl]) (.inr ⟨oc,xs,by rw[M],by rw[qCf,if_neg U];exact hx,by omega,?_⟩) (by rw[M];have:=T.rep.clen;omega) (fun t O hn=>?_) fun t O=>?_
 .rw[qCf,if_neg om];exact T.lt t O
 .rw[M];have Y:=congrArg (List.take (s1.cols.length-1)) O;rw[List.take_take,Nat.min_eq_left om]at Y;rw[Y,<- List.map_take,<- List.dropLast_eq_take]
 .rw[qCf,if_neg (fun e=>hn (.inl e))]
 .rcases O with rfl | ⟨k,hk⟩
  .exact .inl (.inl rfl)
  .cases hk;exact .inl (.inr ⟨_,rfl⟩)
theorem St.push0 (T:St n h o pm im lv cv X s1 n1 h1 .sl0)(c:Int)(hc0:s1.cols=[]):St n h o pm im lv cv X {s1 with cols:=s1.cols++[c]} (n1+1) (Hp.put ((n1,.arr 1 [.int .i64 c])::h1) o (.cells [.map pm,.map im,lv,.int .i64 s1.pos,.sl n1 0 1])) (.sl n1 0 1):=by
 have O:=aN T.lt T.obj;refine T.cols om (fun t M=>?_) (by rw[qCf,if_pos rfl]) (.inr ⟨n1,[.int .i64 c],by simp[hc0],by rw[qCf,if_neg om,bM],by simp[hc0],by simp[hc0]⟩) (by simp[hc0]) (fun t M U=>?_) fun t M=>?_
 .rw[qCf,if_neg om,aX _ _ _ _ om];exact T.lt t om
 .rw[qCf,if_neg (fun e=>U (.inl e)),aX _ _ _ _ om]
 .rcases M with rfl | ⟨k,hk⟩
  .exact .inl (.inl rfl)
  .cases hk;exact .inr (Nat.le_refl _)
theorem St.push1 {oc:Nat}{xs:List AV}(T:St n h o pm im lv cv X s1 n1 h1 (.sl oc 0 s1.cols.length))(c:Int)(hx:h1.get oc=some (.arr 1 xs))(hxl:s1.cols.length+1<=xs.length)(ht:xs.take s1.cols.length=s1.cols.map (.int .i64 ·))(hcl:s1.cols.length+1<1000000000) :
  St n h o pm im lv cv X {s1 with cols:=s1.cols++[c]} n1 (Hp.put (Hp.put h1 oc (.arr 1 (xs.take s1.cols.length++AV.int .i64 c::xs.drop (s1.cols.length+1)))) o (.cells [.map pm,.map im,lv,.int .i64 s1.pos,.sl oc 0 (s1.cols.length+1)])) (.sl oc 0 (s1.cols.length+1)):=by
 have a1:=aN T.lt T.obj;have a2:=aN T.lt hx;have O:oc≠o:=(by rintro rfl;rw[T.obj]at hx;cases hx);have M:(xs.take s1.cols.length).length=s1.cols.length:=(by rw[List.length_take];omega);refine T.cols (Nat.le_refl _) (fun t ht=>?_) (by rw[qCf,if_pos rfl]) (.inr ⟨oc,_,by simp,by rw[qCf,if_neg O,qCf,if_pos rfl],?_,?_⟩) (by simp;omega) (fun t ht U=>?_) fun t ht=>?_
 .rw[qCf,if_neg om,qCf,if_neg om];exact T.lt t ht
 .simp[M]
 .have Y:xs.take s1.cols.length++AV.int .i64 c::xs.drop (s1.cols.length+1)=(xs.take s1.cols.length++[AV.int .i64 c])++xs.drop (s1.cols.length+1):=sm;rw[Y,List.take_append_of_le_length (by simp[M]),List.take_of_length_le (by simp[M]),ht,List.map_append]
  rfl
 .rw[qCf,if_neg (fun e=>U (.inl e)),qCf,if_neg (fun e=>U (.inr ⟨_,by rw[e]⟩))]
 .rcases ht with rfl | ⟨k,hk⟩
  .exact .inl (.inl rfl)
  .cases hk;exact .inl (.inr ⟨_,rfl⟩)
theorem St.push2 {oc:Nat}{xs:List AV}(T:St n h o pm im lv cv X s1 n1 h1 (.sl oc 0 s1.cols.length))(c:Int)(hx:h1.get oc=some (.arr 1 xs))(hxl:s1.cols.length=xs.length)(ht:xs.take s1.cols.length=s1.cols.map (.int .i64 ·))(hcl:s1.cols.length+1<1000000000) :
  St n h o pm im lv cv X {s1 with cols:=s1.cols++[c]} (n1+1) (Hp.put ((n1,.arr 1 (xs++[.int .i64 c]))::h1.del oc) o (.cells [.map pm,.map im,lv,.int .i64 s1.pos,.sl n1 0 (s1.cols.length+1)])) (.sl n1 0 (s1.cols.length+1)):=by
 have U:=aN T.lt T.obj;have Y:=aN T.lt hx;have O:oc≠o:=(by rintro rfl;rw[T.obj]at hx;cases hx);refine T.cols om (fun t ht=>?_) (by rw[qCf,if_pos rfl]) (.inr ⟨n1,xs++[.int .i64 c],by simp,by rw[qCf,if_neg om,bM],by simp[hxl],?_⟩) (by simp;omega) (fun t ht M=>?_) fun t ht=>?_
 .rw[qCf,if_neg om,aX _ _ _ _ om,qCe];split
  .rfl
  .exact T.lt t om
 .rw[List.take_of_length_le (by simp[hxl]),List.map_append,<- ht,hxl,List.take_length]
  rfl
 .rw[qCf,if_neg (fun e=>M (.inl e)),aX _ _ _ _ om,lX _ _ _ (fun e=>M (.inr ⟨_,by rw[e]⟩))]
 .rcases ht with rfl | ⟨k,hk⟩
  .exact .inl (.inl rfl)
  .cases hk;exact .inr (Nat.le_refl _)
theorem _root_.Go.Ez.eL.lt2 {n0 n:Nat}{hp:Hp}{k:Nat->Prop}{t}(hl:aE n hp)(w:∀ nx,n0<=nx->nx<=n->aE nx hp->k nx):eL n0 n hp k t:=fun nx a b c=>by
 refine w nx a b ?_;rcases c with e | c
 .have:nx=n:=om;subst this;exact hl
 .exact c
theorem aP.st {Gl:qC6}{Gm:qC7}{Kp:qC8}{x:Ctx}{c:Code}{E:Env}{B:Nat->Prop}{k:dZ}{t u}(T:St n h o pm im lv cv X s1 n1 h1 cv1)(w:∀ hX,St n h o pm im lv cv X s1 n1 hX cv1->aP Tryz.prog Gl Gm Kp x c E n1 hX B k t u):aP Tryz.prog Gl Gm Kp x c E n1 h1 B k t u:=w h1 T
theorem P.push_ok {α:Type}{c:Int}{g:Unit->P α}{s:PS}(ho:(P.push c >>= g) s≠.error Pa.lT):s.cols.length+1<1000000000/\P.push c s=.ok ((),{s with cols:=s.cols++[c]}):=by
 by_cases h:s.cols.length+1<1000000000
 .exact⟨h,by unfold P.push;rw[if_pos h]⟩
 .exact absurd (P.err_bind (by unfold P.push;rw[if_neg h])) ho
theorem qCm {α:Type}{g:Unit->P α}{s:PS}(ho:(P.pop >>= g) s≠.error Pa.lT):s.cols≠[]/\P.pop s=.ok ((),{s with cols:=s.cols.dropLast}):=by
 by_cases h:s.cols=[]
 .exact absurd (P.err_bind (by unfold P.pop;rw[h];rfl)) ho
 .have:s.cols.isEmpty=false:=(by simpa using h);exact⟨h,by unfold P.pop;rw[this];rfl⟩
end
include S
theorem Xl {o pm im:Nat}{lv:AV}(f:Nat)(hf:f<1000000000)(Me:∀ k,k<=f->aL Gl Gm Kp 76 [.ref o 0] o pm im lv (cS k) EN):aL Gl Gm Kp 331 [.ref o 0] o pm im lv (oO (f+1)) EN:=by
 refine aL.st fun n h cv s T0 ho=>qB6 S 62 [.cell 2 32] Tryz.func331 fun _ _=>?_;have bv:=congrFun (oO.eq_2 f) s;obtain⟨_,_,_,_⟩:=T0.hd;refine zz ?_;refine aA.st (T0.cell (.cells cC)) fun _ T1=>?_;refine qCK (qBx (gO S 0 dc) T1 fun n4 _ _ T4=>?_);have bw:=bv.trans (P.ok_bind (x:=P.tok 0) rfl);obtain⟨_,bu⟩:=eF T1.rep 0;generalize s.token 0=t at *;refine z3 @qBz @qB0 bu ?_;refine qCQ (E0:=[(0,.ref o 0),(2,.ref n 0),(3,.ref n4 0),(4,.ref (n4+1) 0)]) (fun k E nn hh=>∃(L:LS) (l:List Node) (s2:PS) (cv2:AV),E=[(0,.ref o 0),(2,.ref n 0),(3,.ref n4 0),(4,.ref (n4+1) 0)]/\oO (f+1) s=(nM k t l >>= fun l=>P.pure (nd 23 t.s l)) s2/\EV l L.xs/\(L=.nil\/∃ b xs,L=.arr b xs xs.length/\xs≠[])/\l.length+k=f/\n4+2<=nn/\
   (aE nn hh->St n h o pm im lv cv (L.objs++[(n4+1,.cells (bC 23 0 t.s L.val)),(n4,.cells t.cells),(n,.cells cC)]) s2 nn hh cv2)) f ?_ ?_ ?_
 .exact sb
 .exact⟨.nil,[],_,cv,rfl,bw,.nil,.inl rfl,by simp,by omega,fun _=>(T4.newc _ (.cells t.cells)).newc _ (.cells (bC 23 0 t.s .sl0))⟩
 .rintro k E nn hh hlk hBk ⟨L,l,s5,cv5,rfl,hm5,ev5,hL,hlen5,hnn,T5⟩;cases k with
  |zero=>exact absurd hm5 (fun hc=>ho hc)
  |succ k=>
   have T5:=T5 hlk;have c8:=T5.le;have c5:=T5.rep.len;rw[nM.eq_2]at hm5;refine zz ?_;rcases hL with rfl | ⟨b,xs,rfl,hxs⟩
   .simp only[LS.objs,LS.val,LS.xs,List.nil_append]at T5 ev5;cases ev5;rw[qCk]at hm5;refine qCP [(6,9)] [ (6,8),(6,9)] kr ?_;refine z2 T5.g2 @qB0 ?_;refine qCN (fun _=>False) (fun _ _ h=>h.elim) (qBx (sI S 0 dc t.s) T5 fun n6 h6 bq T6=>?_);have a3:=hm5.trans (P.ok_bind (x:=P.is 0 t.s) rfl);cases hi:s5.isSign 0 t.s with
    |false=>
     rw[hi]at a3;replace a3:=nf a3;rw[qCn]at a3;refine g1 hi ?_;refine qCT fun nx be bg=>?_;refine z4 T6.g1 T6.g3 @qCE @qCD ?_;exact qC9<|(T6.set3 _).ends (a3) (.mk rfl rfl .nil)
    |true=>
     rw[hi]at a3;replace a3:=nt a3;rw[qCk]at a3;refine g1 hi ?_;refine qCN (fun _=>False) (fun _ _ h=>h.elim) (qBx (gO S 0 dc) T6 fun n7 h7 br T7=>?_);have ai:=a3.trans (P.ok_bind (x:=P.tok 0) rfl);obtain⟨bp,ak⟩:=eF T6.rep 0;by_cases a9:(s5.token 0).col=t.col
     .rw[if_pos a9,qCk]at ai;have b1:decide ((s5.token 0).col=t.col)=true:=decide_eq_true a9;refine g5 @qBz @qB0 ak T7.g2 b1 ?_;refine eL.lt2 T7.lt fun nx be bg bi=>?_;have T7:=T7.nx om bi;obtain⟨b5,bd⟩:=cJ (fun hc=>ho (ai.trans hc));have b2:=ai.trans (P.ok_bind bd);refine z2 T7.obj @aQ ?_;rw[qCk]at b2;obtain⟨ap,b3⟩:=P.push_ok (fun hc=>ho (b2.trans hc));have ap:s5.cols.length+1<1000000000:=ap;have ar:=b2.trans (P.ok_bind b3);rw[qCk]at ar;refine qCP [] [] kr ?_;rcases T7.rep.cols with⟨rfl,hc⟩ | ⟨oc7,ys7,rfl,hoc7,hol7,hot7⟩
      .have a2:=aM 1 8 dc dc;refine z5 T7.g2 T7.obj @qB0 a2 @aQ ?_;refine eL.lt om fun bl bj bk ao=>?_;refine zz ?_;refine aP.st ((((T7.pos b5).push0 t.col hc).nx om ao)) fun h9 T9=>?_;have a1:=aM (1) 104 om om;refine qCP [(1,3)] [] kr ?_;refine z2 T9.g1 @qCE ?_;refine qBv (Me k om) T9 ar ho T9.o1 ?_;intro ab bh zK n12 b6 au U a4 ae ag M ay aw;obtain⟨Y,rfl,a6,a5,ax,az,aa⟩:=a4.sh;refine z1 T9.o1 ?_;refine qCJ om ?_;refine z6 a6 a5 @aB a1 M.g1 @qCE ?_;refine qCT fun b0 al an=>?_;refine zz ?_;rw[qCk]at U;obtain⟨O,a8⟩:=qCm (fun hc=>ho (U.trans hc));have a7:=U.trans (P.ok_bind a8);rcases M.rep.cols with⟨_,hc⟩ | ⟨oc,ys,hcv,hoc,hol,hot⟩
       .exact absurd hc O
       subst hcv;have bc:=List.length_pos_iff.2 O;have ac:=M.rep.clen;have ba:=aN M.lt hoc;have b9:n4+1≠oc:=fun e=>(of_eq_false M.o1) (.inr ⟨_,by rw[e]⟩);refine qCP [] [] kr ?_;refine g4 M.obj hoc @aQ @Nat.sub_zero ?_;refine qCR k [(0,.ref o 0),(2,.ref n 0),(3,.ref n4 0),(4,.ref (n4+1) 0)] om sb ⟨.arr n12 [.agg Y] 1,[ab],_,_,rfl,a7,.cons aa .nil,.inr ⟨_,_,rfl,by simp⟩,by simp;simp at hlen5;omega,by omega,fun ah=>((((M.cell (.arr 8 [AV.agg Y])).set2 (.cells (bC 23 0 t.s (.sl n12 0 1))))).popc O).nx om ah⟩
      .have a2:=aM (s5.cols.length+1) 8 om dc;have bb:o≠oc7:=(by rintro rfl;rw[T7.obj]at hoc7;cases hoc7);have b7:=T7.bound oc7 (aN T7.lt hoc7) (.inr ⟨_,rfl⟩);have aj:(h7.put o (aK.cells [.map pm,.map im,lv,.int .i64 (s5.pos+1:Nat),.sl oc7 0 s5.cols.length])).get oc7=some (.arr 1 ys7):=(by rw[qCf,if_neg (Ne.symm bb)];exact hoc7);have bz:Own o (.sl oc7 0 s5.cols.length) oc7=True:=eq_true (.inr ⟨_,rfl⟩);by_cases b4:s5.cols.length+1<=ys7.length
       .refine z6 T7.g2 T7.obj @qB0 a2 @aQ hoc7 ?_;refine qCJ b7 ?_;refine g6 T7.g2 T7.obj @qB0 a2 @aQ hoc7 ?_;refine aP.st (((T7.pos b5).push1 t.col aj b4 hot7 ap)) fun h9 T9=>?_;have a1:=aM (1) 104 om om;refine qCP [(1,3)] [] kr ?_;refine z2 T9.g1 @qCE ?_;refine qBv (Me k om) T9 ar ho T9.o1 ?_;intro ab bh zK n12 b6 au U a4 ae ag M ay aw;obtain⟨Y,rfl,a6,a5,ax,az,aa⟩:=a4.sh;refine z1 T9.o1 ?_;refine qCJ om ?_;refine z6 a6 a5 @aB a1 M.g1 @qCE ?_;refine qCT fun b0 al an=>?_;refine zz ?_;rw[qCk]at U;obtain⟨O,a8⟩:=qCm (fun hc=>ho (U.trans hc));have a7:=U.trans (P.ok_bind a8);rcases M.rep.cols with⟨_,hc⟩ | ⟨oc,ys,hcv,hoc,hol,hot⟩
        .exact absurd hc O
        subst hcv;have bc:=List.length_pos_iff.2 O;have ac:=M.rep.clen;have ba:=aN M.lt hoc;have b9:n4+1≠oc:=fun e=>(of_eq_false M.o1) (.inr ⟨_,by rw[e]⟩);refine qCP [] [] kr ?_;refine g4 M.obj hoc @aQ @Nat.sub_zero ?_;refine qCR k [(0,.ref o 0),(2,.ref n 0),(3,.ref n4 0),(4,.ref (n4+1) 0)] om sb ⟨.arr n12 [.agg Y] 1,[ab],_,_,rfl,a7,.cons aa .nil,.inr ⟨_,_,rfl,by simp⟩,by simp;simp at hlen5;omega,by omega,fun ah=>((((M.cell (.arr 8 [AV.agg Y])).set2 (.cells (bC 23 0 t.s (.sl n12 0 1))))).popc O).nx om ah⟩
       .have ad:s5.cols.length=ys7.length:=om;have b8:(s5.cols.length==ys7.length)=true:=(by simp[ad]);refine z7 T7.g2 T7.obj @qB0 a2 @aQ hoc7 b8 ?_;refine qCJ b7 ?_;refine g7 T7.g2 T7.obj @qB0 a2 @aQ hoc7 b8 ?_;refine eL.lt om fun bl bj bk ao=>?_;refine zz ?_;refine aP.st ((((T7.pos b5).push2 t.col aj ad hot7 ap).nx om ao)) fun h9 T9=>?_;have a1:=aM (1) 104 om om;refine qCP [(1,3)] [] kr ?_;refine z2 T9.g1 @qCE ?_;refine qBv (Me k om) T9 ar ho T9.o1 ?_;intro ab bh zK n12 b6 au U a4 ae ag M ay aw;obtain⟨Y,rfl,a6,a5,ax,az,aa⟩:=a4.sh;refine z1 T9.o1 ?_;refine qCJ om ?_;refine z6 a6 a5 @aB a1 M.g1 @qCE ?_;refine qCT fun b0 al an=>?_;refine zz ?_;rw[qCk]at U;obtain⟨O,a8⟩:=qCm (fun hc=>ho (U.trans hc));have a7:=U.trans (P.ok_bind a8);rcases M.rep.cols with⟨_,hc⟩ | ⟨oc,ys,hcv,hoc,hol,hot⟩
        .exact absurd hc O
        subst hcv;have bc:=List.length_pos_iff.2 O;have ac:=M.rep.clen;have ba:=aN M.lt hoc;have b9:n4+1≠oc:=fun e=>(of_eq_false M.o1) (.inr ⟨_,by rw[e]⟩);refine qCP [] [] kr ?_;refine g4 M.obj hoc @aQ @Nat.sub_zero ?_;refine qCR k [(0,.ref o 0),(2,.ref n 0),(3,.ref n4 0),(4,.ref (n4+1) 0)] om sb ⟨.arr n12 [.agg Y] 1,[ab],_,_,rfl,a7,.cons aa .nil,.inr ⟨_,_,rfl,by simp⟩,by simp;simp at hlen5;omega,by omega,fun ah=>((((M.cell (.arr 8 [AV.agg Y])).set2 (.cells (bC 23 0 t.s (.sl n12 0 1))))).popc O).nx om ah⟩
     .rw[if_neg a9,qCn]at ai;have b1:decide ((s5.token 0).col=t.col)=false:=decide_eq_false a9;refine g5 @qBz @qB0 ak T7.g2 b1 ?_;refine qCT fun nx be bg=>?_;refine z4 T7.g1 T7.g3 @qCE @qCD ?_;exact qC9<|(T7.set3 _).ends (ai) (.mk rfl rfl .nil)
   .simp only[LS.objs,LS.val,LS.xs,List.cons_append,List.nil_append]at T5 ev5;have c6:b<nn/\n<=b:=T5.l1;have c7:n4+1<b/\n<=n4+1:=T5.l2;have bi:=ev5.length;rw[qCk]at hm5;refine qCP [(6,9)] [ (6,8),(6,9)] kr ?_;refine z2 T5.g3 @qB0 ?_;refine qCN (fun _=>False) (fun _ _ h=>h.elim) (qBx (sI S 0 dc t.s) T5 fun n6 h6 bq T6=>?_);have a3:=hm5.trans (P.ok_bind (x:=P.is 0 t.s) rfl);cases hi:s5.isSign 0 t.s with
    |false=>
     rw[hi]at a3;replace a3:=nf a3;rw[qCn]at a3;refine g1 hi ?_;refine qCT fun nx be bg=>?_;have ee:EV l (List.take xs.length (List.drop 0 xs)):=(by rw[List.drop_zero,List.take_length];exact ev5);refine z5 T6.g1 T6.g2 T6.g4 @qCE @qCD ?_;refine qCJ (fun x hx=>ev5.frozen x (List.mem_of_mem_take hx)) ?_;refine zz ?_;exact qC9<|((T6.set4 _).del1).ends (a3) (.mk rfl rfl (.vec ee))
    |true=>
     rw[hi]at a3;replace a3:=nt a3;rw[qCk]at a3;refine g1 hi ?_;refine qCN (fun _=>False) (fun _ _ h=>h.elim) (qBx (gO S 0 dc) T6 fun n7 h7 br T7=>?_);have ai:=a3.trans (P.ok_bind (x:=P.tok 0) rfl);obtain⟨bp,ak⟩:=eF T6.rep 0;by_cases a9:(s5.token 0).col=t.col
     .rw[if_pos a9,qCk]at ai;have b1:decide ((s5.token 0).col=t.col)=true:=decide_eq_true a9;refine g5 @qBz @qB0 ak T7.g3 b1 ?_;refine eL.lt2 T7.lt fun nx be bg bi=>?_;have T7:=T7.nx om bi;obtain⟨b5,bd⟩:=cJ (fun hc=>ho (ai.trans hc));have b2:=ai.trans (P.ok_bind bd);refine z2 T7.obj @aQ ?_;rw[qCk]at b2;obtain⟨ap,b3⟩:=P.push_ok (fun hc=>ho (b2.trans hc));have ap:s5.cols.length+1<1000000000:=ap;have ar:=b2.trans (P.ok_bind b3);rw[qCk]at ar;refine qCP [] [] kr ?_;rcases T7.rep.cols with⟨rfl,hc⟩ | ⟨oc7,ys7,rfl,hoc7,hol7,hot7⟩
      .have a2:=aM 1 8 dc dc;refine z5 T7.g3 T7.obj @qB0 a2 @aQ ?_;refine eL.lt om fun bl bj bk ao=>?_;refine zz ?_;refine aP.st ((((T7.pos b5).push0 t.col hc).nx om ao)) fun h9 T9=>?_;have a1:=aM (xs.length+1) 104 om om;refine qCP [(1,3)] [] kr ?_;refine z2 T9.g2 @qCE ?_;refine qBv (Me k om) T9 ar ho T9.o2 ?_;intro ab bh zK n12 b6 au U a4 ae ag M ay aw;obtain⟨Y,rfl,a6,a5,ax,az,aa⟩:=a4.sh;refine z1 T9.o2 ?_;refine qCJ om ?_;refine z7 a6 a5 @aB a1 M.g2 M.g1 @qCE ?_;refine qCT fun b0 al an=>?_;refine zz ?_;rw[qCk]at U;obtain⟨O,a8⟩:=qCm (fun hc=>ho (U.trans hc));have a7:=U.trans (P.ok_bind a8);rcases M.rep.cols with⟨_,hc⟩ | ⟨oc,ys,hcv,hoc,hol,hot⟩
       .exact absurd hc O
       subst hcv;have bc:=List.length_pos_iff.2 O;have ac:=M.rep.clen;have ba:=aN M.lt hoc;have b9:n4+1≠oc:=fun e=>(of_eq_false M.o2) (.inr ⟨_,by rw[e]⟩);have bm:b≠oc:=fun e=>(of_eq_false M.o1) (.inr ⟨_,by rw[e]⟩);refine qCP [] [] kr ?_;refine g4 M.obj hoc @aQ @Nat.sub_zero ?_;refine qCR k [(0,.ref o 0),(2,.ref n 0),(3,.ref n4 0),(4,.ref (n4+1) 0)] om sb ⟨.arr n12 (xs++[AV.agg Y]) (xs.length+1),l++[ab],_,_,rfl,a7,ev5.append (.cons aa .nil),.inr ⟨n12,xs++[AV.agg Y],by simp,by simp⟩,by simp;omega,by omega,fun ah=>((((M.del1.cell (.arr 8 (xs++[AV.agg Y]))).set2 (.cells (bC 23 0 t.s (.sl n12 0 (xs.length+1)))))).popc O).nx om ah⟩
      .have a2:=aM (s5.cols.length+1) 8 om dc;have bb:o≠oc7:=(by rintro rfl;rw[T7.obj]at hoc7;cases hoc7);have b7:=T7.bound oc7 (aN T7.lt hoc7) (.inr ⟨_,rfl⟩);have aj:(h7.put o (aK.cells [.map pm,.map im,lv,.int .i64 (s5.pos+1:Nat),.sl oc7 0 s5.cols.length])).get oc7=some (.arr 1 ys7):=(by rw[qCf,if_neg (Ne.symm bb)];exact hoc7);have bz:Own o (.sl oc7 0 s5.cols.length) oc7=True:=eq_true (.inr ⟨_,rfl⟩);by_cases b4:s5.cols.length+1<=ys7.length
       .refine z6 T7.g3 T7.obj @qB0 a2 @aQ hoc7 ?_;refine qCJ b7 ?_;refine g6 T7.g3 T7.obj @qB0 a2 @aQ hoc7 ?_;refine aP.st (((T7.pos b5).push1 t.col aj b4 hot7 ap)) fun h9 T9=>?_;have a1:=aM (xs.length+1) 104 om om;refine qCP [(1,3)] [] kr ?_;refine z2 T9.g2 @qCE ?_;refine qBv (Me k om) T9 ar ho T9.o2 ?_;intro ab bh zK n12 b6 au U a4 ae ag M ay aw;obtain⟨Y,rfl,a6,a5,ax,az,aa⟩:=a4.sh;refine z1 T9.o2 ?_;refine qCJ om ?_;refine z7 a6 a5 @aB a1 M.g2 M.g1 @qCE ?_;refine qCT fun b0 al an=>?_;refine zz ?_;rw[qCk]at U;obtain⟨O,a8⟩:=qCm (fun hc=>ho (U.trans hc));have a7:=U.trans (P.ok_bind a8);rcases M.rep.cols with⟨_,hc⟩ | ⟨oc,ys,hcv,hoc,hol,hot⟩
        .exact absurd hc O
        subst hcv;have bc:=List.length_pos_iff.2 O;have ac:=M.rep.clen;have ba:=aN M.lt hoc;have b9:n4+1≠oc:=fun e=>(of_eq_false M.o2) (.inr ⟨_,by rw[e]⟩);have bm:b≠oc:=fun e=>(of_eq_false M.o1) (.inr ⟨_,by rw[e]⟩);refine qCP [] [] kr ?_;refine g4 M.obj hoc @aQ @Nat.sub_zero ?_;refine qCR k [(0,.ref o 0),(2,.ref n 0),(3,.ref n4 0),(4,.ref (n4+1) 0)] om sb ⟨.arr n12 (xs++[AV.agg Y]) (xs.length+1),l++[ab],_,_,rfl,a7,ev5.append (.cons aa .nil),.inr ⟨n12,xs++[AV.agg Y],by simp,by simp⟩,by simp;omega,by omega,fun ah=>((((M.del1.cell (.arr 8 (xs++[AV.agg Y]))).set2 (.cells (bC 23 0 t.s (.sl n12 0 (xs.length+1)))))).popc O).nx om ah⟩
       .have ad:s5.cols.length=ys7.length:=om;have b8:(s5.cols.length==ys7.length)=true:=(by simp[ad]);refine z7 T7.g3 T7.obj @qB0 a2 @aQ hoc7 b8 ?_;refine qCJ b7 ?_;refine g7 T7.g3 T7.obj @qB0 a2 @aQ hoc7 b8 ?_;refine eL.lt om fun bl bj bk ao=>?_;refine zz ?_;refine aP.st ((((T7.pos b5).push2 t.col aj ad hot7 ap).nx om ao)) fun h9 T9=>?_;have a1:=aM (xs.length+1) 104 om om;refine qCP [(1,3)] [] kr ?_;refine z2 T9.g2 @qCE ?_;refine qBv (Me k om) T9 ar ho T9.o2 ?_;intro ab bh zK n12 b6 au U a4 ae ag M ay aw;obtain⟨Y,rfl,a6,a5,ax,az,aa⟩:=a4.sh;refine z1 T9.o2 ?_;refine qCJ om ?_;refine z7 a6 a5 @aB a1 M.g2 M.g1 @qCE ?_;refine qCT fun b0 al an=>?_;refine zz ?_;rw[qCk]at U;obtain⟨O,a8⟩:=qCm (fun hc=>ho (U.trans hc));have a7:=U.trans (P.ok_bind a8);rcases M.rep.cols with⟨_,hc⟩ | ⟨oc,ys,hcv,hoc,hol,hot⟩
        .exact absurd hc O
        subst hcv;have bc:=List.length_pos_iff.2 O;have ac:=M.rep.clen;have ba:=aN M.lt hoc;have b9:n4+1≠oc:=fun e=>(of_eq_false M.o2) (.inr ⟨_,by rw[e]⟩);have bm:b≠oc:=fun e=>(of_eq_false M.o1) (.inr ⟨_,by rw[e]⟩);refine qCP [] [] kr ?_;refine g4 M.obj hoc @aQ @Nat.sub_zero ?_;refine qCR k [(0,.ref o 0),(2,.ref n 0),(3,.ref n4 0),(4,.ref (n4+1) 0)] om sb ⟨.arr n12 (xs++[AV.agg Y]) (xs.length+1),l++[ab],_,_,rfl,a7,ev5.append (.cons aa .nil),.inr ⟨n12,xs++[AV.agg Y],by simp,by simp⟩,by simp;omega,by omega,fun ah=>((((M.del1.cell (.arr 8 (xs++[AV.agg Y]))).set2 (.cells (bC 23 0 t.s (.sl n12 0 (xs.length+1)))))).popc O).nx om ah⟩
     .rw[if_neg a9,qCn]at ai;have b1:decide ((s5.token 0).col=t.col)=false:=decide_eq_false a9;refine g5 @qBz @qB0 ak T7.g3 b1 ?_;refine qCT fun nx be bg=>?_;have ee:EV l (List.take xs.length (List.drop 0 xs)):=(by rw[List.drop_zero,List.take_length];exact ev5);refine z5 T7.g1 T7.g2 T7.g4 @qCE @qCD ?_;refine qCJ (fun x hx=>ev5.frozen x (List.mem_of_mem_take hx)) ?_;refine zz ?_;exact qC9<|((T7.set4 _).del1).ends (ai) (.mk rfl rfl (.vec ee))
end
def dF:List (AV×AV):=uJ.map fun q=>(.str q.1,.str q.2)
def fR:List (AV×AV):=lH.map fun q=>(.str q,.bool true)
def Aa (b:Nat)(h:Hp)(ov:AV)(l:List Tok):Prop:=(ov=.sl0/\l=[])\/∃ a,ov=.sl a 0 l.length/\h.get a=some (.arr 8 (l.map Tok.av))/\b<=a/\l≠[]
def zY (b:Nat)(h:Hp)(cv:AV)(p:Nat):Prop:=cv=.sl0\/∃ a xs,cv=.sl a 0 xs.length/\h.get a=some (.arr 2 xs)/\b<=a/\xs.length<=p/\xs≠[]
structure iC (b:Nat)(h:Hp)(o tb cm wm:Nat)(w:List UInt8)(ov cv:AV)(s:SS):Prop where
 obj:h.get o=some (.cells [.str w,.int .i64 s.pos,.ref tb 0,ov,cv])
 out:Aa b h ov s.out
 com:zY b h cv s.com
 clim:s.com<=1000000000
 tab:h.get tb=some (.cells [.map cm,.map wm,.int .i64 3])
 can:h.get cm=some (.map dF)
 wrd:h.get wm=some (.map fR)
 bo:b<=o
 bt:tb<b/\cm<b/\wm<b
 wl:w.length<1000000000
 pos:s.pos<=w.length
 few:s.out.length<=s.pos
 flat:∀ t ∈ s.out,eE t.d=true/\AV.one t.d=true
def qF (f:kY):AV:=.iface 251 (.agg [.int .i64 f.at',.int .i64 f.err])
section
variable (Gl:qC6)(Gm:qC7)(Kp:qC8)
def rW (b o tb cm wm:Nat)(w:List UInt8){α:Type}(f:FuncId)(args:List AV)(m:LM α)(En:α->AV->Prop)(n:Nat)(h:Hp)(s:SS):Prop:=
 m s≠.error lT->∀ Q:aS->Nat->Hp->Prop,(∀ a s',m s=.ok (a,s')->∀ v n' h' ov' cv',En a v->n<=n'->aE n' h'->iC b h' o tb cm wm w ov' cv' s'->(∀ t,t<b->h'.get t=h.get t)->Q (.returned v) n' h')->
  (∀ e,m s=.error e->∀ n' h',n<=n'->aE n' h'->(∀ t,t<b->h'.get t=h.get t)->Q (.panicked (qF e)) n' h')->
  aG Tryz.prog Gl Gm Kp f args n h (fun t=>b<=t) Q
def OW (b o tb cm wm:Nat)(w:List UInt8){α:Type}(f:FuncId)(args:List AV)(m:LM α)(En:α->AV->Prop):Prop:=
 ∀ n h ov cv s,iC b h o tb cm wm w ov cv s->rW Gl Gm Kp b o tb cm wm w f args m En n h s
end
section
variable {Gl:qC6}{Gm:qC7}{Kp:qC8}(S:Seat Gm Kp)
section
variable {b n:Nat}{h h':Hp}{o tb cm wm:Nat}{w:List UInt8}{ov cv ov' cv':AV}{s:SS}
theorem iC.on (R:iC b h o tb cm wm w ov cv s)(hl:aE n h):o<n:=aN hl R.obj
theorem iC.bn (R:iC b h o tb cm wm w ov cv s)(hl:aE n h):b<=n:=Nat.le_of_lt (Nat.lt_of_le_of_lt R.bo (R.on hl))
theorem iC.to {s':SS}(R:iC b h o tb cm wm w ov cv s)(hobj:h'.get o=some (.cells [.str w,.int .i64 s'.pos,.ref tb 0,ov',cv']))(hout:Aa b h' ov' s'.out)(hcom:zY b h' cv' s'.com)(hclim:s'.com<=1000000000)(hpos:s'.pos<=w.length)(hfew:s'.out.length<=s'.pos)
  (hflat:∀ t ∈ s'.out,eE t.d=true/\AV.one t.d=true) (hk:∀ t,t<b->h'.get t=h.get t):iC b h' o tb cm wm w ov' cv' s':=
 ⟨hobj,hout,hcom,hclim,(hk _ R.bt.1).trans R.tab,(hk _ R.bt.2.1).trans R.can,(hk _ R.bt.2.2).trans R.wrd,R.bo,R.bt,R.wl,hpos,hfew,hflat⟩
theorem Aa.keep {l:List Tok}(r:Aa b h ov l)(hk:∀ a,ov=.sl a 0 l.length->h'.get a=h.get a):Aa b h' ov l:=by
 rcases r with r | ⟨a,h1,h2,h3,h4⟩
 .exact .inl r
 .exact .inr ⟨a,h1,(hk a h1).trans h2,h3,h4⟩
theorem zY.keep {p p':Nat}(r:zY b h cv p)(hp:p<=p')(hk:∀ a k,cv=.sl a 0 k->h'.get a=h.get a):zY b h' cv p':=by
 rcases r with r | ⟨a,xs,h1,h2,h3,h4,h5⟩
 .exact .inl r
 .exact .inr ⟨a,xs,h1,(hk a _ h1).trans h2,h3,Nat.le_trans h4 hp,h5⟩
theorem iC.quiet (R:iC b h o tb cm wm w ov cv s)(hl:aE n h)(hk:∀ t,t<n->h'.get t=h.get t):iC b h' o tb cm wm w ov cv s:=by
 have M:=R.on hl;have O:=R.bo;refine R.to ((hk o M).trans R.obj) (R.out.keep fun a e=>?_) (R.com.keep (Nat.le_refl _) fun a k e=>?_) R.clim R.pos R.few R.flat fun t _=>hk t om
 .rcases R.out with⟨e2,_⟩ | ⟨a2,e2,h2,_⟩
  .rw[e]at e2;cases e2
  .rw[e]at e2;cases e2;exact hk _ (aN hl h2)
 .rcases R.com with e2 | ⟨a2,xs,e2,h2,_⟩
  .rw[e]at e2;cases e2
  .rw[e]at e2;cases e2;exact hk _ (aN hl h2)
theorem iC.outNe (R:iC b h o tb cm wm w ov cv s){a k:Nat}(e:ov=.sl a 0 k):a≠o:=by
 rintro rfl;rcases R.out with⟨e2,_⟩ | ⟨a2,e2,h2,_⟩
 .rw[e]at e2;cases e2
 .rw[e]at e2;cases e2;rw[R.obj]at h2;cases h2
theorem iC.comNe (R:iC b h o tb cm wm w ov cv s){a k:Nat}(e:cv=.sl a 0 k):a≠o:=by
 rintro rfl;rcases R.com with e2 | ⟨a2,xs,e2,h2,_⟩
 .rw[e]at e2;cases e2
 .rw[e]at e2;cases e2;rw[R.obj]at h2;cases h2
theorem iC.at (R:iC b h o tb cm wm w ov cv s){p:Nat}(hp:p<=w.length)(hp2:s.pos<=p):iC b (h.put o (.cells [.str w,.int .i64 p,.ref tb 0,ov,cv])) o tb cm wm w ov cv {s with pos:=p}:=by
 have M:=R.bo;refine R.to (by rw[qCf,if_pos rfl]) (R.out.keep fun a e=>?_) (R.com.keep (Nat.le_refl _) fun a k e=>?_) R.clim hp (Nat.le_trans R.few hp2) R.flat fun t _=>by rw[qCf,if_neg om]
 .rw[qCf,if_neg (R.outNe e)]
 .rw[qCf,if_neg (R.comNe e)]
def eG {α:Type}(b o tb cm wm:Nat)(w:List UInt8)(En:α->AV->Prop)(r:Except kY (α×SS))(e:aS)(h':Hp):Prop:=
 match r with
 |.ok (a,s')=>∃ v ov' cv',e=.returned v/\En a v/\iC b h' o tb cm wm w ov' cv' s'
 |.error f=>e=.panicked (qF f)
theorem eG.ok {α:Type}{En:α->AV->Prop}{r:Except kY (α×SS)}{a:α}{s':SS}{v:AV}(hr:r=.ok (a,s'))(hv:En a v)(R:iC b h' o tb cm wm w ov' cv' s'):eG b o tb cm wm w En r (.returned v) h':=by subst hr;exact⟨v,_,_,rfl,hv,R⟩
theorem eG.err {α:Type}{En:α->AV->Prop}{r:Except kY (α×SS)}{f:kY}(hr:r=.error f):eG b o tb cm wm w En r (.panicked (qF f)) h':=by subst hr;rfl
theorem rW.fin {α:Type}{f:FuncId}{args:List AV}{m:LM α}{En:α->AV->Prop}(R:iC b h o tb cm wm w ov cv s)
  (k:aE n h->m s≠.error lT->aG Tryz.prog Gl Gm Kp f args n h (fun t=>b<=t) fun e _ h'=>eG b o tb cm wm w En (m s) e h'):rW Gl Gm Kp b o tb cm wm w f args m En n h s:=by
 intro ho Q h1 h2;refine⟨fun U=>((k U ho).mono (fun _ _ h=>h) fun e n' h' a b c d=>?_).ok U⟩;have O:=R.bn U;have M:∀ t,t<_->h'.get t=_:=fun t Y=>c t (Nat.lt_of_lt_of_le Y O) (Nat.not_le.2 Y);unfold eG at d;cases hr:m s with
 |ok q=>
  obtain⟨x,s'⟩:=q;rw[hr]at d;obtain⟨v,ov',cv',rfl,e2,e3⟩:=d;exact h1 x s' hr v n' h' ov' cv' e2 a b e3 M
 |error f=>rw[hr]at d;subst d;exact h2 f hr n' h' a b M
theorem LM.ok_bind {α β:Type}{x:LM α}{f:α->LM β}{s s':SS}{a:α}(h:x s=.ok (a,s')):(x >>= f) s=f a s':=by
 show LM.bind x f s=_;unfold LM.bind;rw[h]
theorem LM.err_bind {α β:Type}{x:LM α}{f:α->LM β}{s:SS}{e:kY}(h:x s=.error e):(x >>= f) s=.error e:=by
 show LM.bind x f s=_;unfold LM.bind;rw[h]
theorem LM.bind_pure {α:Type}(x:LM α):(x >>= LM.pure)=x:=by
 funext s
 show LM.bind x LM.pure s=x s;unfold LM.bind LM.pure;cases x s with
 |ok q=>rfl
 |error e=>rfl
theorem rW.call {α β:Type}{f:FuncId}{args:List AV}{m:LM α}{En:α->AV->Prop}(M:rW Gl Gm Kp b o tb cm wm w f args m En n h s)(hbn:b<=n){ms:Except kY (β×SS)}{g:α->LM β}(hm:ms=(m >>= g) s)(ho:ms≠.error lT){n0:Nat}{Q:aS->Nat->Hp->Prop}
  (k1:∀ a s' v n' h' ov' cv',ms=g a s'->En a v->n<=n'->aE n' h'->iC b h' o tb cm wm w ov' cv' s'->(∀ t,t<b->h'.get t=h.get t)->Q (.returned v) n' h')
  (k2:∀ e,ms=.error e->∀ n' h',n<=n'->aE n' h'->Q (.panicked (qF e)) n' h'):aG Tryz.prog Gl Gm Kp f args n h (fun t=>n0<=t\/b<=t) Q:=
 (M (fun hc=>ho (hm.trans (LM.err_bind hc))) Q (fun a s' e v n' h' ov' cv' ev O U R Y=>k1 a s' v n' h' ov' cv' (hm.trans (LM.ok_bind e)) ev O U R Y) fun e he n' h' O U Y=>k2 e (hm.trans (LM.err_bind he)) n' h' O U).mono (fun t _ ht=>.inr ht) fun _ _ _ _ _ _ h=>h
end
include S
theorem pS (at':Nat)(e:Int){n:Nat}{h:Hp}{B:Nat->Prop}{Q:aS->Nat->Hp->Prop}(hQ:∀ n' h',n<=n'->aE n' h'->(∀ t,t<n->h'.get t=h.get t)->Q (.panicked (qF ⟨e,at'⟩)) n' h'):aG Tryz.prog Gl Gm Kp 356 [.int .i64 at',.int .i64 e] n h B Q:=by
 refine aG.mono (B:=fun _=>False) (Q:=fun x _ _=>x=.panicked (qF ⟨e,at'⟩)) ?_ (fun _ _ h=>h.elim) (fun x n' h' a b c d=>by subst d;exact hQ n' h' a b fun t M=>c t M id);refine qB6 S 8 [] Tryz.func356 fun _ _=>?_;refine zz ?_;exact qC9<|rfl
theorem sO {b o tb cm wm:Nat}{w:List UInt8}{n:Nat}{h:Hp}{ov cv:AV}{s:SS}(R:iC b h o tb cm wm w ov cv s)(t:Tok)(k:Nat)(hk1:1<=k)(hk2:s.pos+k<=w.length)(hfl:eE t.d=true)(hone:AV.one t.d=true) :
  rW Gl Gm Kp b o tb cm wm w 322 [.ref o 0,t.av,.int .i64 k] (LM.put t k) IQ n h s:=by
 refine rW.fin R fun hl _=>qB6 S 40 [] Tryz.func322 fun _ _=>?_;have ae:=R.on hl;have ad:=R.bo;have ag:=R.wl;have M:=R.obj;have a4:eE t.d=true/\AV.one t.d=true:=⟨hfl,hone⟩;have U:∀ u ∈ s.out++[{t with at':=(s.pos:Int),en:=((s.pos+k:Nat):Int)}],eE u.d=true/\AV.one u.d=true:=fun u hu=>by
  rcases List.mem_append.1 hu with hu | hu
  .exact R.flat u hu
  .rw[List.mem_singleton.1 hu];exact a4
 have ac:=R.few;refine z4 @qBz @qB0 hone @aB ?_;refine qCP [(9,13)] [] kr ?_;refine g1 M ?_;refine qCP [] [] kr ?_;rcases R.out with⟨rfl,hz⟩ | ⟨a,rfl,ha,hba,Y⟩
 .have O:=aM 1 88 dc dc;refine g4 M hone @aB O ?_;refine qCT fun nx aa ab=>?_;refine z1 M ?_;refine qCI fun n' _ _=>eG.ok (a:=()) (s':=⟨s.pos+k,s.out++[{t with at':=(s.pos:Int),en:=((s.pos+k:Nat):Int)}],s.com⟩) rfl trivial (R.to (ov':=.sl (n+1) 0 1) (cv':=cv) (zc) (.inr ⟨n+1,by rw[hz];rfl,by rw[hz];refine zz ?_;rfl,by omega,by simp⟩) (R.com.keep (Nat.le_refl _) fun a k e=>?_) R.clim hk2 (by simp;omega) U fun u hu=>zc);have Y:=R.comNe e;have a5:a<n:=by
   rcases R.com with e2 | ⟨a2,xs,e2,h2,_⟩
   .rw[e]at e2;cases e2
   .rw[e]at e2;cases e2;exact aN hl h2
  have a3:=Ne.symm Y;exact zc
 .have O:=aM (s.out.length+1) 88 om om;have a5:=aN hl ha;have a1:=R.outNe rfl;have a6:=Ne.symm a1;have a9:(List.map Tok.av s.out).length=s.out.length:=List.length_map _;have a8:List.drop 0 (List.map Tok.av s.out)=List.map Tok.av s.out:=List.drop_zero;refine g7 M hone @aB O ha a9 a8 ?_;refine qCT fun nx aa ab=>?_;refine z1 M ?_;refine qCI fun n' _ _=>eG.ok (a:=()) (s':=⟨s.pos+k,s.out++[{t with at':=(s.pos:Int),en:=((s.pos+k:Nat):Int)}],s.com⟩) rfl trivial (R.to (ov':=.sl (n+1) 0 (s.out.length+1)) (cv':=cv) (zc) (.inr ⟨n+1,by simp,by refine zz ?_;simp[Tok.av,Tok.cells],by omega,by simp⟩) (R.com.keep (Nat.le_refl _) fun c k e=>?_) R.clim hk2 (by simp;omega) U fun u hu=>zc);have Y:=R.comNe e;have a7:c<n/\a≠c:=by
   rcases R.com with e2 | ⟨a2,xs,e2,h2,_⟩
   .rw[e]at e2;cases e2
   .rw[e]at e2;cases e2;exact⟨aN hl h2,fun e3=>by rw[<- e3,ha]at h2;cases h2⟩
  obtain⟨_,_⟩:=a7;have a3:=Ne.symm Y;exact zc
end
section
variable {Gl:qC6}{Gm:qC7}{Kp:qC8}(S:Seat Gm Kp)
def GX (x:AV):AM iW:=match x with
 |.str s=>.new (.siter s 0) fun o=>.ret (.val (.ref o 0))
 |_=>.fail
theorem Sr (s:List UInt8):GX (.str s)=.new (.siter s 0) fun o=>.ret (.val (.ref o 0)):=rfl
theorem Ps (ρ:Operand->AV)(d:Option Tmp)(x:Operand)(ty pos af g):fF Tryz.prog Gl ρ ⟨d,.range 9 x,ty,pos,af,g⟩=GX (ρ x):=by
 have hu:Tryz.prog.underlying 9=some .string:=kr;simp only[fF,hu];cases ρ x<;>rfl
theorem decode_ascii {s:List UInt8}{i:Nat}(hi:i<s.length)(hb:s[i].toNat<128):Utf8.decode ⟨⟨s⟩⟩ i=(s[i].toNat,1):=by
 have h1:ByteArray.get! ⟨⟨s⟩⟩ i=s[i]:=by
  simp[ByteArray.get!,hi]
 unfold Utf8.decode;simp only[Nat.add_zero,h1,hb,if_true]
theorem WT (lit a b:Bool):cL Tryz.prog BinOp.eql 4 lit (.bool a) (.bool b)=some (.bool (a==b)):=by
 have hu:Tryz.prog.underlying 4=some .bool:=kr;show (yP Tryz.prog 100 4 (AV.bool a) (AV.bool b)).map AV.bool=_;unfold yP;rw[hu]
 rfl
include S
theorem Lf (s:List UInt8)(hs:∀ b ∈ s,b.toNat<128)(hl:s.length<1000000000){n:Nat}{h:Hp}{B:Nat->Prop}{Q:aS->Nat->Hp->Prop}(hQ:∀ r n' h',n<=n'->aE n' h'->(∀ t,t<n->h'.get t=h.get t)->decide (0<=r)=s.any cW->Q (.returned (.int .i64 r)) n' h') :
  aG Tryz.prog Gl Gm Kp 353 [.str s,.fn (.func 329) [] [],.bool true] n h B Q:=by
 refine aG.mono (B:=fun _=>False) (Q:=fun e _ _=>∃ r,e=.returned (.int .i64 r)/\decide (0<=r)=s.any cW) ?_ (fun _ _ h=>h.elim) (fun e n' h' a b c d=>by obtain⟨r,rfl,d⟩:=d;exact hQ r n' h' a b (fun t ht=>c t ht id) d);refine qB6 S 21 [.tmp 6] Tryz.func353 fun _ _=>?_;refine z2 @Ps @Sr ?_;refine qCu (fun k E nn hh=>∃ i:Nat,E=[(0,.str s),(1,.fn (.func 329) [] []),(2,.bool true),(10,.ref n 0)]/\i+k=s.length/\n+1<=nn/\(∀ t,t<n->hh.get t=h.get t)/\hh.get n=some (.siter s i)/\(s.take i).any cW=false) s.length ⟨0,rfl,by omega,by omega,fun t ht=>zc,zc,by simp⟩ ?_
 .rintro k E nn hh hlk hBk ⟨i,rfl,hik,hnn,hkk,hit,hno⟩;by_cases O:i<s.length
  .have hb:=hs s[i] (List.getElem_mem O);have hd:=decode_ascii O hb;refine z3 @Gc.eq_1 hit hd ?_;have a2:=aN hlk hit;refine qCK ((sH S s[i].toNat om).use fun n1 h1 _ _ Y=>?_);have U:=(Y n a2).trans (qJ _ _ _);have a1:∀ t,t<n->h1.get t=h.get t:=fun t ht=>(by rw[Y t om,qCf,if_neg om];exact hkk t ht);cases hL:cW s[i] with
   |true=>
    have M:=hL;unfold cW at M;simp -dsimp (disch:=first | assumption | omega) only [go_sem,Nat.reduceLT,Nat.reduceBEq,Nat.reduceAdd,Nat.reduceSub,Nat.reduceLeDiff,Nat.reduceEqDiff,↓reduceIte,beq_true,beq_false,decide_eq_true,decide_eq_false,M,WT,BEq.rfl,Bool.false_beq,Bool.not_true];refine qC9<|⟨_,rfl,?_⟩;have:s.any cW=true:=List.any_eq_true.2 ⟨s[i],List.getElem_mem O,hL⟩;rw[this];exact decide_eq_true om
   |false=>
    have M:=hL;unfold cW at M;simp -dsimp (disch:=first | assumption | omega) only [go_sem,Nat.reduceLT,Nat.reduceBEq,Nat.reduceAdd,Nat.reduceSub,Nat.reduceLeDiff,Nat.reduceEqDiff,↓reduceIte,beq_true,beq_false,decide_eq_true,decide_eq_false,M,WT,BEq.rfl,Bool.false_beq,Bool.not_true];refine aU.mq (k-1) ⟨i+1,rfl,by omega,by omega,a1,U,?_⟩;rw[List.take_succ_eq_append_getElem O,List.any_append,hno];simp[hL]
  .refine z2 @Gc.eq_1 hit ?_;refine qC9<|⟨_,rfl,?_⟩;rw[List.take_of_length_le om]at hno;rw[hno]
   rfl
theorem oD (s:List UInt8)(hs:∀ b ∈ s,b.toNat<128)(hl:s.length<1000000000):cD Gl Gm Kp 276 [.str s] (.bool (s.any cW)):=by
 refine cD.fin fun n h a2=>qB6 S 5 [.tmp 2] Tryz.func276 fun hB _=>?_;refine zz ?_;have U:∀(n:Nat) (h:Hp) (B:Nat->Prop) (Q:aS->Nat->Hp->Prop),(∀ r n' h',n<=n'->aE n' h'->(∀ t,t<n->h'.get t=h.get t)->decide (0<=r)=s.any cW->Q (.returned (.int .i64 r)) n' h')->aG Tryz.prog Gl Gm Kp 308 [.str s,.fn (.func 329) [] []] n h B Q:=by
  intro n h B Q hQ;refine aG.mono (B:=fun _=>False) (Q:=fun e _ _=>∃ r,e=.returned (.int .i64 r)/\decide (0<=r)=s.any cW) ?_ (fun _ _ h=>h.elim) (fun e n' h' a b c d=>by obtain⟨r,rfl,d⟩:=d;exact hQ r n' h' a b (fun t ht=>c t ht id) d);refine qB6 S 8 [.tmp 4] Tryz.func308 fun hB _=>?_;refine zz ?_;refine qCK (Lf S s hs hl fun r n1 h1 M a1 Y hr=>?_);refine zz ?_;exact qC9<|⟨r,rfl,hr⟩
 have O:cD Gl Gm Kp 259 [.str s,.fn (.func 329) [] []] (.bool (s.any cW)):=by
  refine cD.fin fun n h a2=>qB6 S 9 [.tmp 4] Tryz.func259 fun hB _=>?_;refine zz ?_;refine qCK (U _ _ _ _ fun r n1 h1 M a1 Y hr=>?_);refine zz ?_;refine qCI fun _ _ _=>?_;rw[<- hr]
 refine qCK (O.use fun n1 h1 M a1 Y=>?_);refine zz ?_;exact qC9<|rfl
end
section
variable {Gl:qC6}{Gm:qC7}{Kp:qC8}(S:Seat Gm Kp)
theorem wR {w:List UInt8}{i:Nat}{p:List UInt8}(h:jE w i p=true)(hp:0<p.length):i+p.length<=w.length:=by
 have:=(List.isPrefixOf_iff_prefix.1 h).length_le;rw[List.length_drop]at this;omega
theorem pX (w:List UInt8)(i:Nat)(q:UInt8->Bool):dA w i q<=w.length-i:=by
 unfold dA;have:=(List.takeWhile_prefix q (l:=w.drop i)).length_le;rw[List.length_drop]at this;exact this
theorem VR (args:List AV):aT Tryz.prog 315 args=.ret (.enter 315 args):=aH Tryz.func315 rfl kr args
include S
theorem FN {b o tb cm wm:Nat}{w:List UInt8}{n:Nat}{h:Hp}{ov cv:AV}{s:SS}(R:iC b h o tb cm wm w ov cv s)(hs:jE w s.pos [40,42]=true)(f:Nat)(hf:f<1000000000000):rW Gl Gm Kp b o tb cm wm w 316 [.ref o 0] (mI w f s.pos 0) IQ n h s:=by
 refine rW.fin R fun _ ho=>qB6 S 67 [] Tryz.func316 fun _ _=>?_;have a6:=R.obj;have ad:=R.wl;have ab:=R.pos;have ac:=R.bo;refine z1 a6 ?_;generalize hp0:s.pos=p0 at *;generalize hms:mI w f p0 0 s=ms at *;refine qCu (fun k E nn hh=>∃(deep:Nat) (s2:SS) (ov2 cv2:AV),E=[(0,.ref o 0),(2,.int .i64 p0),(3,.int .i64 deep)]/\ms=mI w k p0 deep s2/\deep+k<=f/\(deep=0->jE w s2.pos [40,42]=true)/\n<=nn/\iC b hh o tb cm wm w ov2 cv2 s2) f ⟨0,s,ov,cv,rfl,hms.symm,by omega,fun _=>by rw[hp0];exact hs,Nat.le_refl _,R⟩ ?_
 .rintro k E nn hh hlk hBk ⟨deep,s2,ov2,cv2,rfl,hm,hdk,hdeep,hnn,R2⟩;cases k with
  |zero=>exact absurd hm (fun hc=>ho hc)
  |succ k=>
   rw[mI.eq_2]at hm;have M:=hm.trans (LM.ok_bind (x:=LM.pos) (s:=s2) rfl);have a4:=R2.obj;have a2:=R2.pos;refine zz ?_;refine qCK (tM S [40,42] a2 a4 fun _ _ _ aa a8=>?_);have R3:=R2.quiet hlk a8;have a1:=R3.obj;cases h1:jE w s2.pos [40,42] with
   |true=>
    have Y:=wR h1 dc;simp only[List.length_cons,List.length_nil]at Y;simp only[h1,if_true]at M;have U:=M.trans (LM.ok_bind (x:=LM.skip 2) (s:=s2) rfl);refine z1 a1 ?_;refine qCR k [(0,.ref o 0),(2,.int .i64 p0),(3,.int .i64 (deep+1:Nat))] om sb ⟨deep+1,_,_,_,rfl,U,by omega,(fun h=>by omega),by omega,R3.at om om⟩
   |false=>
    have a7:deep≠0:=fun h=>(by rw[hdeep h]at h1;cases h1);simp only[h1,Bool.false_eq_true,if_false]at M;refine zz ?_;refine qCK (tM S [42,41] a2 a1 fun n4 _ _ _ a9=>?_);have R4:=R3.quiet aa a9;have O:=R4.obj;cases h2:jE w s2.pos [42,41] with
    |true=>
     have Y:=wR h2 dc;simp only[List.length_cons,List.length_nil]at Y;simp only[h2,if_true]at M;have U:=M.trans (LM.ok_bind (x:=LM.skip 2) (s:=s2) rfl);by_cases a5:deep=1
     .subst a5;refine z1 O ?_;exact qC9<|eG.ok (a:=()) U trivial (R4.at om om)
     .simp only[a5,if_false]at U;refine z1 O ?_;refine qCR k [(0,.ref o 0),(2,.int .i64 p0),(3,.int .i64 (deep-1:Nat))] om sb ⟨deep-1,_,_,_,rfl,U,by omega,(fun h=>by omega),by omega,R4.at om om⟩
    |false=>
     simp only[h2,Bool.false_eq_true,if_false]at M;refine zz ?_;refine qCP [] [] kr ?_;by_cases a3:w.length<=s2.pos
     .simp only[a3,if_true]at M;refine z1 O ?_;refine qCK (pS S p0 22 fun n5 _ _ _ _=>?_);refine zz ?_;exact qC9<|eG.err M
     .simp only[a3,if_false]at M;have U:=M.trans (LM.ok_bind (x:=LM.skip 1) (s:=s2) rfl);refine z1 O ?_;refine qCR k [(0,.ref o 0),(2,.int .i64 p0),(3,.int .i64 deep)] om sb ⟨deep,_,_,_,rfl,U,by omega,(fun h=>absurd h a7),by omega,R4.at om om⟩
omit S in
theorem Vz {α:Type}{g:Unit->LM α}{s:SS}(ho:(LM.note >>= g) s≠.error Pa.lT):s.com<1000000000/\LM.note s=.ok ((),{s with com:=s.com+1}):=by
 by_cases h:s.com<1000000000
 .exact⟨h,by unfold LM.note;rw[if_pos h]⟩
 .exact absurd (LM.err_bind (by unfold LM.note;rw[if_neg h])) ho
omit S in
theorem iC.com1 {b o tb cm wm n:Nat}{h:Hp}{w:List UInt8}{ov cv:AV}{s:SS}(R:iC b h o tb cm wm w ov cv s)(hl:aE n h)(hc:s.com<1000000000){h':Hp}{ys:List AV}(hobj:h'.get o=some (.cells [.str w,.int .i64 s.pos,.ref tb 0,ov,.sl n 0 ys.length]))(hn:h'.get n=some (.arr 2 ys))(hy:ys.length<=s.com+1)(hne:ys≠[])
  (hk:∀ t,t<n->t≠o->(∀ k,cv≠.sl t 0 k)->h'.get t=h.get t):iC b h' o tb cm wm w ov (.sl n 0 ys.length) {s with com:=s.com+1}:=by
 have M:=R.bo;have O:=R.on hl;refine R.to hobj (R.out.keep fun a e=>?_) (.inr ⟨n,ys,rfl,hn,by omega,hy,hne⟩) (by show s.com+1<=_;omega) R.pos R.few R.flat fun t _=>hk t om om fun k e=>?_
 .rcases R.out with⟨e2,_⟩ | ⟨a2,e2,h2,h3,h4⟩
  .rw[e]at e2;cases e2
  .rw[e]at e2;cases e2;refine hk _ (aN hl h2) (R.outNe e) fun k e=>?_;rcases R.com with e3 | ⟨a3,xs,e3,h5,_⟩
   .rw[e]at e3;cases e3
   .rw[e]at e3;cases e3;rw[h2]at h5;cases h5
 .rcases R.com with e3 | ⟨a3,xs,e3,h5,h6,_⟩
  .rw[e]at e3;cases e3
  .rw[e]at e3;cases e3;omega
theorem HJ {b o tb cm wm:Nat}{w:List UInt8}(f:Nat)(hf:f<1000000000000):OW Gl Gm Kp b o tb cm wm w 272 [.ref o 0] (rL w f) IQ:=by
 intro n h ov cv s R;refine rW.fin R fun _ ho=>qB6 S 83 [] Tryz.func272 fun _ _=>?_;have b9:=R.wl;have b7:=R.bo;generalize hms:rL w f s=ms at *;refine zz ?_;refine qCu (fun k E nn hh=>∃(s2:SS) (ov2 cv2:AV),E=[(0,.ref o 0)]/\ms=rL w k s2/\k<=f/\n<=nn/\iC b hh o tb cm wm w ov2 cv2 s2) f ⟨s,ov,cv,rfl,hms.symm,Nat.le_refl _,Nat.le_refl _,R⟩ ?_
 .rintro k E nn hh hlk hBk ⟨s2,ov2,cv2,rfl,hm,hkf,hnn,R2⟩;cases k with
  |zero=>exact absurd hm (fun hc=>ho hc)
  |succ k=>
   rw[rL.eq_2]at hm;have M:=hm.trans (LM.ok_bind (x:=LM.pos) (s:=s2) rfl);have a3:=R2.obj;have aa:=R2.pos;refine zz ?_;refine qCP [] [] kr ?_;by_cases ag:s2.pos<w.length
   .simp only[ag,if_true]at M;have hg:w[s2.pos]?=some w[s2.pos]:=List.getElem?_eq_getElem ag;have ax:bG w s2.pos=w[s2.pos]:=(by simp[bG,List.getD,hg]);rw[ax]at M;refine g1 a3 ?_;refine qCP [] [] kr ?_;refine g2 a3 hg ?_;refine qCN (fun _=>False) (fun _ _ h=>h.elim) ((Zo S w[s2.pos]).use fun _ _ _ b0 ay=>?_);have R3:=R2.quiet hlk ay;have a8:=R3.obj;cases hbl:vY w[s2.pos] with
    |true=>
     simp only[hbl,if_true]at M;have ac:=M.trans (LM.ok_bind (x:=LM.skip 1) (s:=s2) rfl);refine gg ?_;refine qCT fun nx b1 b2=>?_;refine z1 a8 ?_;refine qCR k [(0,.ref o 0)] om sb ⟨_,_,_,rfl,ac,by omega,by omega,R3.at om om⟩
    |false=>
     simp only[hbl,Bool.false_eq_true,if_false]at M;refine gg ?_;refine eL.lt2 b0 fun nx b1 b2 b3=>?_;refine zz ?_;refine qCK (tM S [92,42] aa a8 fun n4 _ _ ae az=>?_);have R4:=R3.quiet b3 az;have a4:=R4.obj;cases h1:jE w s2.pos [92,42] with
     |true=>
      simp only[h1,if_true]at M;have b4:=wR h1 dc;have b8:=pX w s2.pos fun b=>decide (b.toNat≠10);have ac:=M.trans (LM.ok_bind (x:=LM.skip (dA w s2.pos fun b=>decide (b.toNat≠10))) (s:=s2) rfl);refine zz ?_;refine qCP [(4,8)] [] kr ?_;refine z1 a4 ?_;refine qCN (fun _=>False) (fun _ _ h=>h.elim) (pY S 0 (MY S) VR om om a4 fun n5 h5 ao ab ad=>?_);have R5:=R4.quiet ae ad;have a9:=R5.obj;rw[Nat.add_zero];have b5:=R4.on ae;generalize dA w s2.pos (fun b=>decide (b.toNat≠10))=rl at *;refine g1 a9 ?_;have b6:=R5.on ab;have R6:=R5.at (p:=s2.pos+rl) om om;have Y:=R6.obj;have a1:aE n5 (h5.put o (.cells [.str w,.int .i64 (s2.pos+rl:Nat),.ref tb 0,ov2,cv2])):=fun t ht=>(by rw[qCf,if_neg om];exact ab t ht);refine eL.lt2 a1 fun _ _ _ a5=>?_;refine zz ?_;obtain⟨a7,a2⟩:=Vz (fun hc=>ho (ac.trans hc));have a6:=ac.trans (LM.ok_bind a2);have aw:=R6.on a5;refine qCP [] [] kr ?_;rcases hcom9:R6.com with O | ⟨ca,xs,O,hca,hcb,hcl,hcn⟩
      .subst O;have U:=aM 1 16 dc dc;refine g2 Y U ?_;refine qCT fun ak ai aj=>?_;refine zz ?_;refine qCR k [(0,.ref o 0)] om sb ⟨_,_,_,rfl,a6,by omega,by omega,R6.com1 a5 a7 (ys:=[AV.agg [.int .i64 s2.pos,.int .i64 (s2.pos+rl:Nat)]]) (zc) (zc) sm sm fun t ht ah O=>zc⟩
      .subst O;have al:=aN a5 hca;have an:=R6.comNe rfl;have U:=aM (xs.length+1) 16 om dc;refine u3 Y U hca ?_;refine qCT fun ak ai aj=>?_;refine zz ?_;refine qCR k [(0,.ref o 0)] om sb ⟨_,_,_,rfl,a6,by omega,by omega,R6.com1 a5 a7 (ys:=xs++[AV.agg [.int .i64 s2.pos,.int .i64 (s2.pos+rl:Nat)]]) (by rw[List.length_append];exact zc) (zc) (by simp;omega) sm fun t ht ah O=>by
        have au:ca≠t:=fun e=>O _ (by rw[e]);exact zc⟩
     |false=>
      simp only[h1,Bool.false_eq_true,if_false]at M;refine zz ?_;refine qCK (tM S [40,42] aa a4 fun n5 h5 ao ab ad=>?_);have R5:=R4.quiet ae ad;have a9:=R5.obj;cases h2:jE w s2.pos [40,42] with
      |true=>
       simp only[h2,if_true]at M;refine zz ?_;refine qCK (rW.call (FN S R5 h2 k om) (R5.bn ab) M ho (fun a s6 v n6 h6 _ _ ar _ ap a1 R6 _=>?_) fun e he n6 h6 ap a1=>by(refine zz ?_);exact qC9<|eG.err he);have Y:=R6.obj;refine zz ?_;obtain⟨a7,a2⟩:=Vz (fun hc=>ho (ar.trans hc));have a6:=ar.trans (LM.ok_bind a2);have aw:=R6.on a1;refine qCP [] [] kr ?_;rcases hcom9:R6.com with O | ⟨ca,xs,O,hca,hcb,hcl,hcn⟩
       .subst O;have U:=aM 1 16 dc dc;refine g2 Y U ?_;refine qCT fun ak ai aj=>?_;refine zz ?_;refine qCR k [(0,.ref o 0)] om sb ⟨_,_,_,rfl,a6,by omega,by omega,R6.com1 a1 a7 (ys:=[AV.agg [.int .i64 s2.pos,.int .i64 (s6.pos:Nat)]]) (zc) (zc) sm sm fun t ht ah O=>zc⟩
       .subst O;have al:=aN a1 hca;have an:=R6.comNe rfl;have U:=aM (xs.length+1) 16 om dc;refine u3 Y U hca ?_;refine qCT fun ak ai aj=>?_;refine zz ?_;refine qCR k [(0,.ref o 0)] om sb ⟨_,_,_,rfl,a6,by omega,by omega,R6.com1 a1 a7 (ys:=xs++[AV.agg [.int .i64 s2.pos,.int .i64 (s6.pos:Nat)]]) (by rw[List.length_append];exact zc) (zc) (by simp;omega) sm fun t ht ah O=>by
         have au:ca≠t:=fun e=>O _ (by rw[e]);exact zc⟩
      |false=>
       simp only[h2,Bool.false_eq_true,if_false]at M;refine zz ?_;exact qC9<|eG.ok (a:=()) M trivial R5
   .simp only[ag,if_false]at M;refine g1 a3 ?_;exact qC9<|eG.ok (a:=()) M trivial R2
omit S in
theorem cE (n:Nat)(x y:aK)(h:Hp):Hp.put ((n,x)::h) n y=(n,y)::h:=by unfold Hp.put;simp
omit S in
theorem Vp (args:List AV):aT Tryz.prog 331 args=.ret (.enter 331 args):=aH Tryz.func331 rfl kr args
omit S in
theorem Vq (args:List AV):aT Tryz.prog 332 args=.ret (.enter 332 args):=aH Tryz.func332 rfl kr args
omit S in
theorem OI (args:List AV):aT Tryz.prog 333 args=.ret (.enter 333 args):=aH Tryz.func333 rfl kr args
omit S in
theorem OJ (args:List AV):aT Tryz.prog 334 args=.ret (.enter 334 args):=aH Tryz.func334 rfl kr args
omit S in
theorem OK (args:List AV):aT Tryz.prog 335 args=.ret (.enter 335 args):=aH Tryz.func335 rfl kr args
omit S in
theorem OL (args:List AV):aT Tryz.prog 336 args=.ret (.enter 336 args):=aH Tryz.func336 rfl kr args
omit S in
theorem OM (args:List AV):aT Tryz.prog 337 args=.ret (.enter 337 args):=aH Tryz.func337 rfl kr args
omit S in
theorem ON (args:List AV):aT Tryz.prog 338 args=.ret (.enter 338 args):=aH Tryz.func338 rfl kr args
omit S in
theorem OO (args:List AV):aT Tryz.prog 339 args=.ret (.enter 339 args):=aH Tryz.func339 rfl kr args
omit S in
theorem Vr (args:List AV):aT Tryz.prog 340 args=.ret (.enter 340 args):=aH Tryz.func340 rfl kr args
omit S in
theorem tW (args:List AV):aT Tryz.prog 341 args=.ret (.enter 341 args):=aH Tryz.func341 rfl kr args
def Ai:List (List UInt8×Nat):=[([47,92],331),([92,47],331),([92,65],332),([92,69],332),([67,72,79,79,83,69],333),([73,70],334),([67,65,83,69],335),([76,69,84],336),([123],337),([60,60],338),([91],339),([87,70,95],340),([83,70,95],340),([84,82,85,69],341),([70,65,76,83,69],341),([66,79,79,76,69,65,78],341),([83,84,82,73,78,71],341),([64],341)]
def iJ (f:Nat):AV:=.fn (.func f) [] []
def bT (i:Nat):List (AV×AV):=(Ai.take i).map fun q=>(.str q.1,iJ q.2)
omit S in
theorem bk0:jM (.str [47,92]) (.fn (.func 331) [] []) []=some (bT 1):=rfl
omit S in
theorem bk1:jM (.str [92,47]) (.fn (.func 331) [] []) (bT 1)=some (bT 2):=rfl
omit S in
theorem bk2:jM (.str [92,65]) (.fn (.func 332) [] []) (bT 2)=some (bT 3):=rfl
omit S in
theorem bk3:jM (.str [92,69]) (.fn (.func 332) [] []) (bT 3)=some (bT 4):=rfl
omit S in
theorem bk4:jM (.str [67,72,79,79,83,69]) (.fn (.func 333) [] []) (bT 4)=some (bT 5):=rfl
omit S in
theorem bk5:jM (.str [73,70]) (.fn (.func 334) [] []) (bT 5)=some (bT 6):=rfl
omit S in
theorem bk6:jM (.str [67,65,83,69]) (.fn (.func 335) [] []) (bT 6)=some (bT 7):=rfl
omit S in
theorem bk7:jM (.str [76,69,84]) (.fn (.func 336) [] []) (bT 7)=some (bT 8):=rfl
omit S in
theorem bk8:jM (.str [123]) (.fn (.func 337) [] []) (bT 8)=some (bT 9):=rfl
omit S in
theorem bk9:jM (.str [60,60]) (.fn (.func 338) [] []) (bT 9)=some (bT 10):=rfl
omit S in
theorem bk10:jM (.str [91]) (.fn (.func 339) [] []) (bT 10)=some (bT 11):=rfl
omit S in
theorem bk11:jM (.str [87,70,95]) (.fn (.func 340) [] []) (bT 11)=some (bT 12):=rfl
omit S in
theorem bk12:jM (.str [83,70,95]) (.fn (.func 340) [] []) (bT 12)=some (bT 13):=rfl
omit S in
theorem bk13:jM (.str [84,82,85,69]) (.fn (.func 341) [] []) (bT 13)=some (bT 14):=rfl
omit S in
theorem bk14:jM (.str [70,65,76,83,69]) (.fn (.func 341) [] []) (bT 14)=some (bT 15):=rfl
omit S in
theorem bk15:jM (.str [66,79,79,76,69,65,78]) (.fn (.func 341) [] []) (bT 15)=some (bT 16):=rfl
omit S in
theorem bk16:jM (.str [83,84,82,73,78,71]) (.fn (.func 341) [] []) (bT 16)=some (bT 17):=rfl
omit S in
theorem bk17:jM (.str [64]) (.fn (.func 341) [] []) (bT 17)=some (bT 18):=rfl
omit S in
def rH:=And.intro bk0 (And.intro bk1 (And.intro bk2 (And.intro bk3 (And.intro bk4 (And.intro bk5 (And.intro bk6 (And.intro bk7 (And.intro bk8 (And.intro bk9 (And.intro bk10 (And.intro bk11 (And.intro bk12 (And.intro bk13 (And.intro bk14 (And.intro bk15 (And.intro bk16 bk17))))))))))))))))
def cM (s:List UInt8):Option Nat:=(Ai.find? fun q=>q.1==s).map (·.2)
omit S in
theorem vU {β:Type}(g:β->AV)(s:List UInt8):∀ l:List (List UInt8×β),mY (.str s) (l.map fun q=>(.str q.1,g q.2))=some ((l.find? fun q=>q.1==s).map fun q=>g q.2)
 |[]=>rfl
 |q::l=>by
  simp only[List.map_cons,mY,yV];rw[List.find?_cons];cases hq:s==q.1 with
  |true=>
   have:(q.1==s)=true:=(by rw[eq_of_beq hq];exact beq_self_eq_true _);simp only[this]
   rfl
  |false=>
   have:(q.1==s)=false:=by
    cases h:q.1==s with
    |true=>rw[eq_of_beq h,beq_self_eq_true]at hq;cases hq
    |false=>rfl
   simp only[this];exact vU g s l
omit S in
theorem bS (s:List UInt8):mY (.str s) (bT 18)=some ((cM s).map iJ):=by
 have h:=vU iJ s Ai;rw[show bT 18=Ai.map fun q=>(.str q.1,iJ q.2) from rfl,h];unfold cM;cases Ai.find? fun q=>q.1==s<;>rfl
theorem OY {o pm im:Nat}{lv:AV}(f:Nat)
  (M1:aL Gl Gm Kp 330 [.ref o 0] o pm im lv (vB f) EN)
  (M2:aL Gl Gm Kp 331 [.ref o 0] o pm im lv (oO f) EN)
  (M3:aL Gl Gm Kp 332 [.ref o 0] o pm im lv (kX f) EN)
  (M4:aL Gl Gm Kp 333 [.ref o 0] o pm im lv (pD f) EN)
  (M5:aL Gl Gm Kp 334 [.ref o 0] o pm im lv (mD f) EN)
  (M6:aL Gl Gm Kp 335 [.ref o 0] o pm im lv (P.step 1 >>= fun _=>mX f []) EN)
  (M7:aL Gl Gm Kp 336 [.ref o 0] o pm im lv (P.step 1 >>= fun _=>zL f []) EN)
  (M8:aL Gl Gm Kp 337 [.ref o 0] o pm im lv (Oy f) EN)
  (M9:aL Gl Gm Kp 338 [.ref o 0] o pm im lv (yJ f) EN)
  (M10:aL Gl Gm Kp 339 [.ref o 0] o pm im lv (pF f) EN)
  (M11:aL Gl Gm Kp 340 [.ref o 0] o pm im lv (Gw f) EN)
  (M12:aL Gl Gm Kp 341 [.ref o 0] o pm im lv IN EN) :
  aL Gl Gm Kp 279 [.ref o 0] o pm im lv (Gv (f+1)) EN:=by
 refine aL.st fun n h cv s T0 ho=>qB6 S 56 [.cell 2 32] Tryz.func279 fun _ _=>?_;have ax:=congrFun (Gv.eq_2 f) s;obtain⟨_,_,_,_⟩:=T0.hd;refine zz ?_;refine aA.st (T0.cell (.cells cC)) fun _ T1=>?_;refine qCK (qBx (gO S 0 dc) T1 fun n4 h4 _ T4=>?_);have M:=ax.trans (P.ok_bind (x:=P.tok 0) rfl);obtain⟨aw,ad⟩:=eF T1.rep 0;generalize s.token 0=t at *;refine z5 @qBz @qB0 ad @cE T4.g1 ?_;by_cases k1:t.kind=1
 .rw[if_pos k1]at M;have c1:decide (t.kind=1)=true:=decide_eq_true k1;refine z1 c1 ?_;refine aA.st (T4.cell (.cells t.cells)) fun hX T5=>?_;have U:=M.trans (congrFun (P.bind_pure _).symm _);refine qBt (M1) T5 U ho ?_;intro a7 s7 v7 n7 h7 a9 a4 Y a6 T7 ab aa;obtain⟨a8,rfl,a2,a1,a3,a5,E7⟩:=Y.sh;refine z7 T7.g2 @qCD a2 a1 a5 a3 @aD ?_;exact qC9<|(T7.set2 _).ends (a4) (E7)
 .rw[if_neg k1]at M;have c1:decide (t.kind=1)=false:=decide_eq_false k1;by_cases k2:t.kind=2
  .rw[if_pos k2]at M;have c2:decide (t.kind=2)=true:=decide_eq_true k2;refine z2 c1 c2 ?_;obtain⟨O,ag⟩:=cJ (fun hc=>ho (M.trans hc));have U:=M.trans (P.ok_bind ag);refine z5 T4.obj @aQ T4.g1 ad @qCD ?_;exact qC9<|(((T4.cell (.cells t.cells)).pos O).set2 _).ends (U) (.mk aw ad .nil)
  .rw[if_neg k2]at M;have c2:decide (t.kind=2)=false:=decide_eq_false k2;by_cases k3:t.kind=3
   .rw[if_pos k3]at M;have c3:decide (t.kind=3)=true:=decide_eq_true k3;refine z3 c1 c2 c3 ?_;obtain⟨O,ag⟩:=cJ (fun hc=>ho (M.trans hc));have U:=M.trans (P.ok_bind ag);refine z5 T4.obj @aQ T4.g1 ad @qCD ?_;exact qC9<|(((T4.cell (.cells t.cells)).pos O).set2 _).ends (U) (.mk rfl rfl .nil)
   .rw[if_neg k3]at M;have c3:decide (t.kind=3)=false:=decide_eq_false k3;by_cases ah:t.kind=5\/t.kind=4
    .rw[if_pos ah]at M;have au:decide (t.kind=5)=true\/(decide (t.kind=5)=false/\decide (t.kind=4)=true):=by
      rcases ah with h | h
      .exact .inl (decide_eq_true h)
      .exact .inr ⟨decide_eq_false om,decide_eq_true h⟩
     rcases au with k5 | ⟨k5,k4⟩
     .by_cases h0:t.s=[47,92]\/t.s=[92,47]
      .have hq:t.s=[47,92]\/t.s=[92,47]:=h0;rcases hq with hs | hs
       .have O:cM t.s=some 331:=(by rw[hs];rfl);rw[if_pos h0]at M;refine zJ c1 c2 c3 k5 @cE @bS O @iJ.eq_1 @Vp T4.g1 (rH) ?_;refine aA.st ((T4.cell (.cells t.cells)).cell (.map (bT 18))) fun hX T5=>?_;have U:=M.trans (congrFun (P.bind_pure _).symm _);refine qBt (M2) T5 U ho ?_;intro a7 s7 v7 n7 h7 a9 a4 Y a6 T7 ab aa;obtain⟨a8,rfl,a2,a1,a3,a5,E7⟩:=Y.sh;refine z7 T7.g3 @qCD a2 a1 a5 a3 @aD ?_;exact qC9<|(T7.set3 _).ends (a4) (E7)
       .have O:cM t.s=some 331:=(by rw[hs];rfl);rw[if_pos h0]at M;refine zJ c1 c2 c3 k5 @cE @bS O @iJ.eq_1 @Vp T4.g1 (rH) ?_;refine aA.st ((T4.cell (.cells t.cells)).cell (.map (bT 18))) fun hX T5=>?_;have U:=M.trans (congrFun (P.bind_pure _).symm _);refine qBt (M2) T5 U ho ?_;intro a7 s7 v7 n7 h7 a9 a4 Y a6 T7 ab aa;obtain⟨a8,rfl,a2,a1,a3,a5,E7⟩:=Y.sh;refine z7 T7.g3 @qCD a2 a1 a5 a3 @aD ?_;exact qC9<|(T7.set3 _).ends (a4) (E7)
      .rw[if_neg h0]at M;by_cases h1:t.s=[92,65]\/t.s=[92,69]
       .have hq:t.s=[92,65]\/t.s=[92,69]:=h1;rcases hq with hs | hs
        .have O:cM t.s=some 332:=(by rw[hs];rfl);rw[if_pos h1]at M;refine zJ c1 c2 c3 k5 @cE @bS O @iJ.eq_1 @Vq T4.g1 (rH) ?_;refine aA.st ((T4.cell (.cells t.cells)).cell (.map (bT 18))) fun hX T5=>?_;have U:=M.trans (congrFun (P.bind_pure _).symm _);refine qBt (M3) T5 U ho ?_;intro a7 s7 v7 n7 h7 a9 a4 Y a6 T7 ab aa;obtain⟨a8,rfl,a2,a1,a3,a5,E7⟩:=Y.sh;refine z7 T7.g3 @qCD a2 a1 a5 a3 @aD ?_;exact qC9<|(T7.set3 _).ends (a4) (E7)
        .have O:cM t.s=some 332:=(by rw[hs];rfl);rw[if_pos h1]at M;refine zJ c1 c2 c3 k5 @cE @bS O @iJ.eq_1 @Vq T4.g1 (rH) ?_;refine aA.st ((T4.cell (.cells t.cells)).cell (.map (bT 18))) fun hX T5=>?_;have U:=M.trans (congrFun (P.bind_pure _).symm _);refine qBt (M3) T5 U ho ?_;intro a7 s7 v7 n7 h7 a9 a4 Y a6 T7 ab aa;obtain⟨a8,rfl,a2,a1,a3,a5,E7⟩:=Y.sh;refine z7 T7.g3 @qCD a2 a1 a5 a3 @aD ?_;exact qC9<|(T7.set3 _).ends (a4) (E7)
       .rw[if_neg h1]at M;by_cases h2:t.s=[67,72,79,79,83,69]
        .have hs:=h2
         .have O:cM t.s=some 333:=(by rw[hs];rfl);rw[if_pos h2]at M;refine zJ c1 c2 c3 k5 @cE @bS O @iJ.eq_1 @OI T4.g1 (rH) ?_;refine aA.st ((T4.cell (.cells t.cells)).cell (.map (bT 18))) fun hX T5=>?_;have U:=M.trans (congrFun (P.bind_pure _).symm _);refine qBt (M4) T5 U ho ?_;intro a7 s7 v7 n7 h7 a9 a4 Y a6 T7 ab aa;obtain⟨a8,rfl,a2,a1,a3,a5,E7⟩:=Y.sh;refine z7 T7.g3 @qCD a2 a1 a5 a3 @aD ?_;exact qC9<|(T7.set3 _).ends (a4) (E7)
        .rw[if_neg h2]at M;by_cases h3:t.s=[73,70]
         .have hs:=h3
          .have O:cM t.s=some 334:=(by rw[hs];rfl);rw[if_pos h3]at M;refine zJ c1 c2 c3 k5 @cE @bS O @iJ.eq_1 @OJ T4.g1 (rH) ?_;refine aA.st ((T4.cell (.cells t.cells)).cell (.map (bT 18))) fun hX T5=>?_;have U:=M.trans (congrFun (P.bind_pure _).symm _);refine qBt (M5) T5 U ho ?_;intro a7 s7 v7 n7 h7 a9 a4 Y a6 T7 ab aa;obtain⟨a8,rfl,a2,a1,a3,a5,E7⟩:=Y.sh;refine z7 T7.g3 @qCD a2 a1 a5 a3 @aD ?_;exact qC9<|(T7.set3 _).ends (a4) (E7)
         .rw[if_neg h3]at M;by_cases h4:t.s=[67,65,83,69]
          .have hs:=h4
           .have O:cM t.s=some 335:=(by rw[hs];rfl);rw[if_pos h4]at M;refine zJ c1 c2 c3 k5 @cE @bS O @iJ.eq_1 @OK T4.g1 (rH) ?_;refine aA.st ((T4.cell (.cells t.cells)).cell (.map (bT 18))) fun hX T5=>?_;have U:=M.trans (congrFun (P.bind_pure _).symm _);refine qBt (M6) T5 U ho ?_;intro a7 s7 v7 n7 h7 a9 a4 Y a6 T7 ab aa;obtain⟨a8,rfl,a2,a1,a3,a5,E7⟩:=Y.sh;refine z7 T7.g3 @qCD a2 a1 a5 a3 @aD ?_;exact qC9<|(T7.set3 _).ends (a4) (E7)
          .rw[if_neg h4]at M;by_cases h5:t.s=[76,69,84]
           .have hs:=h5
            .have O:cM t.s=some 336:=(by rw[hs];rfl);rw[if_pos h5]at M;refine zJ c1 c2 c3 k5 @cE @bS O @iJ.eq_1 @OL T4.g1 (rH) ?_;refine aA.st ((T4.cell (.cells t.cells)).cell (.map (bT 18))) fun hX T5=>?_;have U:=M.trans (congrFun (P.bind_pure _).symm _);refine qBt (M7) T5 U ho ?_;intro a7 s7 v7 n7 h7 a9 a4 Y a6 T7 ab aa;obtain⟨a8,rfl,a2,a1,a3,a5,E7⟩:=Y.sh;refine z7 T7.g3 @qCD a2 a1 a5 a3 @aD ?_;exact qC9<|(T7.set3 _).ends (a4) (E7)
           .rw[if_neg h5]at M;by_cases h6:t.s=[123]
            .have hs:=h6
             .have O:cM t.s=some 337:=(by rw[hs];rfl);rw[if_pos h6]at M;refine zJ c1 c2 c3 k5 @cE @bS O @iJ.eq_1 @OM T4.g1 (rH) ?_;refine aA.st ((T4.cell (.cells t.cells)).cell (.map (bT 18))) fun hX T5=>?_;have U:=M.trans (congrFun (P.bind_pure _).symm _);refine qBt (M8) T5 U ho ?_;intro a7 s7 v7 n7 h7 a9 a4 Y a6 T7 ab aa;obtain⟨a8,rfl,a2,a1,a3,a5,E7⟩:=Y.sh;refine z7 T7.g3 @qCD a2 a1 a5 a3 @aD ?_;exact qC9<|(T7.set3 _).ends (a4) (E7)
            .rw[if_neg h6]at M;by_cases h7:t.s=[60,60]
             .have hs:=h7
              .have O:cM t.s=some 338:=(by rw[hs];rfl);rw[if_pos h7]at M;refine zJ c1 c2 c3 k5 @cE @bS O @iJ.eq_1 @ON T4.g1 (rH) ?_;refine aA.st ((T4.cell (.cells t.cells)).cell (.map (bT 18))) fun hX T5=>?_;have U:=M.trans (congrFun (P.bind_pure _).symm _);refine qBt (M9) T5 U ho ?_;intro a7 s7 v7 n7 h7 a9 a4 Y a6 T7 ab aa;obtain⟨a8,rfl,a2,a1,a3,a5,E7⟩:=Y.sh;refine z7 T7.g3 @qCD a2 a1 a5 a3 @aD ?_;exact qC9<|(T7.set3 _).ends (a4) (E7)
             .rw[if_neg h7]at M;by_cases h8:t.s=[91]
              .have hs:=h8
               .have O:cM t.s=some 339:=(by rw[hs];rfl);rw[if_pos h8]at M;refine zJ c1 c2 c3 k5 @cE @bS O @iJ.eq_1 @OO T4.g1 (rH) ?_;refine aA.st ((T4.cell (.cells t.cells)).cell (.map (bT 18))) fun hX T5=>?_;have U:=M.trans (congrFun (P.bind_pure _).symm _);refine qBt (M10) T5 U ho ?_;intro a7 s7 v7 n7 h7 a9 a4 Y a6 T7 ab aa;obtain⟨a8,rfl,a2,a1,a3,a5,E7⟩:=Y.sh;refine z7 T7.g3 @qCD a2 a1 a5 a3 @aD ?_;exact qC9<|(T7.set3 _).ends (a4) (E7)
              .rw[if_neg h8]at M;by_cases h9:t.s=[87,70,95]\/t.s=[83,70,95]
               .have hq:t.s=[87,70,95]\/t.s=[83,70,95]:=h9;rcases hq with hs | hs
                .have O:cM t.s=some 340:=(by rw[hs];rfl);rw[if_pos h9]at M;refine zJ c1 c2 c3 k5 @cE @bS O @iJ.eq_1 @Vr T4.g1 (rH) ?_;refine aA.st ((T4.cell (.cells t.cells)).cell (.map (bT 18))) fun hX T5=>?_;have U:=M.trans (congrFun (P.bind_pure _).symm _);refine qBt (M11) T5 U ho ?_;intro a7 s7 v7 n7 h7 a9 a4 Y a6 T7 ab aa;obtain⟨a8,rfl,a2,a1,a3,a5,E7⟩:=Y.sh;refine z7 T7.g3 @qCD a2 a1 a5 a3 @aD ?_;exact qC9<|(T7.set3 _).ends (a4) (E7)
                .have O:cM t.s=some 340:=(by rw[hs];rfl);rw[if_pos h9]at M;refine zJ c1 c2 c3 k5 @cE @bS O @iJ.eq_1 @Vr T4.g1 (rH) ?_;refine aA.st ((T4.cell (.cells t.cells)).cell (.map (bT 18))) fun hX T5=>?_;have U:=M.trans (congrFun (P.bind_pure _).symm _);refine qBt (M11) T5 U ho ?_;intro a7 s7 v7 n7 h7 a9 a4 Y a6 T7 ab aa;obtain⟨a8,rfl,a2,a1,a3,a5,E7⟩:=Y.sh;refine z7 T7.g3 @qCD a2 a1 a5 a3 @aD ?_;exact qC9<|(T7.set3 _).ends (a4) (E7)
               .rw[if_neg h9]at M;by_cases ac:t.s=[84,82,85,69]\/t.s=[70,65,76,83,69]\/t.s=[66,79,79,76,69,65,78]\/t.s=[83,84,82,73,78,71]\/t.s=[64]
                .have hq:t.s=[84,82,85,69]\/t.s=[70,65,76,83,69]\/t.s=[66,79,79,76,69,65,78]\/t.s=[83,84,82,73,78,71]\/t.s=[64]:=ac;rcases hq with hs | hs | hs | hs | hs
                 .have O:cM t.s=some 341:=(by rw[hs];rfl);rw[if_pos ac]at M;refine zJ c1 c2 c3 k5 @cE @bS O @iJ.eq_1 @tW T4.g1 (rH) ?_;refine aA.st ((T4.cell (.cells t.cells)).cell (.map (bT 18))) fun hX T5=>?_;have U:=M.trans (congrFun (P.bind_pure _).symm _);refine qBt (M12) T5 U ho ?_;intro a7 s7 v7 n7 h7 a9 a4 Y a6 T7 ab aa;obtain⟨a8,rfl,a2,a1,a3,a5,E7⟩:=Y.sh;refine z7 T7.g3 @qCD a2 a1 a5 a3 @aD ?_;exact qC9<|(T7.set3 _).ends (a4) (E7)
                 .have O:cM t.s=some 341:=(by rw[hs];rfl);rw[if_pos ac]at M;refine zJ c1 c2 c3 k5 @cE @bS O @iJ.eq_1 @tW T4.g1 (rH) ?_;refine aA.st ((T4.cell (.cells t.cells)).cell (.map (bT 18))) fun hX T5=>?_;have U:=M.trans (congrFun (P.bind_pure _).symm _);refine qBt (M12) T5 U ho ?_;intro a7 s7 v7 n7 h7 a9 a4 Y a6 T7 ab aa;obtain⟨a8,rfl,a2,a1,a3,a5,E7⟩:=Y.sh;refine z7 T7.g3 @qCD a2 a1 a5 a3 @aD ?_;exact qC9<|(T7.set3 _).ends (a4) (E7)
                 .have O:cM t.s=some 341:=(by rw[hs];rfl);rw[if_pos ac]at M;refine zJ c1 c2 c3 k5 @cE @bS O @iJ.eq_1 @tW T4.g1 (rH) ?_;refine aA.st ((T4.cell (.cells t.cells)).cell (.map (bT 18))) fun hX T5=>?_;have U:=M.trans (congrFun (P.bind_pure _).symm _);refine qBt (M12) T5 U ho ?_;intro a7 s7 v7 n7 h7 a9 a4 Y a6 T7 ab aa;obtain⟨a8,rfl,a2,a1,a3,a5,E7⟩:=Y.sh;refine z7 T7.g3 @qCD a2 a1 a5 a3 @aD ?_;exact qC9<|(T7.set3 _).ends (a4) (E7)
                 .have O:cM t.s=some 341:=(by rw[hs];rfl);rw[if_pos ac]at M;refine zJ c1 c2 c3 k5 @cE @bS O @iJ.eq_1 @tW T4.g1 (rH) ?_;refine aA.st ((T4.cell (.cells t.cells)).cell (.map (bT 18))) fun hX T5=>?_;have U:=M.trans (congrFun (P.bind_pure _).symm _);refine qBt (M12) T5 U ho ?_;intro a7 s7 v7 n7 h7 a9 a4 Y a6 T7 ab aa;obtain⟨a8,rfl,a2,a1,a3,a5,E7⟩:=Y.sh;refine z7 T7.g3 @qCD a2 a1 a5 a3 @aD ?_;exact qC9<|(T7.set3 _).ends (a4) (E7)
                 .have O:cM t.s=some 341:=(by rw[hs];rfl);rw[if_pos ac]at M;refine zJ c1 c2 c3 k5 @cE @bS O @iJ.eq_1 @tW T4.g1 (rH) ?_;refine aA.st ((T4.cell (.cells t.cells)).cell (.map (bT 18))) fun hX T5=>?_;have U:=M.trans (congrFun (P.bind_pure _).symm _);refine qBt (M12) T5 U ho ?_;intro a7 s7 v7 n7 h7 a9 a4 Y a6 T7 ab aa;obtain⟨a8,rfl,a2,a1,a3,a5,E7⟩:=Y.sh;refine z7 T7.g3 @qCD a2 a1 a5 a3 @aD ?_;exact qC9<|(T7.set3 _).ends (a4) (E7)
                .rw[if_neg ac]at M;have e0:([47,92]:List UInt8)≠t.s:=fun h=>h0 (.inl h.symm);have e1:([92,47]:List UInt8)≠t.s:=fun h=>h0 (.inr h.symm);have e2:([92,65]:List UInt8)≠t.s:=fun h=>h1 (.inl h.symm);have e3:([92,69]:List UInt8)≠t.s:=fun h=>h1 (.inr h.symm);have e4:([67,72,79,79,83,69]:List UInt8)≠t.s:=fun h=>h2 h.symm;have e5:([73,70]:List UInt8)≠t.s:=fun h=>h3 h.symm;have e6:([67,65,83,69]:List UInt8)≠t.s:=fun h=>h4 h.symm;have e7:([76,69,84]:List UInt8)≠t.s:=fun h=>h5 h.symm;have e8:([123]:List UInt8)≠t.s:=fun h=>h6 h.symm;have e9:([60,60]:List UInt8)≠t.s:=fun h=>h7 h.symm;have ai:([91]:List UInt8)≠t.s:=fun h=>h8 h.symm;have aj:([87,70,95]:List UInt8)≠t.s:=fun h=>h9 (.inl h.symm);have ak:([83,70,95]:List UInt8)≠t.s:=fun h=>h9 (.inr h.symm);have al:([84,82,85,69]:List UInt8)≠t.s:=fun h=>ac (.inl h.symm);have an:([70,65,76,83,69]:List UInt8)≠t.s:=fun h=>ac (.inr (.inl h.symm));have ao:([66,79,79,76,69,65,78]:List UInt8)≠t.s:=fun h=>ac (.inr (.inr (.inl h.symm)));have ap:([83,84,82,73,78,71]:List UInt8)≠t.s:=fun h=>ac (.inr (.inr (.inr (.inl h.symm))));have ar:([64]:List UInt8)≠t.s:=fun h=>ac (.inr (.inr (.inr (.inr h.symm))));have O:cM t.s=none:=(by simp[cM,Ai,e0,e1,e2,e3,e4,e5,e6,e7,e8,e9,ai,aj,ak,al,an,ao,ap,ar]);refine u10 c1 c2 c3 k5 @cE @bS O @iJ.eq_1 T4.g1 (rH) ?_;refine aA.st ((T4.cell (.cells t.cells)).cell (.map (bT 18))) fun hX T5=>?_;refine qCK (qBs (lE S EN) T5 M ho (fun a s2 v n2 h2 cv2 ae=>absurd (M.symm.trans ae) (by simp[P.fail])) fun e he n2 h2 _ _=>by(refine zz ?_);exact qC9<|.err he)
     .by_cases h0:t.s=[47,92]\/t.s=[92,47]
      .have hq:t.s=[47,92]\/t.s=[92,47]:=h0;rcases hq with hs | hs
       .have O:cM t.s=some 331:=(by rw[hs];rfl);rw[if_pos h0]at M;refine rP c1 c2 c3 k5 k4 @cE @bS O @iJ.eq_1 @Vp T4.g1 (rH) ?_;refine aA.st ((T4.cell (.cells t.cells)).cell (.map (bT 18))) fun hX T5=>?_;have U:=M.trans (congrFun (P.bind_pure _).symm _);refine qBt (M2) T5 U ho ?_;intro a7 s7 v7 n7 h7 a9 a4 Y a6 T7 ab aa;obtain⟨a8,rfl,a2,a1,a3,a5,E7⟩:=Y.sh;refine z7 T7.g3 @qCD a2 a1 a5 a3 @aD ?_;exact qC9<|(T7.set3 _).ends (a4) (E7)
       .have O:cM t.s=some 331:=(by rw[hs];rfl);rw[if_pos h0]at M;refine rP c1 c2 c3 k5 k4 @cE @bS O @iJ.eq_1 @Vp T4.g1 (rH) ?_;refine aA.st ((T4.cell (.cells t.cells)).cell (.map (bT 18))) fun hX T5=>?_;have U:=M.trans (congrFun (P.bind_pure _).symm _);refine qBt (M2) T5 U ho ?_;intro a7 s7 v7 n7 h7 a9 a4 Y a6 T7 ab aa;obtain⟨a8,rfl,a2,a1,a3,a5,E7⟩:=Y.sh;refine z7 T7.g3 @qCD a2 a1 a5 a3 @aD ?_;exact qC9<|(T7.set3 _).ends (a4) (E7)
      .rw[if_neg h0]at M;by_cases h1:t.s=[92,65]\/t.s=[92,69]
       .have hq:t.s=[92,65]\/t.s=[92,69]:=h1;rcases hq with hs | hs
        .have O:cM t.s=some 332:=(by rw[hs];rfl);rw[if_pos h1]at M;refine rP c1 c2 c3 k5 k4 @cE @bS O @iJ.eq_1 @Vq T4.g1 (rH) ?_;refine aA.st ((T4.cell (.cells t.cells)).cell (.map (bT 18))) fun hX T5=>?_;have U:=M.trans (congrFun (P.bind_pure _).symm _);refine qBt (M3) T5 U ho ?_;intro a7 s7 v7 n7 h7 a9 a4 Y a6 T7 ab aa;obtain⟨a8,rfl,a2,a1,a3,a5,E7⟩:=Y.sh;refine z7 T7.g3 @qCD a2 a1 a5 a3 @aD ?_;exact qC9<|(T7.set3 _).ends (a4) (E7)
        .have O:cM t.s=some 332:=(by rw[hs];rfl);rw[if_pos h1]at M;refine rP c1 c2 c3 k5 k4 @cE @bS O @iJ.eq_1 @Vq T4.g1 (rH) ?_;refine aA.st ((T4.cell (.cells t.cells)).cell (.map (bT 18))) fun hX T5=>?_;have U:=M.trans (congrFun (P.bind_pure _).symm _);refine qBt (M3) T5 U ho ?_;intro a7 s7 v7 n7 h7 a9 a4 Y a6 T7 ab aa;obtain⟨a8,rfl,a2,a1,a3,a5,E7⟩:=Y.sh;refine z7 T7.g3 @qCD a2 a1 a5 a3 @aD ?_;exact qC9<|(T7.set3 _).ends (a4) (E7)
       .rw[if_neg h1]at M;by_cases h2:t.s=[67,72,79,79,83,69]
        .have hs:=h2
         .have O:cM t.s=some 333:=(by rw[hs];rfl);rw[if_pos h2]at M;refine rP c1 c2 c3 k5 k4 @cE @bS O @iJ.eq_1 @OI T4.g1 (rH) ?_;refine aA.st ((T4.cell (.cells t.cells)).cell (.map (bT 18))) fun hX T5=>?_;have U:=M.trans (congrFun (P.bind_pure _).symm _);refine qBt (M4) T5 U ho ?_;intro a7 s7 v7 n7 h7 a9 a4 Y a6 T7 ab aa;obtain⟨a8,rfl,a2,a1,a3,a5,E7⟩:=Y.sh;refine z7 T7.g3 @qCD a2 a1 a5 a3 @aD ?_;exact qC9<|(T7.set3 _).ends (a4) (E7)
        .rw[if_neg h2]at M;by_cases h3:t.s=[73,70]
         .have hs:=h3
          .have O:cM t.s=some 334:=(by rw[hs];rfl);rw[if_pos h3]at M;refine rP c1 c2 c3 k5 k4 @cE @bS O @iJ.eq_1 @OJ T4.g1 (rH) ?_;refine aA.st ((T4.cell (.cells t.cells)).cell (.map (bT 18))) fun hX T5=>?_;have U:=M.trans (congrFun (P.bind_pure _).symm _);refine qBt (M5) T5 U ho ?_;intro a7 s7 v7 n7 h7 a9 a4 Y a6 T7 ab aa;obtain⟨a8,rfl,a2,a1,a3,a5,E7⟩:=Y.sh;refine z7 T7.g3 @qCD a2 a1 a5 a3 @aD ?_;exact qC9<|(T7.set3 _).ends (a4) (E7)
         .rw[if_neg h3]at M;by_cases h4:t.s=[67,65,83,69]
          .have hs:=h4
           .have O:cM t.s=some 335:=(by rw[hs];rfl);rw[if_pos h4]at M;refine rP c1 c2 c3 k5 k4 @cE @bS O @iJ.eq_1 @OK T4.g1 (rH) ?_;refine aA.st ((T4.cell (.cells t.cells)).cell (.map (bT 18))) fun hX T5=>?_;have U:=M.trans (congrFun (P.bind_pure _).symm _);refine qBt (M6) T5 U ho ?_;intro a7 s7 v7 n7 h7 a9 a4 Y a6 T7 ab aa;obtain⟨a8,rfl,a2,a1,a3,a5,E7⟩:=Y.sh;refine z7 T7.g3 @qCD a2 a1 a5 a3 @aD ?_;exact qC9<|(T7.set3 _).ends (a4) (E7)
          .rw[if_neg h4]at M;by_cases h5:t.s=[76,69,84]
           .have hs:=h5
            .have O:cM t.s=some 336:=(by rw[hs];rfl);rw[if_pos h5]at M;refine rP c1 c2 c3 k5 k4 @cE @bS O @iJ.eq_1 @OL T4.g1 (rH) ?_;refine aA.st ((T4.cell (.cells t.cells)).cell (.map (bT 18))) fun hX T5=>?_;have U:=M.trans (congrFun (P.bind_pure _).symm _);refine qBt (M7) T5 U ho ?_;intro a7 s7 v7 n7 h7 a9 a4 Y a6 T7 ab aa;obtain⟨a8,rfl,a2,a1,a3,a5,E7⟩:=Y.sh;refine z7 T7.g3 @qCD a2 a1 a5 a3 @aD ?_;exact qC9<|(T7.set3 _).ends (a4) (E7)
           .rw[if_neg h5]at M;by_cases h6:t.s=[123]
            .have hs:=h6
             .have O:cM t.s=some 337:=(by rw[hs];rfl);rw[if_pos h6]at M;refine rP c1 c2 c3 k5 k4 @cE @bS O @iJ.eq_1 @OM T4.g1 (rH) ?_;refine aA.st ((T4.cell (.cells t.cells)).cell (.map (bT 18))) fun hX T5=>?_;have U:=M.trans (congrFun (P.bind_pure _).symm _);refine qBt (M8) T5 U ho ?_;intro a7 s7 v7 n7 h7 a9 a4 Y a6 T7 ab aa;obtain⟨a8,rfl,a2,a1,a3,a5,E7⟩:=Y.sh;refine z7 T7.g3 @qCD a2 a1 a5 a3 @aD ?_;exact qC9<|(T7.set3 _).ends (a4) (E7)
            .rw[if_neg h6]at M;by_cases h7:t.s=[60,60]
             .have hs:=h7
              .have O:cM t.s=some 338:=(by rw[hs];rfl);rw[if_pos h7]at M;refine rP c1 c2 c3 k5 k4 @cE @bS O @iJ.eq_1 @ON T4.g1 (rH) ?_;refine aA.st ((T4.cell (.cells t.cells)).cell (.map (bT 18))) fun hX T5=>?_;have U:=M.trans (congrFun (P.bind_pure _).symm _);refine qBt (M9) T5 U ho ?_;intro a7 s7 v7 n7 h7 a9 a4 Y a6 T7 ab aa;obtain⟨a8,rfl,a2,a1,a3,a5,E7⟩:=Y.sh;refine z7 T7.g3 @qCD a2 a1 a5 a3 @aD ?_;exact qC9<|(T7.set3 _).ends (a4) (E7)
             .rw[if_neg h7]at M;by_cases h8:t.s=[91]
              .have hs:=h8
               .have O:cM t.s=some 339:=(by rw[hs];rfl);rw[if_pos h8]at M;refine rP c1 c2 c3 k5 k4 @cE @bS O @iJ.eq_1 @OO T4.g1 (rH) ?_;refine aA.st ((T4.cell (.cells t.cells)).cell (.map (bT 18))) fun hX T5=>?_;have U:=M.trans (congrFun (P.bind_pure _).symm _);refine qBt (M10) T5 U ho ?_;intro a7 s7 v7 n7 h7 a9 a4 Y a6 T7 ab aa;obtain⟨a8,rfl,a2,a1,a3,a5,E7⟩:=Y.sh;refine z7 T7.g3 @qCD a2 a1 a5 a3 @aD ?_;exact qC9<|(T7.set3 _).ends (a4) (E7)
              .rw[if_neg h8]at M;by_cases h9:t.s=[87,70,95]\/t.s=[83,70,95]
               .have hq:t.s=[87,70,95]\/t.s=[83,70,95]:=h9;rcases hq with hs | hs
                .have O:cM t.s=some 340:=(by rw[hs];rfl);rw[if_pos h9]at M;refine rP c1 c2 c3 k5 k4 @cE @bS O @iJ.eq_1 @Vr T4.g1 (rH) ?_;refine aA.st ((T4.cell (.cells t.cells)).cell (.map (bT 18))) fun hX T5=>?_;have U:=M.trans (congrFun (P.bind_pure _).symm _);refine qBt (M11) T5 U ho ?_;intro a7 s7 v7 n7 h7 a9 a4 Y a6 T7 ab aa;obtain⟨a8,rfl,a2,a1,a3,a5,E7⟩:=Y.sh;refine z7 T7.g3 @qCD a2 a1 a5 a3 @aD ?_;exact qC9<|(T7.set3 _).ends (a4) (E7)
                .have O:cM t.s=some 340:=(by rw[hs];rfl);rw[if_pos h9]at M;refine rP c1 c2 c3 k5 k4 @cE @bS O @iJ.eq_1 @Vr T4.g1 (rH) ?_;refine aA.st ((T4.cell (.cells t.cells)).cell (.map (bT 18))) fun hX T5=>?_;have U:=M.trans (congrFun (P.bind_pure _).symm _);refine qBt (M11) T5 U ho ?_;intro a7 s7 v7 n7 h7 a9 a4 Y a6 T7 ab aa;obtain⟨a8,rfl,a2,a1,a3,a5,E7⟩:=Y.sh;refine z7 T7.g3 @qCD a2 a1 a5 a3 @aD ?_;exact qC9<|(T7.set3 _).ends (a4) (E7)
               .rw[if_neg h9]at M;by_cases ac:t.s=[84,82,85,69]\/t.s=[70,65,76,83,69]\/t.s=[66,79,79,76,69,65,78]\/t.s=[83,84,82,73,78,71]\/t.s=[64]
                .have hq:t.s=[84,82,85,69]\/t.s=[70,65,76,83,69]\/t.s=[66,79,79,76,69,65,78]\/t.s=[83,84,82,73,78,71]\/t.s=[64]:=ac;rcases hq with hs | hs | hs | hs | hs
                 .have O:cM t.s=some 341:=(by rw[hs];rfl);rw[if_pos ac]at M;refine rP c1 c2 c3 k5 k4 @cE @bS O @iJ.eq_1 @tW T4.g1 (rH) ?_;refine aA.st ((T4.cell (.cells t.cells)).cell (.map (bT 18))) fun hX T5=>?_;have U:=M.trans (congrFun (P.bind_pure _).symm _);refine qBt (M12) T5 U ho ?_;intro a7 s7 v7 n7 h7 a9 a4 Y a6 T7 ab aa;obtain⟨a8,rfl,a2,a1,a3,a5,E7⟩:=Y.sh;refine z7 T7.g3 @qCD a2 a1 a5 a3 @aD ?_;exact qC9<|(T7.set3 _).ends (a4) (E7)
                 .have O:cM t.s=some 341:=(by rw[hs];rfl);rw[if_pos ac]at M;refine rP c1 c2 c3 k5 k4 @cE @bS O @iJ.eq_1 @tW T4.g1 (rH) ?_;refine aA.st ((T4.cell (.cells t.cells)).cell (.map (bT 18))) fun hX T5=>?_;have U:=M.trans (congrFun (P.bind_pure _).symm _);refine qBt (M12) T5 U ho ?_;intro a7 s7 v7 n7 h7 a9 a4 Y a6 T7 ab aa;obtain⟨a8,rfl,a2,a1,a3,a5,E7⟩:=Y.sh;refine z7 T7.g3 @qCD a2 a1 a5 a3 @aD ?_;exact qC9<|(T7.set3 _).ends (a4) (E7)
                 .have O:cM t.s=some 341:=(by rw[hs];rfl);rw[if_pos ac]at M;refine rP c1 c2 c3 k5 k4 @cE @bS O @iJ.eq_1 @tW T4.g1 (rH) ?_;refine aA.st ((T4.cell (.cells t.cells)).cell (.map (bT 18))) fun hX T5=>?_;have U:=M.trans (congrFun (P.bind_pure _).symm _);refine qBt (M12) T5 U ho ?_;intro a7 s7 v7 n7 h7 a9 a4 Y a6 T7 ab aa;obtain⟨a8,rfl,a2,a1,a3,a5,E7⟩:=Y.sh;refine z7 T7.g3 @qCD a2 a1 a5 a3 @aD ?_;exact qC9<|(T7.set3 _).ends (a4) (E7)
                 .have O:cM t.s=some 341:=(by rw[hs];rfl);rw[if_pos ac]at M;refine rP c1 c2 c3 k5 k4 @cE @bS O @iJ.eq_1 @tW T4.g1 (rH) ?_;refine aA.st ((T4.cell (.cells t.cells)).cell (.map (bT 18))) fun hX T5=>?_;have U:=M.trans (congrFun (P.bind_pure _).symm _);refine qBt (M12) T5 U ho ?_;intro a7 s7 v7 n7 h7 a9 a4 Y a6 T7 ab aa;obtain⟨a8,rfl,a2,a1,a3,a5,E7⟩:=Y.sh;refine z7 T7.g3 @qCD a2 a1 a5 a3 @aD ?_;exact qC9<|(T7.set3 _).ends (a4) (E7)
                 .have O:cM t.s=some 341:=(by rw[hs];rfl);rw[if_pos ac]at M;refine rP c1 c2 c3 k5 k4 @cE @bS O @iJ.eq_1 @tW T4.g1 (rH) ?_;refine aA.st ((T4.cell (.cells t.cells)).cell (.map (bT 18))) fun hX T5=>?_;have U:=M.trans (congrFun (P.bind_pure _).symm _);refine qBt (M12) T5 U ho ?_;intro a7 s7 v7 n7 h7 a9 a4 Y a6 T7 ab aa;obtain⟨a8,rfl,a2,a1,a3,a5,E7⟩:=Y.sh;refine z7 T7.g3 @qCD a2 a1 a5 a3 @aD ?_;exact qC9<|(T7.set3 _).ends (a4) (E7)
                .rw[if_neg ac]at M;have e0:([47,92]:List UInt8)≠t.s:=fun h=>h0 (.inl h.symm);have e1:([92,47]:List UInt8)≠t.s:=fun h=>h0 (.inr h.symm);have e2:([92,65]:List UInt8)≠t.s:=fun h=>h1 (.inl h.symm);have e3:([92,69]:List UInt8)≠t.s:=fun h=>h1 (.inr h.symm);have e4:([67,72,79,79,83,69]:List UInt8)≠t.s:=fun h=>h2 h.symm;have e5:([73,70]:List UInt8)≠t.s:=fun h=>h3 h.symm;have e6:([67,65,83,69]:List UInt8)≠t.s:=fun h=>h4 h.symm;have e7:([76,69,84]:List UInt8)≠t.s:=fun h=>h5 h.symm;have e8:([123]:List UInt8)≠t.s:=fun h=>h6 h.symm;have e9:([60,60]:List UInt8)≠t.s:=fun h=>h7 h.symm;have ai:([91]:List UInt8)≠t.s:=fun h=>h8 h.symm;have aj:([87,70,95]:List UInt8)≠t.s:=fun h=>h9 (.inl h.symm);have ak:([83,70,95]:List UInt8)≠t.s:=fun h=>h9 (.inr h.symm);have al:([84,82,85,69]:List UInt8)≠t.s:=fun h=>ac (.inl h.symm);have an:([70,65,76,83,69]:List UInt8)≠t.s:=fun h=>ac (.inr (.inl h.symm));have ao:([66,79,79,76,69,65,78]:List UInt8)≠t.s:=fun h=>ac (.inr (.inr (.inl h.symm)));have ap:([83,84,82,73,78,71]:List UInt8)≠t.s:=fun h=>ac (.inr (.inr (.inr (.inl h.symm))));have ar:([64]:List UInt8)≠t.s:=fun h=>ac (.inr (.inr (.inr (.inr h.symm))));have O:cM t.s=none:=(by simp[cM,Ai,e0,e1,e2,e3,e4,e5,e6,e7,e8,e9,ai,aj,ak,al,an,ao,ap,ar]);refine zJ c1 c2 c3 k5 k4 @cE @bS O @iJ.eq_1 T4.g1 (rH) ?_;refine aA.st ((T4.cell (.cells t.cells)).cell (.map (bT 18))) fun hX T5=>?_;refine qCK (qBs (lE S EN) T5 M ho (fun a s2 v n2 h2 cv2 ae=>absurd (M.symm.trans ae) (by simp[P.fail])) fun e he n2 h2 _ _=>by(refine zz ?_);exact qC9<|.err he)
    .rw[if_neg ah]at M;have c5:decide (t.kind=5)=false:=decide_eq_false (fun h=>ah (.inl h));have c4:decide (t.kind=4)=false:=decide_eq_false (fun h=>ah (.inr h));refine g5 c1 c2 c3 c5 c4 ?_;refine aA.st (T4.cell (.cells t.cells)) fun hX T5=>?_;refine qCK (qBs (lE S EN) T5 M ho (fun a s2 v n2 h2 cv2 ae=>absurd (M.symm.trans ae) (by simp[P.fail])) fun e he n2 h2 _ _=>by(refine zz ?_);exact qC9<|.err he)
def qCC:=@iJ.eq_1
end
section
variable {Gl:qC6}{Gm:qC7}{Kp:qC8}(S:Seat Gm Kp)
theorem EG (args:List AV):aT Tryz.prog 318 args=.ret (.enter 318 args):=aH Tryz.func318 rfl kr args
theorem EH (args:List AV):aT Tryz.prog 357 args=.ret (.enter 357 args):=aH Tryz.func357 rfl kr args
theorem EI (args:List AV):aT Tryz.prog 358 args=.ret (.enter 358 args):=aH Tryz.func358 rfl kr args
theorem VX (args:List AV):aT Tryz.prog 323 args=.ret (.enter 323 args):=aH Tryz.func323 rfl kr args
theorem VY (args:List AV):aT Tryz.prog 324 args=.ret (.enter 324 args):=aH Tryz.func324 rfl kr args
theorem qG (s:List UInt8):mY (.str s) dF=some ((mF s).map AV.str):=by
 have h:=vU AV.str s uJ;rw[show dF=uJ.map fun q=>(.str q.1,AV.str q.2) from rfl,h];unfold mF;cases uJ.find? fun q=>q.1==s<;>rfl
theorem Ym (s:List UInt8):mY (.str s) fR=some (if tF s then some (.bool true) else none):=by
 have h:=vU (fun (_:Unit)=>AV.bool true) s (lH.map fun q=>(q,()));rw[List.map_map]at h;rw[show fR=List.map ((fun q:List UInt8×Unit=>(AV.str q.1,AV.bool true)) ∘ fun q=>(q,())) lH from rfl,h];rw[List.find?_map];have M:(lH.find? fun x=>x==s).isSome=lH.contains s:=by
  rw[Bool.eq_iff_iff,List.find?_isSome];simp
 show some (Option.map _ (Option.map _ (lH.find? ((fun q:List UInt8×Unit=>q.1==s) ∘ fun q=>(q,())))) )=_;show some (Option.map _ (Option.map _ (lH.find? fun x=>x==s)))=_;unfold tF;rw[<- M];cases lH.find? fun x=>x==s<;>rfl
theorem rZ {s c:List UInt8}(h:mF s=some c):(∀ b ∈ s,b.toNat<128)/\s.length<=100:=by
 have M:uJ.all (fun q=>(q.1.all fun b=>decide (b.toNat<128))&&decide (q.1.length<=100))=true:=kr;unfold mF at h;cases hf:uJ.find? fun q=>q.1==s with
 |none=>rw[hf]at h;cases h
 |some q=>
  have O:=List.mem_of_find?_eq_some hf;have U:=List.find?_some hf;have:=List.all_eq_true.1 M q O;rw[eq_of_beq U]at this;simp only[Bool.and_eq_true,List.all_eq_true,decide_eq_true_eq]at this;exact this
theorem BD (w:List UInt8)(p:Nat):∀ b ∈ (w.drop p).take (dA w p jC),b.toNat<128:=by
 intro b hb;have h2:(w.drop p).take (dA w p jC)=(w.drop p).takeWhile jC:=by
  unfold dA;exact List.prefix_iff_eq_take.1 (List.takeWhile_prefix _) |>.symm
 rw[h2]at hb;have M:jC b=true:=by
  have:=List.all_takeWhile (p:=jC) (l:=w.drop p);exact List.all_eq_true.1 this b hb
 unfold jC cW gI at M;simp only[Bool.or_eq_true,Bool.and_eq_true,decide_eq_true_eq]at M;omega
theorem Cp {w:List UInt8}{p:Nat}{q:UInt8->Bool}(hp:p<w.length)(hq:q (bG w p)=true):1<=dA w p q:=by
 have M:bG w p=w[p]:=(by simp[bG,List.getD,hp]);unfold dA;rw[List.drop_eq_getElem_cons hp,List.takeWhile_cons,<- M,hq];simp
include S
theorem qAS {b o tb cm wm:Nat}{w:List UInt8}{n:Nat}{h:Hp}{ov cv:AV}{s:SS}(R:iC b h o tb cm wm w ov cv s)(hlt:s.pos<w.length)(hr:jC (bG w s.pos)=true):rW Gl Gm Kp b o tb cm wm w 319 [.ref o 0] (Ls w) IQ n h s:=by
 refine rW.fin R fun hl ho=>qB6 S 99 [] Tryz.func319 fun _ _=>?_;have ak:=R.obj;have b5:=R.wl;have b1:=R.pos;have b3:=R.bo;have aj:Ls w s=Ls w s:=rfl
 conv at aj=>rhs;unfold Ls
 generalize hms:Ls w s=ms at *;have M:=aj.trans (LM.ok_bind (x:=LM.pos) (s:=s) rfl);have az:=Cp hlt hr;have b4:=pX w s.pos jC;have ah:=BD w s.pos;refine zz ?_;refine qCK (pY S 0 (Vv S) EG om om ak fun n2 h2 _ au al=>?_);have R2:=R.quiet hl al;have a4:=R2.obj;rw[Nat.add_zero];have b0:(List.take (s.pos+dA w s.pos jC-s.pos) (List.drop s.pos w))=List.take (dA w s.pos jC) (List.drop s.pos w):=(by rw[Nat.add_sub_cancel_left]);have b2:(List.take (dA w s.pos jC) (List.drop s.pos w)).length=dA w s.pos jC:=(by rw[List.length_take,List.length_drop];omega);refine zz ?_;refine qCP [] [] kr ?_;generalize dA w s.pos jC=rl at *;generalize hsg:List.take rl (List.drop s.pos w)=sg at *;refine g2 a4 b0 ?_;refine qCK (pY S 0 (jW S) EI om om a4 fun _ _ _ aw an=>?_);have R3:=R2.quiet au an;have ay:=R3.obj;rw[Nat.add_zero];by_cases ab:dA w s.pos gI=rl
 .simp only[ab,if_true]at M;exact absurd M ho
 .simp only[ab,if_false]at M;refine z1 @Nat.add_zero ?_;refine qCK ((sF S sg [87,70,95]).use fun n4 _ _ ai ao=>?_);have R4:=R3.quiet aw ao;cases hwf:([87,70,95]:List UInt8).isPrefixOf sg with
  |true=>
   simp only[hwf,Bool.true_or,if_true]at M;have ag:=(List.isPrefixOf_iff_prefix.1 hwf).length_le;simp only[List.length_cons,List.length_nil]at ag;have ae:dE (some (.int .i64 3)) sg.length=some 3:=rfl;refine x3 hwf @Nat.sub_zero ae ?_;refine qCK (rW.call (sO S R4 (lM 4 (sg.take 3)) 3 om om rfl rfl) (R4.bn ai) (M.trans (congrFun (LM.bind_pure _).symm _)) ho (fun a s9 v n9 h9 aa a7 Y a8 O U R9 a2=>?_) fun e he n9 h9 O U=>by(refine zz ?_);exact qC9<|eG.err he);refine zz ?_;exact qC9<|eG.ok (a:=()) Y trivial R9
  |false=>
   simp only[hwf,Bool.false_or]at M;refine z1 hwf ?_;refine qCK ((sF S sg [83,70,95]).use fun n5 _ _ a9 ap=>?_);have R5:=R4.quiet ai ap;cases hsf:([83,70,95]:List UInt8).isPrefixOf sg with
   |true=>
    simp only[hsf,if_true]at M;have ag:=(List.isPrefixOf_iff_prefix.1 hsf).length_le;simp only[List.length_cons,List.length_nil]at ag;have ae:dE (some (.int .i64 3)) sg.length=some 3:=rfl;refine x3 hsf @Nat.sub_zero ae ?_;refine qCK (rW.call (sO S R5 (lM 4 (sg.take 3)) 3 om om rfl rfl) (R5.bn a9) (M.trans (congrFun (LM.bind_pure _).symm _)) ho (fun a s9 v n9 h9 aa a7 Y a8 O U R9 a2=>?_) fun e he n9 h9 O U=>by(refine zz ?_);exact qC9<|eG.err he);refine zz ?_;exact qC9<|eG.ok (a:=()) Y trivial R9
   |false=>
    simp only[hsf,Bool.false_eq_true,if_false]at M;have a5:=R5.obj;cases hus:sg==[95] with
    |true=>
     rw[if_pos (eq_of_beq hus)]at M;refine z2 hsf hus ?_;refine qCK (rW.call (sO S R5 (lM 5 sg) (rl) om om rfl rfl) (R5.bn a9) (M.trans (congrFun (LM.bind_pure _).symm _)) ho (fun a s9 v n9 h9 aa a7 Y a8 O U R9 a2=>?_) fun e he n9 h9 O U=>by(refine zz ?_);exact qC9<|eG.err he);refine zz ?_;exact qC9<|eG.ok (a:=()) Y trivial R9
    |false=>
     rw[if_neg (by intro hc;rw[hc]at hus;cases hus)]at M;have ac:=R5.tab;have ad:=R5.wrd;have a1:=Ym sg;cases hkw:tF sg with
     |true=>
      rw[hkw]at a1;simp only[hkw,if_true]at M a1;refine z6 hsf hus a5 ac ad a1 ?_;refine qCK (rW.call (sO S R5 (lM 4 sg) (rl) om om rfl rfl) (R5.bn a9) (M.trans (congrFun (LM.bind_pure _).symm _)) ho (fun a s9 v n9 h9 aa a7 Y a8 O U R9 a2=>?_) fun e he n9 h9 O U=>by(refine zz ?_);exact qC9<|eG.err he);refine zz ?_;exact qC9<|eG.ok (a:=()) Y trivial R9
     |false=>
      rw[hkw]at a1;simp only[hkw,Bool.false_eq_true,if_false]at M a1;refine z6 hsf hus a5 ac ad a1 ?_;refine qCK ((oD S sg ah om).use fun n6 _ _ ax ar=>?_);have R6:=R5.quiet a9 ar;have a6:=R6.obj;cases hle:sg.any cW with
      |false=>
       simp only[hle,Bool.not_false,if_true]at M;refine z3 hle @Bool.not_false a6 ?_;refine qCK (pS S s.pos 20 fun n9 h9 O U a2=>?_);refine zz ?_;exact qC9<|eG.err M
      |true=>
       simp only[hle,Bool.not_true,Bool.false_eq_true,if_false]at M;by_cases a3:40<rl
       .simp only[a3,if_true]at M;refine z3 hle @Bool.not_true a6 ?_;refine qCK (pS S s.pos 24 fun n9 h9 O U a2=>?_);refine zz ?_;exact qC9<|eG.err M
       .simp only[a3,if_false]at M;refine z2 hle @Bool.not_true ?_;refine qCK (rW.call (sO S R6 (lM 1 sg) (rl) om om rfl rfl) (R6.bn ax) (M.trans (congrFun (LM.bind_pure _).symm _)) ho (fun a s9 v n9 h9 aa a7 Y a8 O U R9 a2=>?_) fun e he n9 h9 O U=>by(refine zz ?_);exact qC9<|eG.err he);refine zz ?_;exact qC9<|eG.ok (a:=()) Y trivial R9
theorem Wr (b:UInt8)(hd:gI b=false)(h2:¬(97<=b.toNat/\b.toNat<=102))(h3:¬(65<=b.toNat/\b.toNat<=70)):cD Gl Gm Kp 360 [.int .u8 b.toNat] (.int .i64 (-1)):=by
 refine cD.fin fun n h _=>qB6 S 31 [.tmp 2] Tryz.func360 fun _ _=>?_;have hb:=b.toNat_lt;refine zz ?_;refine qCK ((jW S b).use fun n1 h1 _ _ _=>?_);by_cases O:97<=b.toNat
 .have U:¬b.toNat<=102:=fun h=>h2 ⟨O,h⟩;have M:¬b.toNat<=70:=om;refine z1 hd ?_;exact qC9<|rfl
 .by_cases M:65<=b.toNat
  .have Y:¬b.toNat<=70:=fun h=>h3 ⟨M,h⟩;refine z1 hd ?_;exact qC9<|rfl
  .refine z1 hd ?_;exact qC9<|rfl
theorem DX {b o tb cm wm:Nat}{w:List UInt8}{n:Nat}{h:Hp}{ov cv:AV}{s:SS}(R:iC b h o tb cm wm w ov cv s)(hno:qO w s.pos=false){B:Nat->Prop}{Q:aS->Nat->Hp->Prop}
  (hQ:∀ n' h',n<=n'->aE n' h'->(∀ t,t<n->h'.get t=h.get t)->Q (.returned (.bool false)) n' h'):aG Tryz.prog Gl Gm Kp 320 [.ref o 0] n h B Q:=by
 refine aG.mono (B:=fun _=>False) (Q:=fun e _ _=>e=.returned (.bool false)) ?_ (fun _ _ h=>h.elim) (fun e n' h' a b c d=>by subst d;exact hQ n' h' a b fun t ht=>c t ht id);refine qB6 S 76 [.tmp 2] Tryz.func320 fun _ hl=>?_;have ab:=R.obj;have al:=R.wl;have ah:=R.pos;have ai:=(bG w s.pos).toNat_lt;have aj:=(bG w (s.pos+1)).toNat_lt;have ak:=(bG w (s.pos+2)).toNat_lt;refine zz ?_;refine qCK (lC S 0 om om ab fun n2 h2 _ ae a9=>?_);have a6:=(R.quiet hl a9).obj;have R2:=R.quiet hl a9;simp only[Nat.add_zero];by_cases c0:(bG w s.pos).toNat=92
 .have e0:bG w s.pos=92:=UInt8.toNat_inj.1 c0;refine zz ?_;refine qCK (lC S 1 om om a6 fun _ _ _ _ ac=>?_);have R3:=R2.quiet ae ac;have M:=R3.obj;by_cases c1:(bG w (s.pos+1)).toNat=98
  .have e1:bG w (s.pos+1)=98:=UInt8.toNat_inj.1 c1;have O:gI (bG w (s.pos+2))=false:=by
    simp[qO,e0,e1]at hno;exact hno
   refine zz ?_;refine qCK (lC S 2 om om M fun n4 h4 U a2 a1=>?_);refine zz ?_;refine qCK ((jW S _).use fun n5 h5 Y a4 a3=>?_);refine z2 O @Bool.not_false ?_;exact qC9<|rfl
  by_cases c2:(bG w (s.pos+1)).toNat=66
  .have e1:bG w (s.pos+1)=66:=UInt8.toNat_inj.1 c2;have O:gI (bG w (s.pos+2))=false:=by
    simp[qO,e0,e1]at hno;exact hno
   refine zz ?_;refine qCK (lC S 2 om om M fun n4 h4 U a2 a1=>?_);refine zz ?_;refine qCK ((jW S _).use fun n5 h5 Y a4 a3=>?_);refine z2 O @Bool.not_false ?_;exact qC9<|rfl
  by_cases c3:(bG w (s.pos+1)).toNat=111
  .have e1:bG w (s.pos+1)=111:=UInt8.toNat_inj.1 c3;have O:gI (bG w (s.pos+2))=false:=by
    simp[qO,e0,e1]at hno;exact hno
   refine zz ?_;refine qCK (lC S 2 om om M fun n4 h4 U a2 a1=>?_);refine zz ?_;refine qCK ((jW S _).use fun n5 h5 Y a4 a3=>?_);refine z2 O @Bool.not_false ?_;exact qC9<|rfl
  by_cases c4:(bG w (s.pos+1)).toNat=79
  .have e1:bG w (s.pos+1)=79:=UInt8.toNat_inj.1 c4;have O:gI (bG w (s.pos+2))=false:=by
    simp[qO,e0,e1]at hno;exact hno
   refine zz ?_;refine qCK (lC S 2 om om M fun n4 h4 U a2 a1=>?_);refine zz ?_;refine qCK ((jW S _).use fun n5 h5 Y a4 a3=>?_);refine z2 O @Bool.not_false ?_;exact qC9<|rfl
  by_cases c5:(bG w (s.pos+1)).toNat=104
  .have e1:bG w (s.pos+1)=104:=UInt8.toNat_inj.1 c5;have a5:gI (bG w (s.pos+2))=false/\¬(97<=(bG w (s.pos+2)).toNat/\(bG w (s.pos+2)).toNat<=102)/\¬(65<=(bG w (s.pos+2)).toNat/\(bG w (s.pos+2)).toNat<=70):=by
    simp[qO,e0,e1]at hno;exact⟨hno.1,fun hc=>by have:=hno.2.1 hc.1;omega,fun hc=>by have:=hno.2.2 hc.1;omega⟩
   obtain⟨O,a7,a8⟩:=a5;refine zz ?_;refine qCK (lC S 2 om om M fun n4 h4 U a2 a1=>?_);refine zz ?_;refine qCK ((jW S _).use fun n5 h5 Y a4 a3=>?_);refine z2 O @Bool.not_false ?_;refine qCK ((Wr S _ O a7 a8).use fun n6 h6 aa ag ad=>?_);refine zz ?_;exact qC9<|rfl
  by_cases c6:(bG w (s.pos+1)).toNat=72
  .have e1:bG w (s.pos+1)=72:=UInt8.toNat_inj.1 c6;have a5:gI (bG w (s.pos+2))=false/\¬(97<=(bG w (s.pos+2)).toNat/\(bG w (s.pos+2)).toNat<=102)/\¬(65<=(bG w (s.pos+2)).toNat/\(bG w (s.pos+2)).toNat<=70):=by
    simp[qO,e0,e1]at hno;exact⟨hno.1,fun hc=>by have:=hno.2.1 hc.1;omega,fun hc=>by have:=hno.2.2 hc.1;omega⟩
   obtain⟨O,a7,a8⟩:=a5;refine zz ?_;refine qCK (lC S 2 om om M fun n4 h4 U a2 a1=>?_);refine zz ?_;refine qCK ((jW S _).use fun n5 h5 Y a4 a3=>?_);refine z2 O @Bool.not_false ?_;refine qCK ((Wr S _ O a7 a8).use fun n6 h6 aa ag ad=>?_);refine zz ?_;exact qC9<|rfl
  .refine zz ?_;refine qCK (lC S 2 om om M fun n4 h4 U a2 a1=>?_);refine zz ?_;exact qC9<|rfl
 .refine zz ?_;exact qC9<|rfl
theorem SL {b o tb cm wm:Nat}{w:List UInt8}{n:Nat}{h:Hp}{ov cv:AV}{s:SS}(R:iC b h o tb cm wm w ov cv s)(hlt:s.pos<w.length):rW Gl Gm Kp b o tb cm wm w 325 [.ref o 0] (yW w) IQ n h s:=by
 refine rW.fin R fun hl ho=>qB6 S 129 [] Tryz.func325 fun _ _=>?_;have ax:=R.obj;have b8:=R.wl;have b4:=R.pos;have b6:=R.bo;have aw:yW w s=yW w s:=rfl
 conv at aw=>rhs;unfold yW
 generalize hms:yW w s=ms at *;have a6:=aw.trans (LM.ok_bind (x:=LM.pos) (s:=s) rfl);have b5:=(bG w s.pos).toNat_lt;refine zz ?_;refine qCK (lC S 0 om om ax fun n2 h2 _ b2 b0=>?_);have R2:=R.quiet hl b0;have ap:=R2.obj;simp only[Nat.add_zero];by_cases c0:(bG w s.pos).toNat=92
 .have e0:bG w s.pos=92:=UInt8.toNat_inj.1 c0;rw[if_pos e0]at a6;have b7:=pX w (s.pos+1) cW;refine zz ?_;refine qCK (pY S 1 (Bl S) EH om om ap fun _ _ _ b3 b1=>?_);have R3:=R2.quiet b2 b1;have ac:=R3.obj;have ad:=R3.tab;have aa:=R3.can;generalize dA w (s.pos+1) cW=rl at *;have ay:(1:Int)+(rl:Int)=((1+rl:Nat):Int):=om;have ar:(List.take (s.pos+(1+rl)-s.pos) (List.drop s.pos w))=List.take (1+rl) (List.drop s.pos w):=(by rw[Nat.add_sub_cancel_left]);refine z1 ay ?_;refine qCP [] [] kr ?_;have U:=qG (List.take (1+rl) (List.drop s.pos w));cases hc:mF (List.take (1+rl) (List.drop s.pos w)) with
  |none=>
   rw[hc]at U;simp only[hc]at a6;refine u5 ac ad aa ar U ?_;have a3:=R3.obj;have a4:=R3.tab;refine qCP [] [] kr ?_;have a8:(if ((w.length-s.pos:Nat):Int)<3 then ((w.length-s.pos:Nat):Int) else 3)=((min 3 (w.length-s.pos):Nat):Int):=by split<;>omega
   (repeat (first | (refine qCJ om ?_) | (simp -dsimp (disch:=first | assumption | omega) only [go_sem,Nat.reduceLT,Nat.reduceBEq,Nat.reduceAdd,Nat.reduceSub,Nat.reduceLeDiff,Nat.reduceEqDiff,↓reduceIte,beq_true,beq_false,decide_eq_true,decide_eq_false,a3,a4,Bt,mM,a8])))
   have ah:min 3 (w.length-s.pos)<=w.length-s.pos:=Nat.min_le_right _ _;have ak:ms=fV w (min 3 (w.length-s.pos)) s:=a6;generalize min 3 (w.length-s.pos)=k0 at *;refine qCu (fun m E nn hh=>∃(ov2 cv2:AV),E=[(0,.ref o 0),(5,.int .i64 m)]/\ms=fV w m s/\m<=w.length-s.pos/\n<=nn/\iC b hh o tb cm wm w ov2 cv2 s) k0 ⟨ov,cv,rfl,ak,ah,by omega,R3⟩ ?_
   .rintro k E nn hh hlk hBk ⟨ov2,cv2,rfl,hm,hkl,hnn,RL⟩;have O:=RL.obj;have a1:=RL.tab;have Y:=RL.can;cases k with
    |zero=>
     rw[fV.eq_1]at hm;have M:=hm.trans (LM.ok_bind (x:=LM.pos) (s:=s) rfl);refine z1 O ?_;refine qCK (pS S s.pos 20 fun n9 h9 a2 a5 ag=>?_);refine zz ?_;exact qC9<|eG.err M
    |succ k=>
     rw[fV.eq_2]at hm;have M:=hm.trans (LM.ok_bind (x:=LM.pos) (s:=s) rfl);have a9:(List.take (s.pos+(k+1)-s.pos) (List.drop s.pos w))=List.take (k+1) (List.drop s.pos w):=(by rw[Nat.add_sub_cancel_left]);refine zz ?_;refine qCP [] [] kr ?_;refine g2 O a9 ?_;generalize hsg:List.take (k+1) (List.drop s.pos w)=sg at *;have U:=qG sg;cases hc:mF sg with
     |none=>
      rw[hc]at U;simp only[hc]at M;refine u4 O a1 Y U ?_;refine aU.mq k ⟨ov2,cv2,rfl,M,by omega,by omega,RL⟩
     |some c=>
      rw[hc]at U;simp only[hc]at M;obtain⟨a7,ae⟩:=rZ hc;refine u4 O a1 Y U ?_;refine qCK ((oD S sg a7 om).use fun n6 h6 al aj ai=>?_);have R6:=RL.quiet hlk ai;cases hle:sg.any cW with
      |true=>
       simp only[hle,if_true]at M;refine z2 hle @Bool.not_true ?_;refine aU.mq k ⟨ov2,cv2,rfl,M,by omega,by omega,R6⟩
      |false=>
       simp only[hle,Bool.false_eq_true,if_false]at M;refine z2 hle @Bool.not_false ?_;refine qCK (rW.call (sO S R6 (lM 5 c) (k+1) om om rfl rfl) (R6.bn aj) (M.trans (congrFun (LM.bind_pure _).symm _)) ho (fun a s9 v n9 h9 au an ab ao a2 a5 R9 ag=>?_) fun e he n9 h9 a2 a5=>by(refine zz ?_);exact qC9<|eG.err he);refine zz ?_;exact qC9<|eG.ok (a:=()) ab trivial R9
  |some c=>
   rw[hc]at U;simp only[hc]at a6;by_cases az:1<1+rl
   .simp only[az,if_true]at a6;refine u5 ac ad aa ar U ?_;refine qCK (rW.call (sO S R3 (lM 5 c) (1+rl) om om rfl rfl) (R3.bn b3) (a6.trans (congrFun (LM.bind_pure _).symm _)) ho (fun a s9 v n9 h9 au an ab ao a2 a5 R9 ag=>?_) fun e he n9 h9 a2 a5=>by(refine zz ?_);exact qC9<|eG.err he);refine zz ?_;exact qC9<|eG.ok (a:=()) ab trivial R9
   .simp only[az,if_false]at a6;refine u5 ac ad aa ar U ?_;have a3:=R3.obj;have a4:=R3.tab;refine qCP [] [] kr ?_;have a8:(if ((w.length-s.pos:Nat):Int)<3 then ((w.length-s.pos:Nat):Int) else 3)=((min 3 (w.length-s.pos):Nat):Int):=by split<;>omega
    (repeat (first | (refine qCJ om ?_) | (simp -dsimp (disch:=first | assumption | omega) only [go_sem,Nat.reduceLT,Nat.reduceBEq,Nat.reduceAdd,Nat.reduceSub,Nat.reduceLeDiff,Nat.reduceEqDiff,↓reduceIte,beq_true,beq_false,decide_eq_true,decide_eq_false,a3,a4,Bt,mM,a8])))
    have ah:min 3 (w.length-s.pos)<=w.length-s.pos:=Nat.min_le_right _ _;have ak:ms=fV w (min 3 (w.length-s.pos)) s:=a6;generalize min 3 (w.length-s.pos)=k0 at *;refine qCu (fun m E nn hh=>∃(ov2 cv2:AV),E=[(0,.ref o 0),(5,.int .i64 m)]/\ms=fV w m s/\m<=w.length-s.pos/\n<=nn/\iC b hh o tb cm wm w ov2 cv2 s) k0 ⟨ov,cv,rfl,ak,ah,by omega,R3⟩ ?_
    .rintro k E nn hh hlk hBk ⟨ov2,cv2,rfl,hm,hkl,hnn,RL⟩;have O:=RL.obj;have a1:=RL.tab;have Y:=RL.can;cases k with
     |zero=>
      rw[fV.eq_1]at hm;have M:=hm.trans (LM.ok_bind (x:=LM.pos) (s:=s) rfl);refine z1 O ?_;refine qCK (pS S s.pos 20 fun n9 h9 a2 a5 ag=>?_);refine zz ?_;exact qC9<|eG.err M
     |succ k=>
      rw[fV.eq_2]at hm;have M:=hm.trans (LM.ok_bind (x:=LM.pos) (s:=s) rfl);have a9:(List.take (s.pos+(k+1)-s.pos) (List.drop s.pos w))=List.take (k+1) (List.drop s.pos w):=(by rw[Nat.add_sub_cancel_left]);refine zz ?_;refine qCP [] [] kr ?_;refine g2 O a9 ?_;generalize hsg:List.take (k+1) (List.drop s.pos w)=sg at *;have U:=qG sg;cases hc:mF sg with
      |none=>
       rw[hc]at U;simp only[hc]at M;refine u4 O a1 Y U ?_;refine aU.mq k ⟨ov2,cv2,rfl,M,by omega,by omega,RL⟩
      |some c=>
       rw[hc]at U;simp only[hc]at M;obtain⟨a7,ae⟩:=rZ hc;refine u4 O a1 Y U ?_;refine qCK ((oD S sg a7 om).use fun n6 h6 al aj ai=>?_);have R6:=RL.quiet hlk ai;cases hle:sg.any cW with
       |true=>
        simp only[hle,if_true]at M;refine z2 hle @Bool.not_true ?_;refine aU.mq k ⟨ov2,cv2,rfl,M,by omega,by omega,R6⟩
       |false=>
        simp only[hle,Bool.false_eq_true,if_false]at M;refine z2 hle @Bool.not_false ?_;refine qCK (rW.call (sO S R6 (lM 5 c) (k+1) om om rfl rfl) (R6.bn aj) (M.trans (congrFun (LM.bind_pure _).symm _)) ho (fun a s9 v n9 h9 au an ab ao a2 a5 R9 ag=>?_) fun e he n9 h9 a2 a5=>by(refine zz ?_);exact qC9<|eG.err he);refine zz ?_;exact qC9<|eG.ok (a:=()) ab trivial R9
 .have e0:bG w s.pos≠92:=fun h=>c0 (by rw[h];rfl);rw[if_neg e0]at a6;refine zz ?_;have a3:=R2.obj;have a4:=R2.tab;refine qCP [] [] kr ?_;have a8:(if ((w.length-s.pos:Nat):Int)<3 then ((w.length-s.pos:Nat):Int) else 3)=((min 3 (w.length-s.pos):Nat):Int):=by split<;>omega
  (repeat (first | (refine qCJ om ?_) | (simp -dsimp (disch:=first | assumption | omega) only [go_sem,Nat.reduceLT,Nat.reduceBEq,Nat.reduceAdd,Nat.reduceSub,Nat.reduceLeDiff,Nat.reduceEqDiff,↓reduceIte,beq_true,beq_false,decide_eq_true,decide_eq_false,a3,a4,Bt,mM,a8])))
  have ah:min 3 (w.length-s.pos)<=w.length-s.pos:=Nat.min_le_right _ _;have ak:ms=fV w (min 3 (w.length-s.pos)) s:=a6;generalize min 3 (w.length-s.pos)=k0 at *;refine qCu (fun m E nn hh=>∃(ov2 cv2:AV),E=[(0,.ref o 0),(5,.int .i64 m)]/\ms=fV w m s/\m<=w.length-s.pos/\n<=nn/\iC b hh o tb cm wm w ov2 cv2 s) k0 ⟨ov,cv,rfl,ak,ah,by omega,R2⟩ ?_
  .rintro k E nn hh hlk hBk ⟨ov2,cv2,rfl,hm,hkl,hnn,RL⟩;have O:=RL.obj;have a1:=RL.tab;have Y:=RL.can;cases k with
   |zero=>
    rw[fV.eq_1]at hm;have M:=hm.trans (LM.ok_bind (x:=LM.pos) (s:=s) rfl);refine z1 O ?_;refine qCK (pS S s.pos 20 fun n9 h9 a2 a5 ag=>?_);refine zz ?_;exact qC9<|eG.err M
   |succ k=>
    rw[fV.eq_2]at hm;have M:=hm.trans (LM.ok_bind (x:=LM.pos) (s:=s) rfl);have a9:(List.take (s.pos+(k+1)-s.pos) (List.drop s.pos w))=List.take (k+1) (List.drop s.pos w):=(by rw[Nat.add_sub_cancel_left]);refine zz ?_;refine qCP [] [] kr ?_;refine g2 O a9 ?_;generalize hsg:List.take (k+1) (List.drop s.pos w)=sg at *;have U:=qG sg;cases hc:mF sg with
    |none=>
     rw[hc]at U;simp only[hc]at M;refine u4 O a1 Y U ?_;refine aU.mq k ⟨ov2,cv2,rfl,M,by omega,by omega,RL⟩
    |some c=>
     rw[hc]at U;simp only[hc]at M;obtain⟨a7,ae⟩:=rZ hc;refine u4 O a1 Y U ?_;refine qCK ((oD S sg a7 om).use fun n6 h6 al aj ai=>?_);have R6:=RL.quiet hlk ai;cases hle:sg.any cW with
     |true=>
      simp only[hle,if_true]at M;refine z2 hle @Bool.not_true ?_;refine aU.mq k ⟨ov2,cv2,rfl,M,by omega,by omega,R6⟩
     |false=>
      simp only[hle,Bool.false_eq_true,if_false]at M;refine z2 hle @Bool.not_false ?_;refine qCK (rW.call (sO S R6 (lM 5 c) (k+1) om om rfl rfl) (R6.bn aj) (M.trans (congrFun (LM.bind_pure _).symm _)) ho (fun a s9 v n9 h9 au an ab ao a2 a5 R9 ag=>?_) fun e he n9 h9 a2 a5=>by(refine zz ?_);exact qC9<|eG.err he);refine zz ?_;exact qC9<|eG.ok (a:=()) ab trivial R9
def Pj (h:Hp)(K:Nat->Prop)(st:List eI)(stv:AV):Prop:=
 (stv=.sl0/\st=[])\/∃ b xs,stv=.sl b 0 st.length/\h.get b=some (.arr 6 xs)/\K b/\st.length<1000000000/\
  ∀ w r,st=w::r->∃ lw,xs[r.length]?=some (.agg [.str w.sign,.int .i64 w.op.lo,.int .i64 w.op.hi,.bool w.op.left,lw,.int .i64 w.at'])/\CV lw w.left.length
def wL (st:List eI):Bool:=match st with
 |w::_=>w.left.isEmpty&&decide (w.op.hi ≥ 15)
 |[]=>false
omit S in
theorem EO.shape {x:eD}{v:AV}(h:EO x v):∃ cs,v=.agg cs/\cs.length=10/\cs.all AV.one=true/\jG cs=true:=by
 cases h with
 |mk hd ho hl=>
  refine⟨_,rfl,rfl,?_,?_⟩
  .simp only[List.all_cons,List.all_nil,ho,hl.one,dW,dX,dH,Bool.and_true]
  .simp only[jG,hd,hl.flat];rfl
section
variable (Gl Gm Kp)
def qB {α:Type}(f:FuncId)(args:List AV)(o pm im:Nat)(lv:AV)(m:P α)(En:α->AV->Prop)(n:Nat)(h:Hp)(cv:AV)(s:PS):Prop:=
 m s≠.error lT->∀ Q:aS->Nat->Hp->Prop,(∀ a s',m s=.ok (a,s')->∀ v n' h' cv',En a v->jL n h o pm im lv cv s' n' h' cv'->Q (.returned v) n' h')->
  (∀ e,m s=.error e->∀ n' h',n<=n'->aE n' h'->(∀ t,t<n->¬Own o cv t->h'.get t=h.get t)->Q (.panicked (iY e)) n' h')->
  aG Tryz.prog Gl Gm Kp f args n h (Own o cv) Q
end
omit S in
theorem qB.fin {α:Type}{f:FuncId}{args:List AV}{o pm im:Nat}{lv:AV}{m:P α}{En:α->AV->Prop}{n:Nat}{h:Hp}{cv:AV}{s:PS}
  (w:aE n h->m s≠.error lT->aG Tryz.prog Gl Gm Kp f args n h (Own o cv) fun e _ h'=>Ends o pm im lv cv n En (m s) e h'):qB Gl Gm Kp f args o pm im lv m En n h cv s:=by
 intro ho Q h1 h2;refine⟨fun M=>?_⟩;refine((w M ho).mono (fun _ _ h=>h) fun e n' h' a b c d=>?_).ok M;unfold Ends at d;cases hr:m s with
 |ok q=>
  obtain⟨x,s'⟩:=q;rw[hr]at d;obtain⟨v,cv',rfl,O,U,Y⟩:=d;exact h1 x s' hr v n' h' cv' O ⟨a,b,U,c,Y⟩
 |error f=>rw[hr]at d;subst d;exact h2 f hr n' h' a b c
omit S in
theorem Jn (x:eD)(st:List eI)(s:PS):iB 0 x st s=.error lT:=by rw[iB.eq_1];rfl
omit S in
theorem Jm (f:Nat)(x:eD)(st:List eI):iB (f+1) x st=(do
  if <- P.is 0 [39] then
   if wL st then P.prec
   else
    P.step 1
    let n <- P.done (nd 22 [] [x.n]) x.fr
    iB f ⟨n,x.fr,n.en⟩ st
  else if <- P.take [46] then
   let t <- P.takeKind 1
   let n <- P.done (nd 39 t.s [x.n]) x.fr
   iB f ⟨n,x.fr,n.en⟩ st
  else if <- P.take [91] then
   let l <- P.listed f (cS f)
   P.need [93]
   let n <- P.done (nd 38 [] (x.n::l)) x.fr
   iB f ⟨n,x.fr,n.en⟩ st
  else P.pure x):=by
 cases st with
 |nil=>rw[iB.eq_3];rfl
 |cons w r=>rw[iB.eq_2];rfl
omit S in
theorem EV.arrc {h:Hp}{l:List Node}{xs:List AV}{a k:Nat}(e:EV l xs)(hx:h.get a=some (.arr 8 xs))(hk:k=l.length):OV h l (.sl a 0 k) (some a):=by
 subst hk;exact(Jr.arr hx e).elh
theorem Xj (hk:Kp 146=(true,false)){o pm im:Nat}{lv:AV}(f:Nat)(hf:f<1000000000)(Me:∀ k,k<=f->aL Gl Gm Kp 76 [.ref o 0] o pm im lv (cS k) EN)
  {n:Nat}{h:Hp}{cv:AV}{s:PS} (R:eB h o pm im lv cv s) {x:eD}{xv:AV} (ex:EO x xv) {st:List eI}{stv:AV} (hst:Pj h (fun t=>¬Own o cv t) st stv) :
  qB Gl Gm Kp 205 [.ref o 0,xv,stv] o pm im lv (iB f x st) EO n h cv s:=by
 refine qB.fin fun hl ho=>qB6 S 93 [.cell 6 146] Tryz.func205 fun hB _=>?_;have T0:=St.start R hl;have bp:=T0.on;obtain⟨cs,rfl,hc,ha,bl⟩:=ex.shape;refine z2 hc ha ?_;refine qCu (fun k E nn hh=>∃(y:eD) (ds:List AV) (s2:PS) (cv2:AV),E=[(0,.ref o 0),(2,stv),(4,.ref n 0),(6,.ref (n+1) 0)]/\iB f x st s=iB k y st s2/\EO y (.agg ds)/\k<=f/\n+2<=nn/\
   (aE nn hh->St n h o pm im lv cv [(n+1,.cells jX),(n,.cells ds)] s2 nn hh cv2)) f ⟨x,cs,s,cv,rfl,rfl,ex,Nat.le_refl _,by omega,fun _=>(T0.cell (.cells cs)).cell (.cells jX)⟩ ?_
 .rintro k E nn hh hlk hBk ⟨y,ds,s5,cv5,rfl,hm5,ey,hkf,hnn,T5f⟩;cases k with
  |zero=>exact absurd (hm5.trans (Jn _ _ _)) ho
  |succ k=>
   have T5:=T5f hlk;clear T5f;obtain⟨y0,fr,to⟩:=y;cases ey with
   |mk hd hone hl'=>
   rename_i k2 m2 t2 g2 d2 l2 a2 e2 lw2;have Y:=hl'.one;have b8:=hl'.flat;have bi:=T5.rep.len;rw[Jm]at hm5;refine zz ?_;refine qCK (qBx (sI S 0 dc [39]) T5 fun n6 h6 bd T6=>?_);have O:=hm5.trans (P.ok_bind (x:=P.is 0 [39]) rfl);cases hi:s5.isSign 0 [39] with
   |true=>
    rw[hi]at O;replace O:=nt O;cases hbad:wL st with
    |true=>
     rw[hbad]at O;replace O:=nt O;rcases hst with⟨rfl,rfl⟩ | ⟨b,xs,rfl,hgb,hKb,hsl,hwr⟩
     .cases hbad
     .cases st with
      |nil=>cases hbad
      |cons w r=>
       obtain⟨lw,ah,a5⟩:=hwr w r rfl;have a7:=(T6.post.keep b (aN hl hgb) hKb).trans hgb;simp only[wL,Bool.and_eq_true,decide_eq_true_eq,List.isEmpty_iff]at hbad;obtain⟨ak,an⟩:=hbad;simp only[List.length_cons]at hsl;have aa:r.length*6+1+1=r.length*6+2:=rfl;rw[ak]at a5;rcases a5 with⟨rfl,a5⟩ | ⟨ys,fl,rfl,a5⟩ | ⟨q,rfl⟩
       .refine x8 hi a7 ah a5 an T6.obj @Nat.add_sub_cancel aa ?_;exact qC9<|.err O
       .refine x8 hi a7 ah a5 an T6.obj @Nat.add_sub_cancel aa ?_;exact qC9<|.err O
       .refine x7 hi a7 ah an T6.obj @Nat.add_sub_cancel aa ?_;exact qC9<|.err O
    |false=>
     rw[hbad]at O;replace O:=nf O;rcases hst with⟨rfl,rfl⟩ | ⟨b,xs,rfl,hgb,hKb,hsl,hwr⟩
     .obtain⟨ab,a3⟩:=cJ (fun hc=>ho (O.trans hc));have a1:=O.trans (P.ok_bind a3);refine z7 hi hi T6.obj @aQ T6.g2 hone Y ?_;refine aA.st ((T6.pos ab).set2 (.cells [.int .i64 22,.int .i64 0,.str [],.bool false,.sl0,.vec [.agg [.int .i64 k2,.int .i64 m2,.str t2,.bool g2,d2,lw2,.int .i64 a2,.int .i64 e2]] 8 true,.int .i64 0,.int .i64 0,.int .i64 fr,.int .i64 to])) fun h7 T7=>?_;refine qBt (eV S (nd:=nd 22 [] [.mk k2 m2 t2 g2 d2 l2 a2 e2]) (.mk rfl rfl (.vec (.cons (.mk hd hone hl') .nil))) fr) T7 a1 ho ?_;intro a8 s8 v8 n8 h8 ae U a4 a6 T8 aj ai;cases a4 with
      |mk hd8 hone8 hl8=>
      rename_i k8 m8 t8 g8 d8 l8 a8 e8 lw8;have M:=hl8.one;refine z3 T8.g2 hone8 M ?_;refine qCR k [(0,.ref o 0),(2,_),(4,.ref n 0),(6,.ref (n+1) 0)] om sb ⟨⟨.mk k8 m8 t8 g8 d8 l8 a8 e8,fr,e8⟩,_,_,_,rfl,U,.mk hd8 hone8 hl8,by omega,by omega,fun ac=>(St.set2 (T8.set2 (.cells [.int .i64 k8,.int .i64 m8,.str t8,.bool g8,d8,lw8,.int .i64 a8,.int .i64 e8,.int .i64 fr,.int .i64 to])) _)⟩
     .have a7:=(T6.post.keep b (aN hl hgb) hKb).trans hgb;cases st with
      |nil=>
       obtain⟨ab,a3⟩:=cJ (fun hc=>ho (O.trans hc));have a1:=O.trans (P.ok_bind a3);refine x7 a7 hi T6.obj @aQ T6.g2 hone Y ?_;refine aA.st ((T6.pos ab).set2 (.cells [.int .i64 22,.int .i64 0,.str [],.bool false,.sl0,.vec [.agg [.int .i64 k2,.int .i64 m2,.str t2,.bool g2,d2,lw2,.int .i64 a2,.int .i64 e2]] 8 true,.int .i64 0,.int .i64 0,.int .i64 fr,.int .i64 to])) fun h7 T7=>?_;refine qBt (eV S (nd:=nd 22 [] [.mk k2 m2 t2 g2 d2 l2 a2 e2]) (.mk rfl rfl (.vec (.cons (.mk hd hone hl') .nil))) fr) T7 a1 ho ?_;intro a8 s8 v8 n8 h8 ae U a4 a6 T8 aj ai;cases a4 with
       |mk hd8 hone8 hl8=>
       rename_i k8 m8 t8 g8 d8 l8 a8 e8 lw8;have M:=hl8.one;refine z3 T8.g2 hone8 M ?_;refine qCR k [(0,.ref o 0),(2,_),(4,.ref n 0),(6,.ref (n+1) 0)] om sb ⟨⟨.mk k8 m8 t8 g8 d8 l8 a8 e8,fr,e8⟩,_,_,_,rfl,U,.mk hd8 hone8 hl8,by omega,by omega,fun ac=>(St.set2 (T8.set2 (.cells [.int .i64 k8,.int .i64 m8,.str t8,.bool g8,d8,lw8,.int .i64 a8,.int .i64 e8,.int .i64 fr,.int .i64 to])) _)⟩
      |cons w r=>
       obtain⟨lw,ah,a5⟩:=hwr w r rfl;simp only[List.length_cons]at hsl;have aa:r.length*6+1+1=r.length*6+2:=rfl;by_cases ak:w.left.length=0
       .have an:¬(15<=w.op.hi):=fun hc=>by
         have:w.left=[]:=List.length_eq_zero_iff.1 ak;simp[wL,this,hc]at hbad
        rw[ak]at a5;rcases a5 with⟨rfl,a5⟩ | ⟨ys,fl,rfl,a5⟩ | ⟨q,rfl⟩
        .obtain⟨ab,a3⟩:=cJ (fun hc=>ho (O.trans hc));have a1:=O.trans (P.ok_bind a3);refine TF a7 ah a5 @Nat.add_sub_cancel aa hi T6.obj @aQ T6.g2 hone Y ?_;refine aA.st ((T6.pos ab).set2 (.cells [.int .i64 22,.int .i64 0,.str [],.bool false,.sl0,.vec [.agg [.int .i64 k2,.int .i64 m2,.str t2,.bool g2,d2,lw2,.int .i64 a2,.int .i64 e2]] 8 true,.int .i64 0,.int .i64 0,.int .i64 fr,.int .i64 to])) fun h7 T7=>?_;refine qBt (eV S (nd:=nd 22 [] [.mk k2 m2 t2 g2 d2 l2 a2 e2]) (.mk rfl rfl (.vec (.cons (.mk hd hone hl') .nil))) fr) T7 a1 ho ?_;intro a8 s8 v8 n8 h8 ae U a4 a6 T8 aj ai;cases a4 with
         |mk hd8 hone8 hl8=>
         rename_i k8 m8 t8 g8 d8 l8 a8 e8 lw8;have M:=hl8.one;refine z3 T8.g2 hone8 M ?_;refine qCR k [(0,.ref o 0),(2,_),(4,.ref n 0),(6,.ref (n+1) 0)] om sb ⟨⟨.mk k8 m8 t8 g8 d8 l8 a8 e8,fr,e8⟩,_,_,_,rfl,U,.mk hd8 hone8 hl8,by omega,by omega,fun ac=>(St.set2 (T8.set2 (.cells [.int .i64 k8,.int .i64 m8,.str t8,.bool g8,d8,lw8,.int .i64 a8,.int .i64 e8,.int .i64 fr,.int .i64 to])) _)⟩
        .obtain⟨ab,a3⟩:=cJ (fun hc=>ho (O.trans hc));have a1:=O.trans (P.ok_bind a3);refine TF a7 ah a5 @Nat.add_sub_cancel aa hi T6.obj @aQ T6.g2 hone Y ?_;refine aA.st ((T6.pos ab).set2 (.cells [.int .i64 22,.int .i64 0,.str [],.bool false,.sl0,.vec [.agg [.int .i64 k2,.int .i64 m2,.str t2,.bool g2,d2,lw2,.int .i64 a2,.int .i64 e2]] 8 true,.int .i64 0,.int .i64 0,.int .i64 fr,.int .i64 to])) fun h7 T7=>?_;refine qBt (eV S (nd:=nd 22 [] [.mk k2 m2 t2 g2 d2 l2 a2 e2]) (.mk rfl rfl (.vec (.cons (.mk hd hone hl') .nil))) fr) T7 a1 ho ?_;intro a8 s8 v8 n8 h8 ae U a4 a6 T8 aj ai;cases a4 with
         |mk hd8 hone8 hl8=>
         rename_i k8 m8 t8 g8 d8 l8 a8 e8 lw8;have M:=hl8.one;refine z3 T8.g2 hone8 M ?_;refine qCR k [(0,.ref o 0),(2,_),(4,.ref n 0),(6,.ref (n+1) 0)] om sb ⟨⟨.mk k8 m8 t8 g8 d8 l8 a8 e8,fr,e8⟩,_,_,_,rfl,U,.mk hd8 hone8 hl8,by omega,by omega,fun ac=>(St.set2 (T8.set2 (.cells [.int .i64 k8,.int .i64 m8,.str t8,.bool g8,d8,lw8,.int .i64 a8,.int .i64 e8,.int .i64 fr,.int .i64 to])) _)⟩
        .obtain⟨ab,a3⟩:=cJ (fun hc=>ho (O.trans hc));have a1:=O.trans (P.ok_bind a3);refine OU a7 ah @Nat.add_sub_cancel aa hi T6.obj @aQ T6.g2 hone Y ?_;refine aA.st ((T6.pos ab).set2 (.cells [.int .i64 22,.int .i64 0,.str [],.bool false,.sl0,.vec [.agg [.int .i64 k2,.int .i64 m2,.str t2,.bool g2,d2,lw2,.int .i64 a2,.int .i64 e2]] 8 true,.int .i64 0,.int .i64 0,.int .i64 fr,.int .i64 to])) fun h7 T7=>?_;refine qBt (eV S (nd:=nd 22 [] [.mk k2 m2 t2 g2 d2 l2 a2 e2]) (.mk rfl rfl (.vec (.cons (.mk hd hone hl') .nil))) fr) T7 a1 ho ?_;intro a8 s8 v8 n8 h8 ae U a4 a6 T8 aj ai;cases a4 with
         |mk hd8 hone8 hl8=>
         rename_i k8 m8 t8 g8 d8 l8 a8 e8 lw8;have M:=hl8.one;refine z3 T8.g2 hone8 M ?_;refine qCR k [(0,.ref o 0),(2,_),(4,.ref n 0),(6,.ref (n+1) 0)] om sb ⟨⟨.mk k8 m8 t8 g8 d8 l8 a8 e8,fr,e8⟩,_,_,_,rfl,U,.mk hd8 hone8 hl8,by omega,by omega,fun ac=>(St.set2 (T8.set2 (.cells [.int .i64 k8,.int .i64 m8,.str t8,.bool g8,d8,lw8,.int .i64 a8,.int .i64 e8,.int .i64 fr,.int .i64 to])) _)⟩
       .have bk:(w.left.length:Int)≠0:=om;rcases a5 with⟨rfl,a5⟩ | ⟨ys,fl,rfl,a5⟩ | ⟨q,rfl⟩
        .exact absurd a5 ak
        .obtain⟨ab,a3⟩:=cJ (fun hc=>ho (O.trans hc));have a1:=O.trans (P.ok_bind a3);refine TF a7 ah a5 @Nat.add_sub_cancel aa hi T6.obj @aQ T6.g2 hone Y ?_;refine aA.st ((T6.pos ab).set2 (.cells [.int .i64 22,.int .i64 0,.str [],.bool false,.sl0,.vec [.agg [.int .i64 k2,.int .i64 m2,.str t2,.bool g2,d2,lw2,.int .i64 a2,.int .i64 e2]] 8 true,.int .i64 0,.int .i64 0,.int .i64 fr,.int .i64 to])) fun h7 T7=>?_;refine qBt (eV S (nd:=nd 22 [] [.mk k2 m2 t2 g2 d2 l2 a2 e2]) (.mk rfl rfl (.vec (.cons (.mk hd hone hl') .nil))) fr) T7 a1 ho ?_;intro a8 s8 v8 n8 h8 ae U a4 a6 T8 aj ai;cases a4 with
         |mk hd8 hone8 hl8=>
         rename_i k8 m8 t8 g8 d8 l8 a8 e8 lw8;have M:=hl8.one;refine z3 T8.g2 hone8 M ?_;refine qCR k [(0,.ref o 0),(2,_),(4,.ref n 0),(6,.ref (n+1) 0)] om sb ⟨⟨.mk k8 m8 t8 g8 d8 l8 a8 e8,fr,e8⟩,_,_,_,rfl,U,.mk hd8 hone8 hl8,by omega,by omega,fun ac=>(St.set2 (T8.set2 (.cells [.int .i64 k8,.int .i64 m8,.str t8,.bool g8,d8,lw8,.int .i64 a8,.int .i64 e8,.int .i64 fr,.int .i64 to])) _)⟩
        .obtain⟨ab,a3⟩:=cJ (fun hc=>ho (O.trans hc));have a1:=O.trans (P.ok_bind a3);refine OU a7 ah @Nat.add_sub_cancel aa hi T6.obj @aQ T6.g2 hone Y ?_;refine aA.st ((T6.pos ab).set2 (.cells [.int .i64 22,.int .i64 0,.str [],.bool false,.sl0,.vec [.agg [.int .i64 k2,.int .i64 m2,.str t2,.bool g2,d2,lw2,.int .i64 a2,.int .i64 e2]] 8 true,.int .i64 0,.int .i64 0,.int .i64 fr,.int .i64 to])) fun h7 T7=>?_;refine qBt (eV S (nd:=nd 22 [] [.mk k2 m2 t2 g2 d2 l2 a2 e2]) (.mk rfl rfl (.vec (.cons (.mk hd hone hl') .nil))) fr) T7 a1 ho ?_;intro a8 s8 v8 n8 h8 ae U a4 a6 T8 aj ai;cases a4 with
         |mk hd8 hone8 hl8=>
         rename_i k8 m8 t8 g8 d8 l8 a8 e8 lw8;have M:=hl8.one;refine z3 T8.g2 hone8 M ?_;refine qCR k [(0,.ref o 0),(2,_),(4,.ref n 0),(6,.ref (n+1) 0)] om sb ⟨⟨.mk k8 m8 t8 g8 d8 l8 a8 e8,fr,e8⟩,_,_,_,rfl,U,.mk hd8 hone8 hl8,by omega,by omega,fun ac=>(St.set2 (T8.set2 (.cells [.int .i64 k8,.int .i64 m8,.str t8,.bool g8,d8,lw8,.int .i64 a8,.int .i64 e8,.int .i64 fr,.int .i64 to])) _)⟩
   |false=>
    rw[hi]at O;replace O:=nf O;refine z1 hi ?_;refine qCK (St.take S T6 O ?_ ?_)
    .intro s7 n7 h7 b6 a1 b4 T7;replace a1:=nt a1;refine zz ?_;refine qCP [(1,4)] [ (1,3),(1,4),(1,5)] kr ?_;refine zz ?_;refine qCN (Own o _) T7.bound (qCo (iG S 1 dc) T7 a1 ho ?_ fun e he nE hE be bh b9=>by(refine fC (by(repeat (first | (refine qCJ om ?_) | (refine z1 T7.o2 ?_) | exact True.intro))) ?_);(repeat (refine fW rfl ?_));(repeat (first | (refine qCJ om ?_) | (refine z4 T7.o2 (T7.k2 b9) hone Y ?_) | exact True.intro));unfold gN;intro nx h' _ _ _;(refine zz ?_);exact qC9<|.err he);intro a9 s9 v9 n9 h9 b0 ar ag aw bg T9;have bm:=T9.le;have bj:=T9.rep.len;obtain⟨rfl,bc,M⟩:=ag;refine g7 T7.o2 @qBz @qB0 T9.g2 hone Y M ?_;refine qCT fun nx bq br=>?_;refine zz ?_;refine aA.stx (fun ac=>(T9.set2 (.cells [.int .i64 39,.int .i64 0,.str a9.s,.bool false,.sl0,.vec [.agg [.int .i64 k2,.int .i64 m2,.str t2,.bool g2,d2,lw2,.int .i64 a2,.int .i64 e2]] 8 true,.int .i64 0,.int .i64 0,.int .i64 fr,.int .i64 to])).nx om ac) fun b2 ad=>?_;refine qBt (eV S (nd:=nd 39 a9.s [.mk k2 m2 t2 g2 d2 l2 a2 e2]) (.mk rfl rfl (.vec (.cons (.mk hd hone hl') .nil))) fr) ad ar ho ?_;intro a8 s8 v8 n8 h8 ae U a4 a6 T8 aj ai;cases a4 with
     |mk hd8 hone8 hl8=>
     rename_i k8 m8 t8 g8 d8 l8 a8 e8 lw8;have M:=hl8.one;refine z3 T8.g2 hone8 M ?_;refine qCR k [(0,.ref o 0),(2,_),(4,.ref n 0),(6,.ref (n+1) 0)] om sb ⟨⟨.mk k8 m8 t8 g8 d8 l8 a8 e8,fr,e8⟩,_,_,_,rfl,U,.mk hd8 hone8 hl8,by omega,by omega,fun ac=>(St.set2 (T8.set2 (.cells [.int .i64 k8,.int .i64 m8,.str t8,.bool g8,d8,lw8,.int .i64 a8,.int .i64 e8,.int .i64 fr,.int .i64 to])) _)⟩
    .intro s7 n7 h7 b6 a1 b4 T7;replace a1:=nf a1;refine zz ?_;refine qCK (St.take S T7 a1 ?_ ?_)
     .intro s8 n8 h8 ae U a6 T8;replace U:=nt U;refine zz ?_;refine qCK (St.listed S hk (Z:=[]) (a:=[.ref o 0]) (c:=[]) ((Me k om).x []) (fun _=>rfl) k om T8 Holds.nil U ho ?_ ?_ fun e he n2 h2 _ _=>by(refine zz ?_);exact qC9<|.err he)
      .intro l s9 xs n9 h9 b0 ar ag aw au T9;refine zz ?_;refine qBt (bL S [93]) T9 ar ho ?_;intro u s10 Dg n10 b2 az ap b1 ax ad b5 b3;cases xs with
       |nil=>simp at au
       |cons z zs=>
       have ay:=ag.whole;have ao:=aM (1+(zs.length+1)) 104 (by simp at au;omega) om;refine x5 ad.g2 hone Y ay ao ?_;refine aA.st ((ad.cell (.arr 8 (AV.agg [.int .i64 k2,.int .i64 m2,.str t2,.bool g2,d2,lw2,.int .i64 a2,.int .i64 e2]::z::zs))).set3 (.cells [.int .i64 38,.int .i64 0,.str [],.bool false,.sl0,.sl n10 0 (1+(zs.length+1)),.int .i64 0,.int .i64 0,.int .i64 fr,.int .i64 to])) fun b7 al=>?_;refine qCK (qBu S (nd:=nd 38 [] (.mk k2 m2 t2 g2 d2 l2 a2 e2::l)) (fr:=fr) al (.mk rfl rfl (EV.arrc (.cons (.mk hd hone hl') ag) al.g1 (by have:=ag.length;simp at this ⊢;omega))) ap ho fun bb v' n8 h8 U a4 a6 T8=>?_);cases a4 with
       |mk hd8 hone8 hl8=>
       rename_i k8 m8 t8 g8 d8 l8 a8 e8 lw8;have M:=hl8.one;refine z3 T8.g2 hone8 M ?_;refine qCR k [(0,.ref o 0),(2,_),(4,.ref n 0),(6,.ref (n+1) 0)] om sb ⟨⟨.mk k8 m8 t8 g8 d8 l8 a8 e8,fr,e8⟩,_,_,_,rfl,U,.mk hd8 hone8 hl8,by omega,by omega,fun ac=>(St.set2 (T8.set2 (.cells [.int .i64 k8,.int .i64 m8,.str t8,.bool g8,d8,lw8,.int .i64 a8,.int .i64 e8,.int .i64 fr,.int .i64 to])) _)⟩
      .intro l s9 xs b n9 h9 b0 ar ag aw au hb T9;refine zz ?_;refine qBt (bL S [93]) T9 ar ho ?_;intro u s10 Dg n10 b2 az ap b1 ax ad b5 b3;have ak:b<n10/\n<=b:=ad.l1;have an:n+1<b/\n<=n+1:=ad.l2;cases xs with
       |nil=>simp at hb
       |cons z zs=>
       have ay:=ag.whole;have ao:=aM (1+(zs.length+1)) 104 (by simp at au;omega) om;have ba:List.take (zs.length+1) (z::zs)=z::zs:=List.take_of_length_le sm;refine x7 ad.g3 ad.g1 hone Y ay ao ba ?_;refine aA.st (((ad.cell (.arr 8 (AV.agg [.int .i64 k2,.int .i64 m2,.str t2,.bool g2,d2,lw2,.int .i64 a2,.int .i64 e2]::z::zs))).set4 (.cells [.int .i64 38,.int .i64 0,.str [],.bool false,.sl0,.sl n10 0 (1+(zs.length+1)),.int .i64 0,.int .i64 0,.int .i64 fr,.int .i64 to])).drop2) fun b7 al=>?_;refine qCK (qBu S (nd:=nd 38 [] (.mk k2 m2 t2 g2 d2 l2 a2 e2::l)) (fr:=fr) al (.mk rfl rfl (EV.arrc (.cons (.mk hd hone hl') ag) al.g1 (by have:=ag.length;simp at this ⊢;omega))) ap ho fun bb v' n8 h8 U a4 a6 T8=>?_);cases a4 with
       |mk hd8 hone8 hl8=>
       rename_i k8 m8 t8 g8 d8 l8 a8 e8 lw8;have M:=hl8.one;refine z3 T8.g2 hone8 M ?_;refine qCR k [(0,.ref o 0),(2,_),(4,.ref n 0),(6,.ref (n+1) 0)] om sb ⟨⟨.mk k8 m8 t8 g8 d8 l8 a8 e8,fr,e8⟩,_,_,_,rfl,U,.mk hd8 hone8 hl8,by omega,by omega,fun ac=>(St.set2 (T8.set2 (.cells [.int .i64 k8,.int .i64 m8,.str t8,.bool g8,d8,lw8,.int .i64 a8,.int .i64 e8,.int .i64 fr,.int .i64 to])) _)⟩
     .intro s8 n8 h8 ae U a6 T8;replace U:=nf U;refine z7 T8.g1 T8.g2 @qCH hone Y hd b8 ?_;exact qC9<|(T8.set1 _).ends (U) (.mk hd hone hl')
inductive zZ:List eD->List AV->Prop
 |nil:zZ [] []
 |cons {x:eD}{v:AV}{l:List eD}{vs:List AV} (h:EO x v) (t:zZ l vs):zZ (x::l) (v::vs)
omit S in
theorem zZ.length:∀{l:List eD}{xs:List AV},zZ l xs->xs.length=l.length
 |_,_,.nil=>rfl
 |_,_,.cons _ t=>by simp[t.length]
omit S in
theorem zZ.append:∀{l m:List eD}{xs ys:List AV},zZ l xs->zZ m ys->zZ (l++m) (xs++ys)
 |_,_,_,_,.nil,h=>h
 |_,_,_,_,.cons a t,h=>.cons a (t.append h)
omit S in
theorem zZ.get:∀{l:List eD}{xs:List AV} (_:zZ l xs) (i:Nat) (hi:i<l.length),∃ v,xs[i]?=some v/\EO l[i] v
 |_,_,.cons h t,0,_=>⟨_,rfl,h⟩
 |_,_,.cons h t,i+1,hi=>by
  obtain⟨v,h1,h2⟩:=t.get i (by simpa using hi);exact⟨v,by simpa using h1,by simpa using h2⟩
inductive LR (h:Hp) (K:Nat->Prop):List eD->AV->Prop
 |nil:LR h K [] .sl0
 |vec {l:List eD}{xs:List AV} (e:zZ l xs) (hne:l≠[]):LR h K l (.vec xs 10 true)
 |arr {l:List eD}{a:Nat}{xs:List AV} (hx:h.get a=some (.arr 10 xs)) (hk:K a) (e:zZ l xs) (hne:l≠[]):LR h K l (.sl a 0 l.length)
omit S in
theorem LR.len {h:Hp}{K:Nat->Prop}{l:List eD}{v:AV}(e:LR h K l v):CV v l.length:=by
 cases e with
 |nil=>exact .inl ⟨rfl,rfl⟩
 |vec e _=>exact .inr (.inl ⟨_,_,rfl,e.length⟩)
 |arr _ _ e _=>exact .inr (.inr ⟨_,rfl⟩)
omit S in
theorem LR.one {h:Hp}{K:Nat->Prop}{l:List eD}{v:AV}(e:LR h K l v):AV.one v=true:=by cases e<;>rfl
omit S in
theorem zZ.map:∀{l:List eD}{xs:List AV},zZ l xs->True:=fun _=>trivial
omit S in
theorem zT (k:Nat):inside (0:Int) (k+1)=some 0:=Bj 0 (k+1) (Nat.succ_pos k)
omit S in
theorem zW (cs vs:List AV):dM dC 10 (.agg cs::vs) 8=dC cs 8:=rfl
omit S in
theorem _root_.Go.Ez.Lo.s2 {n n1:Nat}{h h1:Hp}{a:Nat}{x:aK}{Y:List (Nat×aK)}(T:Lo n h ((a,x)::Y) n1 h1)(y z:aK):Lo n h ((a,z)::Y) n1 ((h1.put a y).put a z):=(T.set1 y).set1 z
omit S in
theorem _root_.Go.Ez.Lo.s3 {n n1:Nat}{h h1:Hp}{a:Nat}{x:aK}{Y:List (Nat×aK)}(T:Lo n h ((a,x)::Y) n1 h1)(y z u:aK):Lo n h ((a,u)::Y) n1 (((h1.put a y).put a z).put a u):=((T.set1 y).set1 z).set1 u
theorem oM {w:eI}{x:eD}{lw xv:AV}{n:Nat}{h:Hp}{K:Nat->Prop}(hv:LR h K w.left lw)(hx:EO x xv)(hlen:w.left.length<1000000000){Q:aS->Nat->Hp->Prop}
  (hQ:∀ v n' h',EO (w.applied x) v->n<=n'->aE n' h'->(∀ t,t<n->h'.get t=h.get t)->Q (.returned v) n' h') :
  aG Tryz.prog Gl Gm Kp 208 [.agg [.str w.sign,.int .i64 w.op.lo,.int .i64 w.op.hi,.bool w.op.left,lw,.int .i64 w.at'],xv] n h (fun _=>False) Q:=by
 refine aG.mono (B:=fun _=>False) (Q:=fun e _ _=>∃ v,e=.returned v/\EO (w.applied x) v) ?_ (fun _ _ h=>h) (fun e n' h' a b c d=>by obtain⟨v,rfl,d⟩:=d;exact hQ v n' h' d a b (fun t ht=>c t ht id));refine qB6 S 61 [.cell 4 146] Tryz.func208 fun hB hl=>?_;have T0:=Lo.start hl;obtain⟨sg,q,left,a8⟩:=w;simp only at hv hlen ⊢;have h1:=hv.one;cases hx with
 |mk hd hone hl'=>
 rename_i k2 m2 t2 g2 d2 l2 a2 e2 fr to lw2;have O:=hl'.one;have ao:=hl'.flat;cases hX:sg==[92,88] with
 |false=>
  have ak:¬sg=[92,88]:=(by simpa using hX);cases hv with
  |nil=>
   have aa:eI.applied ⟨sg,q,[],a8⟩ ⟨.mk k2 m2 t2 g2 d2 l2 a2 e2,fr,to⟩=⟨.mk 20 0 sg false .sl0 (List.map eD.n []++[.mk k2 m2 t2 g2 d2 l2 a2 e2]) a8 to,a8,to⟩:=by
    unfold eI.applied;simp only[ak,if_false]
    rfl
   refine z8 h1 @dW @dX @dH hone O @aB hX ?_;refine qCQ (E0:=[(3,.ref (n+1) 0),(4,.ref (n+2) 0),(5,.ref (n+3) 0),(6,.int .i64 a8),(30,.sl0),(31,.int .i64 ([]:List eD).length),(32,.int .i64 (0:Nat))]) (fun k E nn hh=>∃(L:LS) (i:Nat),E=[(3,.ref (n+1) 0),(4,.ref (n+2) 0),(5,.ref (n+3) 0),(6,.int .i64 a8),(30,.sl0),(31,.int .i64 ([]:List eD).length),(32,.int .i64 i)]/\i+k=([]:List eD).length/\EV ((([]:List eD).take i).map eD.n) L.xs/\(L=.nil\/∃ b xs,L=.arr b xs xs.length)/\n+4<=nn/\
    (aE nn hh->Lo n h (L.objs++[(n+3,.cells (bC 20 0 sg L.val)),(n+2,.cells jX),(n+1,.cells [.int .i64 k2,.int .i64 m2,.str t2,.bool g2,d2,lw2,.int .i64 a2,.int .i64 e2,.int .i64 fr,.int .i64 to])]) nn hh)) ([]:List eD).length ?_ ?_ ?_
   .exact sb
   .exact⟨.nil,0,rfl,by omega,.nil,.inl rfl,by omega,fun _=>(((((T0.cell (.cells [.str sg,.int .i64 q.lo,.int .i64 q.hi,.bool q.left,.sl0,.int .i64 a8])).cell (.cells [.int .i64 k2,.int .i64 m2,.str t2,.bool g2,d2,lw2,.int .i64 a2,.int .i64 e2,.int .i64 fr,.int .i64 to])).cell (.cells jX)).newc _ (.cells (bC 20 0 sg .sl0)))).sub (.cons_cons _ (.cons_cons _ (.cons_cons _ (.cons _ .slnil))))⟩
   .rintro k E nn hh hlk hBk ⟨L,i,rfl,hik,ev5,hL,hnn,T5f⟩;have M:=T5f hlk;clear T5f;by_cases a9:i<([]:List eD).length
    .exact absurd a9 sm
    .have hi:i=([]:List eD).length:=om;subst hi;rw[List.take_length]at ev5;have Y:=ev5.length;rw[List.length_map]at Y;have a5:=Y
     try simp only[List.length_cons]at a5
     rcases hL with rfl | ⟨b,xs,rfl⟩
     .simp only[LS.objs,LS.val,LS.xs,List.nil_append]at M ev5 Y;have U:=aM 1 104 dc dc;have ee:EV (List.map eD.n []++[Node.mk k2 m2 t2 g2 d2 l2 a2 e2]) (List.take (0+1) (List.drop 0 (([]:List AV)++[AV.agg [.int .i64 k2,.int .i64 m2,.str t2,.bool g2,d2,lw2,.int .i64 a2,.int .i64 e2]]))):=(by rw[List.drop_zero,List.take_of_length_le sm];exact ev5.append (.cons (.mk hd hone hl') .nil));refine z9 M.g1 M.g2 M.g3 @qCE @qCH hone O @aB U ?_;refine qCP [(2,4)] [] kr ?_;refine g8 M.g1 M.g2 M.g3 @qCE @qCH hone O @dG ?_;have a3:=(ev5.append (.cons (EN.mk hd hone hl' (k:=k2) (n:=m2) (s:=t2) (g:=g2) (a:=a2) (e:=e2)) .nil)).frozen;refine qCJ (by first | exact fun y hy=>a3 y hy | exact⟨by simp,fun y hy=>a3 y (List.mem_of_mem_take hy)⟩) ?_;refine zz ?_;exact qC9<|⟨_,rfl,by rw[aa];exact .mk rfl rfl (.vec ee)⟩
     .simp only[LS.objs,LS.val,LS.xs,List.cons_append,List.nil_append]at M ev5 Y a5;have ai:b<nn/\n<=b:=M.l1;have aj:n+3<b/\n<=n+3:=M.l2;have U:=aM (xs.length+1) 104 om om;have ee:EV (List.map eD.n []++[Node.mk k2 m2 t2 g2 d2 l2 a2 e2]) (List.take (xs.length+1) (List.drop 0 (xs++[AV.agg [.int .i64 k2,.int .i64 m2,.str t2,.bool g2,d2,lw2,.int .i64 a2,.int .i64 e2]]))):=(by rw[List.drop_zero,List.take_of_length_le sm];exact ev5.append (.cons (.mk hd hone hl') .nil));refine Pe M.g1 M.g2 M.g3 M.g4 @qCE @qCH hone O @aB U ?_;refine qCP [(2,4)] [] kr ?_;refine g9 M.g1 M.g2 M.g3 M.g4 @qCE @qCH hone O @dG ?_;have a3:=(ev5.append (.cons (EN.mk hd hone hl' (k:=k2) (n:=m2) (s:=t2) (g:=g2) (a:=a2) (e:=e2)) .nil)).frozen;refine qCJ (by first | exact fun y hy=>a3 y hy | exact⟨by simp,fun y hy=>a3 y (List.mem_of_mem_take hy)⟩) ?_;refine zz ?_;exact qC9<|⟨_,rfl,by rw[aa];exact .mk rfl rfl (.vec ee)⟩
  |vec e hne=>
   cases e with
   |nil=>exact absurd rfl hne
   |cons hy ht=>
   rename_i x0 v00 left' vs0;cases hy with
   |mk hd1 hone1 hl1=>
   rename_i k1 m1 t1 g1 d1 l1 a1 e1 fr1 to1 lw1;have e:=zZ.cons (EO.mk (k:=k1) (n:=m1) (s:=t1) (g:=g1) (l:=l1) (a:=a1) (e:=e1) (fr:=fr1) (to:=to1) hd1 hone1 hl1) ht;have a7:=ht.length;have aa:eI.applied ⟨sg,q,⟨.mk k1 m1 t1 g1 d1 l1 a1 e1,fr1,to1⟩::left',a8⟩ ⟨.mk k2 m2 t2 g2 d2 l2 a2 e2,fr,to⟩=⟨.mk 21 0 sg false .sl0 (List.map eD.n (⟨.mk k1 m1 t1 g1 d1 l1 a1 e1,fr1,to1⟩::left')++[.mk k2 m2 t2 g2 d2 l2 a2 e2]) fr1 to,fr1,to⟩:=by
    unfold eI.applied;simp only[ak,if_false]
    rfl
   simp only[List.length_cons]at hlen;refine x9 h1 @dW @dX @dH hone O @aB hX a7 ?_;refine qCP [(1,6),(2,6),(4,6)] [] kr ?_;refine u5 a7 @dG @zT @zW hX ?_;refine qCQ (E0:=[(3,.ref (n+1) 0),(4,.ref (n+2) 0),(5,.ref (n+3) 0),(6,.int .i64 fr1),(30,(.vec (.agg [.int .i64 k1,.int .i64 m1,.str t1,.bool g1,d1,lw1,.int .i64 a1,.int .i64 e1,.int .i64 fr1,.int .i64 to1]::vs0) 10 true)),(31,.int .i64 ((⟨.mk k1 m1 t1 g1 d1 l1 a1 e1,fr1,to1⟩::left'):List eD).length),(32,.int .i64 (0:Nat))]) (fun k E nn hh=>∃(L:LS) (i:Nat),E=[(3,.ref (n+1) 0),(4,.ref (n+2) 0),(5,.ref (n+3) 0),(6,.int .i64 fr1),(30,(.vec (.agg [.int .i64 k1,.int .i64 m1,.str t1,.bool g1,d1,lw1,.int .i64 a1,.int .i64 e1,.int .i64 fr1,.int .i64 to1]::vs0) 10 true)),(31,.int .i64 ((⟨.mk k1 m1 t1 g1 d1 l1 a1 e1,fr1,to1⟩::left'):List eD).length),(32,.int .i64 i)]/\i+k=((⟨.mk k1 m1 t1 g1 d1 l1 a1 e1,fr1,to1⟩::left'):List eD).length/\EV ((((⟨.mk k1 m1 t1 g1 d1 l1 a1 e1,fr1,to1⟩::left'):List eD).take i).map eD.n) L.xs/\(L=.nil\/∃ b xs,L=.arr b xs xs.length)/\n+4<=nn/\
    (aE nn hh->Lo n h (L.objs++[(n+3,.cells (bC 21 0 sg L.val)),(n+2,.cells jX),(n+1,.cells [.int .i64 k2,.int .i64 m2,.str t2,.bool g2,d2,lw2,.int .i64 a2,.int .i64 e2,.int .i64 fr,.int .i64 to])]) nn hh)) ((⟨.mk k1 m1 t1 g1 d1 l1 a1 e1,fr1,to1⟩::left'):List eD).length ?_ ?_ ?_
   .exact sb
   .exact⟨.nil,0,rfl,by omega,.nil,.inl rfl,by omega,fun _=>(((((T0.cell (.cells [.str sg,.int .i64 q.lo,.int .i64 q.hi,.bool q.left,(.vec (.agg [.int .i64 k1,.int .i64 m1,.str t1,.bool g1,d1,lw1,.int .i64 a1,.int .i64 e1,.int .i64 fr1,.int .i64 to1]::vs0) 10 true),.int .i64 a8])).cell (.cells [.int .i64 k2,.int .i64 m2,.str t2,.bool g2,d2,lw2,.int .i64 a2,.int .i64 e2,.int .i64 fr,.int .i64 to])).cell (.cells jX)).newc _ (.cells (bC 20 0 sg .sl0))).set1 (.cells (bC 21 0 sg .sl0))).sub (.cons_cons _ (.cons_cons _ (.cons_cons _ (.cons _ .slnil))))⟩
   .rintro k E nn hh hlk hBk ⟨L,i,rfl,hik,ev5,hL,hnn,T5f⟩;have M:=T5f hlk;clear T5f;by_cases a9:i<((⟨.mk k1 m1 t1 g1 d1 l1 a1 e1,fr1,to1⟩::left'):List eD).length
    .obtain⟨v,ab,ae⟩:=e.get i a9;have ad:(((⟨.mk k1 m1 t1 g1 d1 l1 a1 e1,fr1,to1⟩::left'):List eD).take (i+1)).map eD.n=(((⟨.mk k1 m1 t1 g1 d1 l1 a1 e1,fr1,to1⟩::left'):List eD).take i).map eD.n++[((⟨.mk k1 m1 t1 g1 d1 l1 a1 e1,fr1,to1⟩::left'):List eD)[i].n]:=(by rw[List.take_succ_eq_append_getElem a9,List.map_append];rfl);generalize ((⟨.mk k1 m1 t1 g1 d1 l1 a1 e1,fr1,to1⟩::left'):List eD)[i]=yi at ae ad;have Y:=ev5.length;rw[List.length_map,List.length_take]at Y;cases ae with
     |mk hd4 hone4 hl4=>
     rename_i k4 m4 t4 g4 d4 l4 a4 e4 fr4 to4 lw4;have a6:=hl4.one;have ag:=hik;have ah:=a9
     try simp only[List.length_cons]at ag ah Y
     rcases hL with rfl | ⟨b,xs,rfl⟩
     .simp only[LS.objs,LS.val,LS.xs,List.nil_append]at M ev5 Y;have U:=aM 1 104 dc dc;refine x9 a7 ab M.g1 @qCE @qCH hone4 a6 @aB U ?_;refine aU.mq (k-1) ⟨.arr (nn+1) [AV.agg [.int .i64 k4,.int .i64 m4,.str t4,.bool g4,d4,lw4,.int .i64 a4,.int .i64 e4]] 1,i+1,rfl,by omega,by rw[ad];exact ev5.append (.cons (.mk hd4 hone4 hl4) .nil),.inr ⟨_,_,rfl⟩,by omega,fun ac=>(((((M.newc _ (.cells [.int .i64 k4,.int .i64 m4,.str t4,.bool g4,d4,lw4,.int .i64 a4,.int .i64 e4,.int .i64 fr4,.int .i64 to4])).cell (.arr 8 [AV.agg [.int .i64 k4,.int .i64 m4,.str t4,.bool g4,d4,lw4,.int .i64 a4,.int .i64 e4]])).set3 (.cells (bC 21 0 sg (.sl (nn+1) 0 1)))).drop2).nx om ac)⟩
     .simp only[LS.objs,LS.val,LS.xs,List.cons_append,List.nil_append]at M ev5 Y;have ai:b<nn/\n<=b:=M.l1;have aj:n+3<b/\n<=n+3:=M.l2;have U:=aM (xs.length+1) 104 om om;refine OU a7 ab M.g1 M.g2 @qCE @qCH hone4 a6 @aB U ?_;refine aU.mq (k-1) ⟨.arr (nn+1) (xs++[AV.agg [.int .i64 k4,.int .i64 m4,.str t4,.bool g4,d4,lw4,.int .i64 a4,.int .i64 e4]]) (xs.length+1),i+1,rfl,by omega,by rw[ad];exact ev5.append (.cons (.mk hd4 hone4 hl4) .nil),.inr ⟨nn+1,xs++[AV.agg [.int .i64 k4,.int .i64 m4,.str t4,.bool g4,d4,lw4,.int .i64 a4,.int .i64 e4]],by simp⟩,by omega,fun ac=>(((((M.newc _ (.cells [.int .i64 k4,.int .i64 m4,.str t4,.bool g4,d4,lw4,.int .i64 a4,.int .i64 e4,.int .i64 fr4,.int .i64 to4])).del2.cell (.arr 8 (xs++[AV.agg [.int .i64 k4,.int .i64 m4,.str t4,.bool g4,d4,lw4,.int .i64 a4,.int .i64 e4]]))).set3 (.cells (bC 21 0 sg (.sl (nn+1) 0 (xs.length+1))))).drop2).nx om ac)⟩
    .have hi:i=((⟨.mk k1 m1 t1 g1 d1 l1 a1 e1,fr1,to1⟩::left'):List eD).length:=om;subst hi;rw[List.take_length]at ev5;have Y:=ev5.length;rw[List.length_map]at Y;have a5:=Y
     try simp only[List.length_cons]at a5
     rcases hL with rfl | ⟨b,xs,rfl⟩
     .simp only[LS.objs,LS.val,LS.xs,List.nil_append]at M ev5 Y;have U:=aM 1 104 dc dc;have ee:EV (List.map eD.n (⟨.mk k1 m1 t1 g1 d1 l1 a1 e1,fr1,to1⟩::left')++[Node.mk k2 m2 t2 g2 d2 l2 a2 e2]) (List.take (0+1) (List.drop 0 (([]:List AV)++[AV.agg [.int .i64 k2,.int .i64 m2,.str t2,.bool g2,d2,lw2,.int .i64 a2,.int .i64 e2]]))):=(by rw[List.drop_zero,List.take_of_length_le sm];exact ev5.append (.cons (.mk hd hone hl') .nil));refine z9 M.g1 M.g2 M.g3 @qCE @qCH hone O @aB U ?_;refine qCP [(2,4)] [] kr ?_;refine g8 M.g1 M.g2 M.g3 @qCE @qCH hone O @dG ?_;have a3:=(ev5.append (.cons (EN.mk hd hone hl' (k:=k2) (n:=m2) (s:=t2) (g:=g2) (a:=a2) (e:=e2)) .nil)).frozen;refine qCJ (by first | exact fun y hy=>a3 y hy | exact⟨by simp,fun y hy=>a3 y (List.mem_of_mem_take hy)⟩) ?_;refine zz ?_;exact qC9<|⟨_,rfl,by rw[aa];exact .mk rfl rfl (.vec ee)⟩
     .simp only[LS.objs,LS.val,LS.xs,List.cons_append,List.nil_append]at M ev5 Y a5;have ai:b<nn/\n<=b:=M.l1;have aj:n+3<b/\n<=n+3:=M.l2;have U:=aM (xs.length+1) 104 om om;have ee:EV (List.map eD.n (⟨.mk k1 m1 t1 g1 d1 l1 a1 e1,fr1,to1⟩::left')++[Node.mk k2 m2 t2 g2 d2 l2 a2 e2]) (List.take (xs.length+1) (List.drop 0 (xs++[AV.agg [.int .i64 k2,.int .i64 m2,.str t2,.bool g2,d2,lw2,.int .i64 a2,.int .i64 e2]]))):=(by rw[List.drop_zero,List.take_of_length_le sm];exact ev5.append (.cons (.mk hd hone hl') .nil));refine Pe M.g1 M.g2 M.g3 M.g4 @qCE @qCH hone O @aB U ?_;refine qCP [(2,4)] [] kr ?_;refine g9 M.g1 M.g2 M.g3 M.g4 @qCE @qCH hone O @dG ?_;have a3:=(ev5.append (.cons (EN.mk hd hone hl' (k:=k2) (n:=m2) (s:=t2) (g:=g2) (a:=a2) (e:=e2)) .nil)).frozen;refine qCJ (by first | exact fun y hy=>a3 y hy | exact⟨by simp,fun y hy=>a3 y (List.mem_of_mem_take hy)⟩) ?_;refine zz ?_;exact qC9<|⟨_,rfl,by rw[aa];exact .mk rfl rfl (.vec ee)⟩
  |arr ha hk e hne=>
   rename_i a0 xs00;have an:=tH hl ha;cases e with
   |nil=>exact absurd rfl hne
   |cons hy ht=>
   rename_i x0 v00 left' vs0;cases hy with
   |mk hd1 hone1 hl1=>
   rename_i k1 m1 t1 g1 d1 l1 a1 e1 fr1 to1 lw1;have e:=zZ.cons (EO.mk (k:=k1) (n:=m1) (s:=t1) (g:=g1) (l:=l1) (a:=a1) (e:=e1) (fr:=fr1) (to:=to1) hd1 hone1 hl1) ht;have a7:=ht.length;have aa:eI.applied ⟨sg,q,⟨.mk k1 m1 t1 g1 d1 l1 a1 e1,fr1,to1⟩::left',a8⟩ ⟨.mk k2 m2 t2 g2 d2 l2 a2 e2,fr,to⟩=⟨.mk 21 0 sg false .sl0 (List.map eD.n (⟨.mk k1 m1 t1 g1 d1 l1 a1 e1,fr1,to1⟩::left')++[.mk k2 m2 t2 g2 d2 l2 a2 e2]) fr1 to,fr1,to⟩:=by
    unfold eI.applied;simp only[ak,if_false]
    rfl
   simp only[List.length_cons]at hlen;refine OU h1 @dW @dX @dH hone O @aB hX a7 ha ?_;refine qCP [(1,6),(2,6),(4,6)] [] kr ?_;refine u6 a7 @dG @zT @zW hX ha ?_;refine qCQ (E0:=[(3,.ref (n+1) 0),(4,.ref (n+2) 0),(5,.ref (n+3) 0),(6,.int .i64 fr1),(30,(.sl a0 0 (⟨.mk k1 m1 t1 g1 d1 l1 a1 e1,fr1,to1⟩::left').length)),(31,.int .i64 ((⟨.mk k1 m1 t1 g1 d1 l1 a1 e1,fr1,to1⟩::left'):List eD).length),(32,.int .i64 (0:Nat))]) (fun k E nn hh=>∃(L:LS) (i:Nat),E=[(3,.ref (n+1) 0),(4,.ref (n+2) 0),(5,.ref (n+3) 0),(6,.int .i64 fr1),(30,(.sl a0 0 (⟨.mk k1 m1 t1 g1 d1 l1 a1 e1,fr1,to1⟩::left').length)),(31,.int .i64 ((⟨.mk k1 m1 t1 g1 d1 l1 a1 e1,fr1,to1⟩::left'):List eD).length),(32,.int .i64 i)]/\i+k=((⟨.mk k1 m1 t1 g1 d1 l1 a1 e1,fr1,to1⟩::left'):List eD).length/\EV ((((⟨.mk k1 m1 t1 g1 d1 l1 a1 e1,fr1,to1⟩::left'):List eD).take i).map eD.n) L.xs/\(L=.nil\/∃ b xs,L=.arr b xs xs.length)/\n+4<=nn/\
    (aE nn hh->Lo n h (L.objs++[(n+3,.cells (bC 21 0 sg L.val)),(n+2,.cells jX),(n+1,.cells [.int .i64 k2,.int .i64 m2,.str t2,.bool g2,d2,lw2,.int .i64 a2,.int .i64 e2,.int .i64 fr,.int .i64 to])]) nn hh)) ((⟨.mk k1 m1 t1 g1 d1 l1 a1 e1,fr1,to1⟩::left'):List eD).length ?_ ?_ ?_
   .exact sb
   .exact⟨.nil,0,rfl,by omega,.nil,.inl rfl,by omega,fun _=>(((((T0.cell (.cells [.str sg,.int .i64 q.lo,.int .i64 q.hi,.bool q.left,(.sl a0 0 (⟨.mk k1 m1 t1 g1 d1 l1 a1 e1,fr1,to1⟩::left').length),.int .i64 a8])).cell (.cells [.int .i64 k2,.int .i64 m2,.str t2,.bool g2,d2,lw2,.int .i64 a2,.int .i64 e2,.int .i64 fr,.int .i64 to])).cell (.cells jX)).newc _ (.cells (bC 20 0 sg .sl0))).set1 (.cells (bC 21 0 sg .sl0))).sub (.cons_cons _ (.cons_cons _ (.cons_cons _ (.cons _ .slnil))))⟩
   .rintro k E nn hh hlk hBk ⟨L,i,rfl,hik,ev5,hL,hnn,T5f⟩;have M:=T5f hlk;clear T5f;by_cases a9:i<((⟨.mk k1 m1 t1 g1 d1 l1 a1 e1,fr1,to1⟩::left'):List eD).length
    .obtain⟨v,ab,ae⟩:=e.get i a9;have ad:(((⟨.mk k1 m1 t1 g1 d1 l1 a1 e1,fr1,to1⟩::left'):List eD).take (i+1)).map eD.n=(((⟨.mk k1 m1 t1 g1 d1 l1 a1 e1,fr1,to1⟩::left'):List eD).take i).map eD.n++[((⟨.mk k1 m1 t1 g1 d1 l1 a1 e1,fr1,to1⟩::left'):List eD)[i].n]:=(by rw[List.take_succ_eq_append_getElem a9,List.map_append];rfl);generalize ((⟨.mk k1 m1 t1 g1 d1 l1 a1 e1,fr1,to1⟩::left'):List eD)[i]=yi at ae ad;have Y:=ev5.length;rw[List.length_map,List.length_take]at Y;cases ae with
     |mk hd4 hone4 hl4=>
     rename_i k4 m4 t4 g4 d4 l4 a4 e4 fr4 to4 lw4;have a6:=hl4.one;have ag:=hik;have ah:=a9
     try simp only[List.length_cons]at ag ah Y
     rcases hL with rfl | ⟨b,xs,rfl⟩
     .simp only[LS.objs,LS.val,LS.xs,List.nil_append]at M ev5 Y;have U:=aM 1 104 dc dc;refine x9 (M.old hl ha) ab M.g1 @qCE @qCH hone4 a6 @aB U ?_;refine aU.mq (k-1) ⟨.arr (nn+1) [AV.agg [.int .i64 k4,.int .i64 m4,.str t4,.bool g4,d4,lw4,.int .i64 a4,.int .i64 e4]] 1,i+1,rfl,by omega,by rw[ad];exact ev5.append (.cons (.mk hd4 hone4 hl4) .nil),.inr ⟨_,_,rfl⟩,by omega,fun ac=>(((((M.newc _ (.cells [.int .i64 k4,.int .i64 m4,.str t4,.bool g4,d4,lw4,.int .i64 a4,.int .i64 e4,.int .i64 fr4,.int .i64 to4])).cell (.arr 8 [AV.agg [.int .i64 k4,.int .i64 m4,.str t4,.bool g4,d4,lw4,.int .i64 a4,.int .i64 e4]])).set3 (.cells (bC 21 0 sg (.sl (nn+1) 0 1)))).drop2).nx om ac)⟩
     .simp only[LS.objs,LS.val,LS.xs,List.cons_append,List.nil_append]at M ev5 Y;have ai:b<nn/\n<=b:=M.l1;have aj:n+3<b/\n<=n+3:=M.l2;have U:=aM (xs.length+1) 104 om om;refine OU (M.old hl ha) ab M.g1 M.g2 @qCE @qCH hone4 a6 @aB U ?_;refine aU.mq (k-1) ⟨.arr (nn+1) (xs++[AV.agg [.int .i64 k4,.int .i64 m4,.str t4,.bool g4,d4,lw4,.int .i64 a4,.int .i64 e4]]) (xs.length+1),i+1,rfl,by omega,by rw[ad];exact ev5.append (.cons (.mk hd4 hone4 hl4) .nil),.inr ⟨nn+1,xs++[AV.agg [.int .i64 k4,.int .i64 m4,.str t4,.bool g4,d4,lw4,.int .i64 a4,.int .i64 e4]],by simp⟩,by omega,fun ac=>(((((M.newc _ (.cells [.int .i64 k4,.int .i64 m4,.str t4,.bool g4,d4,lw4,.int .i64 a4,.int .i64 e4,.int .i64 fr4,.int .i64 to4])).del2.cell (.arr 8 (xs++[AV.agg [.int .i64 k4,.int .i64 m4,.str t4,.bool g4,d4,lw4,.int .i64 a4,.int .i64 e4]]))).set3 (.cells (bC 21 0 sg (.sl (nn+1) 0 (xs.length+1))))).drop2).nx om ac)⟩
    .have hi:i=((⟨.mk k1 m1 t1 g1 d1 l1 a1 e1,fr1,to1⟩::left'):List eD).length:=om;subst hi;rw[List.take_length]at ev5;have Y:=ev5.length;rw[List.length_map]at Y;have a5:=Y
     try simp only[List.length_cons]at a5
     rcases hL with rfl | ⟨b,xs,rfl⟩
     .simp only[LS.objs,LS.val,LS.xs,List.nil_append]at M ev5 Y;have U:=aM 1 104 dc dc;have ee:EV (List.map eD.n (⟨.mk k1 m1 t1 g1 d1 l1 a1 e1,fr1,to1⟩::left')++[Node.mk k2 m2 t2 g2 d2 l2 a2 e2]) (List.take (0+1) (List.drop 0 (([]:List AV)++[AV.agg [.int .i64 k2,.int .i64 m2,.str t2,.bool g2,d2,lw2,.int .i64 a2,.int .i64 e2]]))):=(by rw[List.drop_zero,List.take_of_length_le sm];exact ev5.append (.cons (.mk hd hone hl') .nil));refine z9 M.g1 M.g2 M.g3 @qCE @qCH hone O @aB U ?_;refine qCP [(2,4)] [] kr ?_;refine g8 M.g1 M.g2 M.g3 @qCE @qCH hone O @dG ?_;have a3:=(ev5.append (.cons (EN.mk hd hone hl' (k:=k2) (n:=m2) (s:=t2) (g:=g2) (a:=a2) (e:=e2)) .nil)).frozen;refine qCJ (by first | exact fun y hy=>a3 y hy | exact⟨by simp,fun y hy=>a3 y (List.mem_of_mem_take hy)⟩) ?_;refine zz ?_;exact qC9<|⟨_,rfl,by rw[aa];exact .mk rfl rfl (.vec ee)⟩
     .simp only[LS.objs,LS.val,LS.xs,List.cons_append,List.nil_append]at M ev5 Y a5;have ai:b<nn/\n<=b:=M.l1;have aj:n+3<b/\n<=n+3:=M.l2;have U:=aM (xs.length+1) 104 om om;have ee:EV (List.map eD.n (⟨.mk k1 m1 t1 g1 d1 l1 a1 e1,fr1,to1⟩::left')++[Node.mk k2 m2 t2 g2 d2 l2 a2 e2]) (List.take (xs.length+1) (List.drop 0 (xs++[AV.agg [.int .i64 k2,.int .i64 m2,.str t2,.bool g2,d2,lw2,.int .i64 a2,.int .i64 e2]]))):=(by rw[List.drop_zero,List.take_of_length_le sm];exact ev5.append (.cons (.mk hd hone hl') .nil));refine Pe M.g1 M.g2 M.g3 M.g4 @qCE @qCH hone O @aB U ?_;refine qCP [(2,4)] [] kr ?_;refine g9 M.g1 M.g2 M.g3 M.g4 @qCE @qCH hone O @dG ?_;have a3:=(ev5.append (.cons (EN.mk hd hone hl' (k:=k2) (n:=m2) (s:=t2) (g:=g2) (a:=a2) (e:=e2)) .nil)).frozen;refine qCJ (by first | exact fun y hy=>a3 y hy | exact⟨by simp,fun y hy=>a3 y (List.mem_of_mem_take hy)⟩) ?_;refine zz ?_;exact qC9<|⟨_,rfl,by rw[aa];exact .mk rfl rfl (.vec ee)⟩
 |true=>
  have al:sg=[92,88]:=(by simpa using hX);cases hv with
  |nil=>
   have aa:eI.applied ⟨sg,q,[],a8⟩ ⟨.mk k2 m2 t2 g2 d2 l2 a2 e2,fr,to⟩=⟨.mk 41 0 [] false .sl0 (List.map eD.n []++[.mk k2 m2 t2 g2 d2 l2 a2 e2]) a8 to,a8,to⟩:=by
    unfold eI.applied;simp only[al,if_true]
    all_goals rfl
   refine z8 h1 @dW @dX @dH hone O @aB hX ?_;refine qCQ (E0:=[(3,.ref (n+1) 0),(4,.ref (n+2) 0),(5,.ref (n+3) 0),(6,.int .i64 a8),(30,.sl0),(31,.int .i64 ([]:List eD).length),(32,.int .i64 (0:Nat))]) (fun k E nn hh=>∃(L:LS) (i:Nat),E=[(3,.ref (n+1) 0),(4,.ref (n+2) 0),(5,.ref (n+3) 0),(6,.int .i64 a8),(30,.sl0),(31,.int .i64 ([]:List eD).length),(32,.int .i64 i)]/\i+k=([]:List eD).length/\EV ((([]:List eD).take i).map eD.n) L.xs/\(L=.nil\/∃ b xs,L=.arr b xs xs.length)/\n+4<=nn/\
    (aE nn hh->Lo n h (L.objs++[(n+3,.cells (bC 41 0 [] L.val)),(n+2,.cells jX),(n+1,.cells [.int .i64 k2,.int .i64 m2,.str t2,.bool g2,d2,lw2,.int .i64 a2,.int .i64 e2,.int .i64 fr,.int .i64 to])]) nn hh)) ([]:List eD).length ?_ ?_ ?_
   .exact sb
   .exact⟨.nil,0,rfl,by omega,.nil,.inl rfl,by omega,fun _=>(((((T0.cell (.cells [.str sg,.int .i64 q.lo,.int .i64 q.hi,.bool q.left,.sl0,.int .i64 a8])).cell (.cells [.int .i64 k2,.int .i64 m2,.str t2,.bool g2,d2,lw2,.int .i64 a2,.int .i64 e2,.int .i64 fr,.int .i64 to])).cell (.cells jX)).newc _ (.cells (bC 20 0 sg .sl0))).s2 (.cells (bC 41 0 sg .sl0)) (.cells (bC 41 0 [] .sl0))).sub (.cons_cons _ (.cons_cons _ (.cons_cons _ (.cons _ .slnil))))⟩
   .rintro k E nn hh hlk hBk ⟨L,i,rfl,hik,ev5,hL,hnn,T5f⟩;have M:=T5f hlk;clear T5f;by_cases a9:i<([]:List eD).length
    .exact absurd a9 sm
    .have hi:i=([]:List eD).length:=om;subst hi;rw[List.take_length]at ev5;have Y:=ev5.length;rw[List.length_map]at Y;have a5:=Y
     try simp only[List.length_cons]at a5
     rcases hL with rfl | ⟨b,xs,rfl⟩
     .simp only[LS.objs,LS.val,LS.xs,List.nil_append]at M ev5 Y;have U:=aM 1 104 dc dc;have ee:EV (List.map eD.n []++[Node.mk k2 m2 t2 g2 d2 l2 a2 e2]) (List.take (0+1) (List.drop 0 (([]:List AV)++[AV.agg [.int .i64 k2,.int .i64 m2,.str t2,.bool g2,d2,lw2,.int .i64 a2,.int .i64 e2]]))):=(by rw[List.drop_zero,List.take_of_length_le sm];exact ev5.append (.cons (.mk hd hone hl') .nil));refine z9 M.g1 M.g2 M.g3 @qCE @qCH hone O @aB U ?_;refine qCP [(2,4)] [] kr ?_;refine g8 M.g1 M.g2 M.g3 @qCE @qCH hone O @dG ?_;have a3:=(ev5.append (.cons (EN.mk hd hone hl' (k:=k2) (n:=m2) (s:=t2) (g:=g2) (a:=a2) (e:=e2)) .nil)).frozen;refine qCJ (by first | exact fun y hy=>a3 y hy | exact⟨by simp,fun y hy=>a3 y (List.mem_of_mem_take hy)⟩) ?_;refine zz ?_;exact qC9<|⟨_,rfl,by rw[aa];exact .mk rfl rfl (.vec ee)⟩
     .simp only[LS.objs,LS.val,LS.xs,List.cons_append,List.nil_append]at M ev5 Y a5;have ai:b<nn/\n<=b:=M.l1;have aj:n+3<b/\n<=n+3:=M.l2;have U:=aM (xs.length+1) 104 om om;have ee:EV (List.map eD.n []++[Node.mk k2 m2 t2 g2 d2 l2 a2 e2]) (List.take (xs.length+1) (List.drop 0 (xs++[AV.agg [.int .i64 k2,.int .i64 m2,.str t2,.bool g2,d2,lw2,.int .i64 a2,.int .i64 e2]]))):=(by rw[List.drop_zero,List.take_of_length_le sm];exact ev5.append (.cons (.mk hd hone hl') .nil));refine Pe M.g1 M.g2 M.g3 M.g4 @qCE @qCH hone O @aB U ?_;refine qCP [(2,4)] [] kr ?_;refine g9 M.g1 M.g2 M.g3 M.g4 @qCE @qCH hone O @dG ?_;have a3:=(ev5.append (.cons (EN.mk hd hone hl' (k:=k2) (n:=m2) (s:=t2) (g:=g2) (a:=a2) (e:=e2)) .nil)).frozen;refine qCJ (by first | exact fun y hy=>a3 y hy | exact⟨by simp,fun y hy=>a3 y (List.mem_of_mem_take hy)⟩) ?_;refine zz ?_;exact qC9<|⟨_,rfl,by rw[aa];exact .mk rfl rfl (.vec ee)⟩
  |vec e hne=>
   cases e with
   |nil=>exact absurd rfl hne
   |cons hy ht=>
   rename_i x0 v00 left' vs0;cases hy with
   |mk hd1 hone1 hl1=>
   rename_i k1 m1 t1 g1 d1 l1 a1 e1 fr1 to1 lw1;have e:=zZ.cons (EO.mk (k:=k1) (n:=m1) (s:=t1) (g:=g1) (l:=l1) (a:=a1) (e:=e1) (fr:=fr1) (to:=to1) hd1 hone1 hl1) ht;have a7:=ht.length;have aa:eI.applied ⟨sg,q,⟨.mk k1 m1 t1 g1 d1 l1 a1 e1,fr1,to1⟩::left',a8⟩ ⟨.mk k2 m2 t2 g2 d2 l2 a2 e2,fr,to⟩=⟨.mk 41 0 [] false .sl0 (List.map eD.n (⟨.mk k1 m1 t1 g1 d1 l1 a1 e1,fr1,to1⟩::left')++[.mk k2 m2 t2 g2 d2 l2 a2 e2]) fr1 to,fr1,to⟩:=by
    unfold eI.applied;simp only[al,if_true]
    all_goals rfl
   simp only[List.length_cons]at hlen;refine x9 h1 @dW @dX @dH hone O @aB hX a7 ?_;refine qCP [(1,6),(2,6),(4,6)] [] kr ?_;refine u5 a7 @dG @zT @zW hX ?_;refine qCQ (E0:=[(3,.ref (n+1) 0),(4,.ref (n+2) 0),(5,.ref (n+3) 0),(6,.int .i64 fr1),(30,(.vec (.agg [.int .i64 k1,.int .i64 m1,.str t1,.bool g1,d1,lw1,.int .i64 a1,.int .i64 e1,.int .i64 fr1,.int .i64 to1]::vs0) 10 true)),(31,.int .i64 ((⟨.mk k1 m1 t1 g1 d1 l1 a1 e1,fr1,to1⟩::left'):List eD).length),(32,.int .i64 (0:Nat))]) (fun k E nn hh=>∃(L:LS) (i:Nat),E=[(3,.ref (n+1) 0),(4,.ref (n+2) 0),(5,.ref (n+3) 0),(6,.int .i64 fr1),(30,(.vec (.agg [.int .i64 k1,.int .i64 m1,.str t1,.bool g1,d1,lw1,.int .i64 a1,.int .i64 e1,.int .i64 fr1,.int .i64 to1]::vs0) 10 true)),(31,.int .i64 ((⟨.mk k1 m1 t1 g1 d1 l1 a1 e1,fr1,to1⟩::left'):List eD).length),(32,.int .i64 i)]/\i+k=((⟨.mk k1 m1 t1 g1 d1 l1 a1 e1,fr1,to1⟩::left'):List eD).length/\EV ((((⟨.mk k1 m1 t1 g1 d1 l1 a1 e1,fr1,to1⟩::left'):List eD).take i).map eD.n) L.xs/\(L=.nil\/∃ b xs,L=.arr b xs xs.length)/\n+4<=nn/\
    (aE nn hh->Lo n h (L.objs++[(n+3,.cells (bC 41 0 [] L.val)),(n+2,.cells jX),(n+1,.cells [.int .i64 k2,.int .i64 m2,.str t2,.bool g2,d2,lw2,.int .i64 a2,.int .i64 e2,.int .i64 fr,.int .i64 to])]) nn hh)) ((⟨.mk k1 m1 t1 g1 d1 l1 a1 e1,fr1,to1⟩::left'):List eD).length ?_ ?_ ?_
   .exact sb
   .exact⟨.nil,0,rfl,by omega,.nil,.inl rfl,by omega,fun _=>(((((T0.cell (.cells [.str sg,.int .i64 q.lo,.int .i64 q.hi,.bool q.left,(.vec (.agg [.int .i64 k1,.int .i64 m1,.str t1,.bool g1,d1,lw1,.int .i64 a1,.int .i64 e1,.int .i64 fr1,.int .i64 to1]::vs0) 10 true),.int .i64 a8])).cell (.cells [.int .i64 k2,.int .i64 m2,.str t2,.bool g2,d2,lw2,.int .i64 a2,.int .i64 e2,.int .i64 fr,.int .i64 to])).cell (.cells jX)).newc _ (.cells (bC 20 0 sg .sl0))).s3 (.cells (bC 21 0 sg .sl0)) (.cells (bC 41 0 sg .sl0)) (.cells (bC 41 0 [] .sl0))).sub (.cons_cons _ (.cons_cons _ (.cons_cons _ (.cons _ .slnil))))⟩
   .rintro k E nn hh hlk hBk ⟨L,i,rfl,hik,ev5,hL,hnn,T5f⟩;have M:=T5f hlk;clear T5f;by_cases a9:i<((⟨.mk k1 m1 t1 g1 d1 l1 a1 e1,fr1,to1⟩::left'):List eD).length
    .obtain⟨v,ab,ae⟩:=e.get i a9;have ad:(((⟨.mk k1 m1 t1 g1 d1 l1 a1 e1,fr1,to1⟩::left'):List eD).take (i+1)).map eD.n=(((⟨.mk k1 m1 t1 g1 d1 l1 a1 e1,fr1,to1⟩::left'):List eD).take i).map eD.n++[((⟨.mk k1 m1 t1 g1 d1 l1 a1 e1,fr1,to1⟩::left'):List eD)[i].n]:=(by rw[List.take_succ_eq_append_getElem a9,List.map_append];rfl);generalize ((⟨.mk k1 m1 t1 g1 d1 l1 a1 e1,fr1,to1⟩::left'):List eD)[i]=yi at ae ad;have Y:=ev5.length;rw[List.length_map,List.length_take]at Y;cases ae with
     |mk hd4 hone4 hl4=>
     rename_i k4 m4 t4 g4 d4 l4 a4 e4 fr4 to4 lw4;have a6:=hl4.one;have ag:=hik;have ah:=a9
     try simp only[List.length_cons]at ag ah Y
     rcases hL with rfl | ⟨b,xs,rfl⟩
     .simp only[LS.objs,LS.val,LS.xs,List.nil_append]at M ev5 Y;have U:=aM 1 104 dc dc;refine x9 a7 ab M.g1 @qCE @qCH hone4 a6 @aB U ?_;refine aU.mq (k-1) ⟨.arr (nn+1) [AV.agg [.int .i64 k4,.int .i64 m4,.str t4,.bool g4,d4,lw4,.int .i64 a4,.int .i64 e4]] 1,i+1,rfl,by omega,by rw[ad];exact ev5.append (.cons (.mk hd4 hone4 hl4) .nil),.inr ⟨_,_,rfl⟩,by omega,fun ac=>(((((M.newc _ (.cells [.int .i64 k4,.int .i64 m4,.str t4,.bool g4,d4,lw4,.int .i64 a4,.int .i64 e4,.int .i64 fr4,.int .i64 to4])).cell (.arr 8 [AV.agg [.int .i64 k4,.int .i64 m4,.str t4,.bool g4,d4,lw4,.int .i64 a4,.int .i64 e4]])).set3 (.cells (bC 41 0 [] (.sl (nn+1) 0 1)))).drop2).nx om ac)⟩
     .simp only[LS.objs,LS.val,LS.xs,List.cons_append,List.nil_append]at M ev5 Y;have ai:b<nn/\n<=b:=M.l1;have aj:n+3<b/\n<=n+3:=M.l2;have U:=aM (xs.length+1) 104 om om;refine OU a7 ab M.g1 M.g2 @qCE @qCH hone4 a6 @aB U ?_;refine aU.mq (k-1) ⟨.arr (nn+1) (xs++[AV.agg [.int .i64 k4,.int .i64 m4,.str t4,.bool g4,d4,lw4,.int .i64 a4,.int .i64 e4]]) (xs.length+1),i+1,rfl,by omega,by rw[ad];exact ev5.append (.cons (.mk hd4 hone4 hl4) .nil),.inr ⟨nn+1,xs++[AV.agg [.int .i64 k4,.int .i64 m4,.str t4,.bool g4,d4,lw4,.int .i64 a4,.int .i64 e4]],by simp⟩,by omega,fun ac=>(((((M.newc _ (.cells [.int .i64 k4,.int .i64 m4,.str t4,.bool g4,d4,lw4,.int .i64 a4,.int .i64 e4,.int .i64 fr4,.int .i64 to4])).del2.cell (.arr 8 (xs++[AV.agg [.int .i64 k4,.int .i64 m4,.str t4,.bool g4,d4,lw4,.int .i64 a4,.int .i64 e4]]))).set3 (.cells (bC 41 0 [] (.sl (nn+1) 0 (xs.length+1))))).drop2).nx om ac)⟩
    .have hi:i=((⟨.mk k1 m1 t1 g1 d1 l1 a1 e1,fr1,to1⟩::left'):List eD).length:=om;subst hi;rw[List.take_length]at ev5;have Y:=ev5.length;rw[List.length_map]at Y;have a5:=Y
     try simp only[List.length_cons]at a5
     rcases hL with rfl | ⟨b,xs,rfl⟩
     .simp only[LS.objs,LS.val,LS.xs,List.nil_append]at M ev5 Y;have U:=aM 1 104 dc dc;have ee:EV (List.map eD.n (⟨.mk k1 m1 t1 g1 d1 l1 a1 e1,fr1,to1⟩::left')++[Node.mk k2 m2 t2 g2 d2 l2 a2 e2]) (List.take (0+1) (List.drop 0 (([]:List AV)++[AV.agg [.int .i64 k2,.int .i64 m2,.str t2,.bool g2,d2,lw2,.int .i64 a2,.int .i64 e2]]))):=(by rw[List.drop_zero,List.take_of_length_le sm];exact ev5.append (.cons (.mk hd hone hl') .nil));refine z9 M.g1 M.g2 M.g3 @qCE @qCH hone O @aB U ?_;refine qCP [(2,4)] [] kr ?_;refine g8 M.g1 M.g2 M.g3 @qCE @qCH hone O @dG ?_;have a3:=(ev5.append (.cons (EN.mk hd hone hl' (k:=k2) (n:=m2) (s:=t2) (g:=g2) (a:=a2) (e:=e2)) .nil)).frozen;refine qCJ (by first | exact fun y hy=>a3 y hy | exact⟨by simp,fun y hy=>a3 y (List.mem_of_mem_take hy)⟩) ?_;refine zz ?_;exact qC9<|⟨_,rfl,by rw[aa];exact .mk rfl rfl (.vec ee)⟩
     .simp only[LS.objs,LS.val,LS.xs,List.cons_append,List.nil_append]at M ev5 Y a5;have ai:b<nn/\n<=b:=M.l1;have aj:n+3<b/\n<=n+3:=M.l2;have U:=aM (xs.length+1) 104 om om;have ee:EV (List.map eD.n (⟨.mk k1 m1 t1 g1 d1 l1 a1 e1,fr1,to1⟩::left')++[Node.mk k2 m2 t2 g2 d2 l2 a2 e2]) (List.take (xs.length+1) (List.drop 0 (xs++[AV.agg [.int .i64 k2,.int .i64 m2,.str t2,.bool g2,d2,lw2,.int .i64 a2,.int .i64 e2]]))):=(by rw[List.drop_zero,List.take_of_length_le sm];exact ev5.append (.cons (.mk hd hone hl') .nil));refine Pe M.g1 M.g2 M.g3 M.g4 @qCE @qCH hone O @aB U ?_;refine qCP [(2,4)] [] kr ?_;refine g9 M.g1 M.g2 M.g3 M.g4 @qCE @qCH hone O @dG ?_;have a3:=(ev5.append (.cons (EN.mk hd hone hl' (k:=k2) (n:=m2) (s:=t2) (g:=g2) (a:=a2) (e:=e2)) .nil)).frozen;refine qCJ (by first | exact fun y hy=>a3 y hy | exact⟨by simp,fun y hy=>a3 y (List.mem_of_mem_take hy)⟩) ?_;refine zz ?_;exact qC9<|⟨_,rfl,by rw[aa];exact .mk rfl rfl (.vec ee)⟩
  |arr ha hk e hne=>
   rename_i a0 xs00;have an:=tH hl ha;cases e with
   |nil=>exact absurd rfl hne
   |cons hy ht=>
   rename_i x0 v00 left' vs0;cases hy with
   |mk hd1 hone1 hl1=>
   rename_i k1 m1 t1 g1 d1 l1 a1 e1 fr1 to1 lw1;have e:=zZ.cons (EO.mk (k:=k1) (n:=m1) (s:=t1) (g:=g1) (l:=l1) (a:=a1) (e:=e1) (fr:=fr1) (to:=to1) hd1 hone1 hl1) ht;have a7:=ht.length;have aa:eI.applied ⟨sg,q,⟨.mk k1 m1 t1 g1 d1 l1 a1 e1,fr1,to1⟩::left',a8⟩ ⟨.mk k2 m2 t2 g2 d2 l2 a2 e2,fr,to⟩=⟨.mk 41 0 [] false .sl0 (List.map eD.n (⟨.mk k1 m1 t1 g1 d1 l1 a1 e1,fr1,to1⟩::left')++[.mk k2 m2 t2 g2 d2 l2 a2 e2]) fr1 to,fr1,to⟩:=by
    unfold eI.applied;simp only[al,if_true]
    all_goals rfl
   simp only[List.length_cons]at hlen;refine OU h1 @dW @dX @dH hone O @aB hX a7 ha ?_;refine qCP [(1,6),(2,6),(4,6)] [] kr ?_;refine u6 a7 @dG @zT @zW hX ha ?_;refine qCQ (E0:=[(3,.ref (n+1) 0),(4,.ref (n+2) 0),(5,.ref (n+3) 0),(6,.int .i64 fr1),(30,(.sl a0 0 (⟨.mk k1 m1 t1 g1 d1 l1 a1 e1,fr1,to1⟩::left').length)),(31,.int .i64 ((⟨.mk k1 m1 t1 g1 d1 l1 a1 e1,fr1,to1⟩::left'):List eD).length),(32,.int .i64 (0:Nat))]) (fun k E nn hh=>∃(L:LS) (i:Nat),E=[(3,.ref (n+1) 0),(4,.ref (n+2) 0),(5,.ref (n+3) 0),(6,.int .i64 fr1),(30,(.sl a0 0 (⟨.mk k1 m1 t1 g1 d1 l1 a1 e1,fr1,to1⟩::left').length)),(31,.int .i64 ((⟨.mk k1 m1 t1 g1 d1 l1 a1 e1,fr1,to1⟩::left'):List eD).length),(32,.int .i64 i)]/\i+k=((⟨.mk k1 m1 t1 g1 d1 l1 a1 e1,fr1,to1⟩::left'):List eD).length/\EV ((((⟨.mk k1 m1 t1 g1 d1 l1 a1 e1,fr1,to1⟩::left'):List eD).take i).map eD.n) L.xs/\(L=.nil\/∃ b xs,L=.arr b xs xs.length)/\n+4<=nn/\
    (aE nn hh->Lo n h (L.objs++[(n+3,.cells (bC 41 0 [] L.val)),(n+2,.cells jX),(n+1,.cells [.int .i64 k2,.int .i64 m2,.str t2,.bool g2,d2,lw2,.int .i64 a2,.int .i64 e2,.int .i64 fr,.int .i64 to])]) nn hh)) ((⟨.mk k1 m1 t1 g1 d1 l1 a1 e1,fr1,to1⟩::left'):List eD).length ?_ ?_ ?_
   .exact sb
   .exact⟨.nil,0,rfl,by omega,.nil,.inl rfl,by omega,fun _=>(((((T0.cell (.cells [.str sg,.int .i64 q.lo,.int .i64 q.hi,.bool q.left,(.sl a0 0 (⟨.mk k1 m1 t1 g1 d1 l1 a1 e1,fr1,to1⟩::left').length),.int .i64 a8])).cell (.cells [.int .i64 k2,.int .i64 m2,.str t2,.bool g2,d2,lw2,.int .i64 a2,.int .i64 e2,.int .i64 fr,.int .i64 to])).cell (.cells jX)).newc _ (.cells (bC 20 0 sg .sl0))).s3 (.cells (bC 21 0 sg .sl0)) (.cells (bC 41 0 sg .sl0)) (.cells (bC 41 0 [] .sl0))).sub (.cons_cons _ (.cons_cons _ (.cons_cons _ (.cons _ .slnil))))⟩
   .rintro k E nn hh hlk hBk ⟨L,i,rfl,hik,ev5,hL,hnn,T5f⟩;have M:=T5f hlk;clear T5f;by_cases a9:i<((⟨.mk k1 m1 t1 g1 d1 l1 a1 e1,fr1,to1⟩::left'):List eD).length
    .obtain⟨v,ab,ae⟩:=e.get i a9;have ad:(((⟨.mk k1 m1 t1 g1 d1 l1 a1 e1,fr1,to1⟩::left'):List eD).take (i+1)).map eD.n=(((⟨.mk k1 m1 t1 g1 d1 l1 a1 e1,fr1,to1⟩::left'):List eD).take i).map eD.n++[((⟨.mk k1 m1 t1 g1 d1 l1 a1 e1,fr1,to1⟩::left'):List eD)[i].n]:=(by rw[List.take_succ_eq_append_getElem a9,List.map_append];rfl);generalize ((⟨.mk k1 m1 t1 g1 d1 l1 a1 e1,fr1,to1⟩::left'):List eD)[i]=yi at ae ad;have Y:=ev5.length;rw[List.length_map,List.length_take]at Y;cases ae with
     |mk hd4 hone4 hl4=>
     rename_i k4 m4 t4 g4 d4 l4 a4 e4 fr4 to4 lw4;have a6:=hl4.one;have ag:=hik;have ah:=a9
     try simp only[List.length_cons]at ag ah Y
     rcases hL with rfl | ⟨b,xs,rfl⟩
     .simp only[LS.objs,LS.val,LS.xs,List.nil_append]at M ev5 Y;have U:=aM 1 104 dc dc;refine x9 (M.old hl ha) ab M.g1 @qCE @qCH hone4 a6 @aB U ?_;refine aU.mq (k-1) ⟨.arr (nn+1) [AV.agg [.int .i64 k4,.int .i64 m4,.str t4,.bool g4,d4,lw4,.int .i64 a4,.int .i64 e4]] 1,i+1,rfl,by omega,by rw[ad];exact ev5.append (.cons (.mk hd4 hone4 hl4) .nil),.inr ⟨_,_,rfl⟩,by omega,fun ac=>(((((M.newc _ (.cells [.int .i64 k4,.int .i64 m4,.str t4,.bool g4,d4,lw4,.int .i64 a4,.int .i64 e4,.int .i64 fr4,.int .i64 to4])).cell (.arr 8 [AV.agg [.int .i64 k4,.int .i64 m4,.str t4,.bool g4,d4,lw4,.int .i64 a4,.int .i64 e4]])).set3 (.cells (bC 41 0 [] (.sl (nn+1) 0 1)))).drop2).nx om ac)⟩
     .simp only[LS.objs,LS.val,LS.xs,List.cons_append,List.nil_append]at M ev5 Y;have ai:b<nn/\n<=b:=M.l1;have aj:n+3<b/\n<=n+3:=M.l2;have U:=aM (xs.length+1) 104 om om;refine OU (M.old hl ha) ab M.g1 M.g2 @qCE @qCH hone4 a6 @aB U ?_;refine aU.mq (k-1) ⟨.arr (nn+1) (xs++[AV.agg [.int .i64 k4,.int .i64 m4,.str t4,.bool g4,d4,lw4,.int .i64 a4,.int .i64 e4]]) (xs.length+1),i+1,rfl,by omega,by rw[ad];exact ev5.append (.cons (.mk hd4 hone4 hl4) .nil),.inr ⟨nn+1,xs++[AV.agg [.int .i64 k4,.int .i64 m4,.str t4,.bool g4,d4,lw4,.int .i64 a4,.int .i64 e4]],by simp⟩,by omega,fun ac=>(((((M.newc _ (.cells [.int .i64 k4,.int .i64 m4,.str t4,.bool g4,d4,lw4,.int .i64 a4,.int .i64 e4,.int .i64 fr4,.int .i64 to4])).del2.cell (.arr 8 (xs++[AV.agg [.int .i64 k4,.int .i64 m4,.str t4,.bool g4,d4,lw4,.int .i64 a4,.int .i64 e4]]))).set3 (.cells (bC 41 0 [] (.sl (nn+1) 0 (xs.length+1))))).drop2).nx om ac)⟩
    .have hi:i=((⟨.mk k1 m1 t1 g1 d1 l1 a1 e1,fr1,to1⟩::left'):List eD).length:=om;subst hi;rw[List.take_length]at ev5;have Y:=ev5.length;rw[List.length_map]at Y;have a5:=Y
     try simp only[List.length_cons]at a5
     rcases hL with rfl | ⟨b,xs,rfl⟩
     .simp only[LS.objs,LS.val,LS.xs,List.nil_append]at M ev5 Y;have U:=aM 1 104 dc dc;have ee:EV (List.map eD.n (⟨.mk k1 m1 t1 g1 d1 l1 a1 e1,fr1,to1⟩::left')++[Node.mk k2 m2 t2 g2 d2 l2 a2 e2]) (List.take (0+1) (List.drop 0 (([]:List AV)++[AV.agg [.int .i64 k2,.int .i64 m2,.str t2,.bool g2,d2,lw2,.int .i64 a2,.int .i64 e2]]))):=(by rw[List.drop_zero,List.take_of_length_le sm];exact ev5.append (.cons (.mk hd hone hl') .nil));refine z9 M.g1 M.g2 M.g3 @qCE @qCH hone O @aB U ?_;refine qCP [(2,4)] [] kr ?_;refine g8 M.g1 M.g2 M.g3 @qCE @qCH hone O @dG ?_;have a3:=(ev5.append (.cons (EN.mk hd hone hl' (k:=k2) (n:=m2) (s:=t2) (g:=g2) (a:=a2) (e:=e2)) .nil)).frozen;refine qCJ (by first | exact fun y hy=>a3 y hy | exact⟨by simp,fun y hy=>a3 y (List.mem_of_mem_take hy)⟩) ?_;refine zz ?_;exact qC9<|⟨_,rfl,by rw[aa];exact .mk rfl rfl (.vec ee)⟩
     .simp only[LS.objs,LS.val,LS.xs,List.cons_append,List.nil_append]at M ev5 Y a5;have ai:b<nn/\n<=b:=M.l1;have aj:n+3<b/\n<=n+3:=M.l2;have U:=aM (xs.length+1) 104 om om;have ee:EV (List.map eD.n (⟨.mk k1 m1 t1 g1 d1 l1 a1 e1,fr1,to1⟩::left')++[Node.mk k2 m2 t2 g2 d2 l2 a2 e2]) (List.take (xs.length+1) (List.drop 0 (xs++[AV.agg [.int .i64 k2,.int .i64 m2,.str t2,.bool g2,d2,lw2,.int .i64 a2,.int .i64 e2]]))):=(by rw[List.drop_zero,List.take_of_length_le sm];exact ev5.append (.cons (.mk hd hone hl') .nil));refine Pe M.g1 M.g2 M.g3 M.g4 @qCE @qCH hone O @aB U ?_;refine qCP [(2,4)] [] kr ?_;refine g9 M.g1 M.g2 M.g3 M.g4 @qCE @qCH hone O @dG ?_;have a3:=(ev5.append (.cons (EN.mk hd hone hl' (k:=k2) (n:=m2) (s:=t2) (g:=g2) (a:=a2) (e:=e2)) .nil)).frozen;refine qCJ (by first | exact fun y hy=>a3 y hy | exact⟨by simp,fun y hy=>a3 y (List.mem_of_mem_take hy)⟩) ?_;refine zz ?_;exact qC9<|⟨_,rfl,by rw[aa];exact .mk rfl rfl (.vec ee)⟩
end
section
variable {P:Program}{t e:TypeId}(hu:P.underlying t=some (.slice e))(l:Bool)
include hu
theorem MW:cL P .eql t l .sl0 .sl0=some (.bool true):=by simp[cL,cL.eqTop,yP,hu]
theorem Vy (xs:List AV)(k:Nat)(f:Bool):cL P .eql t l (.vec xs k f) .sl0=some (.bool false):=by simp[cL,cL.eqTop,yP,hu]
theorem SA (a b c:Nat):cL P .eql t l (.sl a b c) .sl0=some (.bool false):=by simp[cL,cL.eqTop,yP,hu]
end
def KS (n o:Nat)(cv:AV)(a:Nat):Prop:=n<=a/\¬Own o cv a
theorem LR.mono {h h':Hp}{K K':Nat->Prop}(hs:∀ a xs,h.get a=some (.arr 10 xs)->K a->h'.get a=some (.arr 10 xs)/\K' a){l:List eD}{v:AV}(e:LR h K l v):LR h' K' l v:=by
 cases e with
 |nil=>exact .nil
 |vec e hne=>exact .vec e hne
 |arr hx hk e hne=>
  obtain⟨a,b⟩:=hs _ _ hx hk;exact .arr a b e hne
def Rh:Option aK->Bool
 |some (.arr 10 _)=>true
 |_=>false
theorem bI:Rh none=false:=rfl
theorem aY (cs:List AV):Rh (some (.cells cs))=false:=rfl
theorem bR (xs:List AV):Rh (some (.arr 6 xs))=false:=rfl
theorem YC (kv:List (AV×AV)):Rh (some (.map kv))=false:=rfl
def iN (h h':Hp):Prop:=∀ a xs,h.get a=some (.arr 10 xs)->h'.get a=some (.arr 10 xs)
theorem iN.refl {h:Hp}:iN h h:=fun _ _ e=>e
theorem iN.cons {h h':Hp}(k:iN h h'){n:Nat}{x:aK}(ha:Rh (h'.get n)=false):iN h ((n,x)::h'):=fun a xs e=>by
 have e:=k a xs e;rw[aX]
 .exact e
 .rintro rfl;rw[e]at ha;cases ha
theorem iN.put {h h':Hp}(k:iN h h'){n:Nat}{x:aK}(ha:Rh (h'.get n)=false):iN h (h'.put n x):=fun a xs e=>by
 have e:=k a xs e;rw[qCf,if_neg]
 .exact e
 .rintro rfl;rw[e]at ha;cases ha
theorem iN.del {h h':Hp}(k:iN h h'){n:Nat}(ha:Rh (h'.get n)=false):iN h (h'.del n):=fun a xs e=>by
 have e:=k a xs e;rw[qCe,if_neg]
 .exact e
 .rintro rfl;rw[e]at ha;cases ha
def WV (h:Hp)(K:Nat->Prop)(w:eI)(v:AV):Prop:=
 ∃ lw,v=.agg [.str w.sign,.int .i64 w.op.lo,.int .i64 w.op.hi,.bool w.op.left,lw,.int .i64 w.at']/\LR h K w.left lw/\w.left.length<=1000000
inductive WS (h:Hp) (K:Nat->Prop):List eI->List AV->Prop
 |nil:WS h K [] []
 |cons {w:eI}{v:AV}{r:List eI}{ws:List AV} (e:WV h K w v) (t:WS h K r ws):WS h K (w::r) (ws++[v])
def SR (h:Hp)(K:Nat->Prop)(st:List eI)(stv:AV):Prop:=
 (stv=.sl0/\st=[])\/∃ b ws gs,stv=.sl b 0 st.length/\h.get b=some (.arr 6 (ws++gs))/\K b/\WS h K st ws
theorem WV.mono {h h':Hp}{K K':Nat->Prop}(hs:∀ a xs,h.get a=some (.arr 10 xs)->K a->h'.get a=some (.arr 10 xs)/\K' a){w:eI}{v:AV}(e:WV h K w v):WV h' K' w v:=by
 obtain⟨M,a,b,c⟩:=e;exact⟨M,a,b.mono hs,c⟩
theorem WS.mono {h h':Hp}{K K':Nat->Prop}(hs:∀ a xs,h.get a=some (.arr 10 xs)->K a->h'.get a=some (.arr 10 xs)/\K' a):∀{st:List eI}{ws:List AV},WS h K st ws->WS h' K' st ws
 |_,_,.nil=>.nil
 |_,_,.cons e t=>.cons (e.mono hs) (t.mono hs)
theorem WS.length {h:Hp}{K:Nat->Prop}:∀{st:List eI}{ws:List AV},WS h K st ws->ws.length=st.length
 |_,_,.nil=>rfl
 |_,_,.cons e t=>by simp[t.length]
theorem SR.mono {h h':Hp}{K K':Nat->Prop}(hs:∀ a t xs,h.get a=some (.arr t xs)->K a->h'.get a=some (.arr t xs)/\K' a){st:List eI}{stv:AV}(e:SR h K st stv):SR h' K' st stv:=by
 rcases e with e | ⟨b,ws,gs,h1,h2,h3,h4⟩
 .exact .inl e
 .obtain⟨a,c⟩:=hs _ _ _ h2 h3;exact .inr ⟨b,ws,gs,h1,a,c,h4.mono fun a xs=>hs a 10 xs⟩
theorem SR.same {h h':Hp}{K:Nat->Prop}(k:bJ h h'){st:List eI}{stv:AV}(e:SR h K st stv):SR h' K st stv:=e.mono fun a t xs O M=>⟨k a _ O (fun cs e=>by cases e),M⟩
theorem WS.s10 {h h':Hp}{K:Nat->Prop}(k:iN h h'){st:List eI}{ws:List AV}(e:WS h K st ws):WS h' K st ws:=e.mono fun a xs O M=>⟨k a xs O,M⟩
theorem WV.s10 {h h':Hp}{K:Nat->Prop}(k:iN h h'){w:eI}{v:AV}(e:WV h K w v):WV h' K w v:=e.mono fun a xs O M=>⟨k a xs O,M⟩
theorem SR.push {h:Hp}{K:Nat->Prop}{w:eI}{st:List eI}{ws gs:List AV}{wv:AV}{b k:Nat}(e:WS h K st ws)(hw:WV h K w wv)(hb:h.get b=some (.arr 6 (ws++(wv::gs))))(hK:K b)(hk:k=st.length+1):SR h K (w::st) (.sl b 0 k):=by
 subst hk;exact .inr ⟨b,ws++[wv],gs,rfl,by rw[hb];simp,hK,.cons hw e⟩
section
variable {n n1 n2:Nat}{h h1 h2:Hp}{o pm im:Nat}{lv cv cv1 cv2:AV}{X:List (Nat×aK)}{s s1 s2:PS}{st:List eI}{stv:AV}
theorem SR.call (hl1:aE n1 h1)(P2:jL n1 h1 o pm im lv cv1 s2 n2 h2 cv2)(e:SR h1 (KS n o cv1) st stv):SR h2 (KS n o cv2) st stv:=e.mono fun a t xs Y O=>by
 have U:=aN hl1 Y;refine⟨(P2.keep a U O.2).trans Y,O.1,fun M=>?_⟩;rcases P2.own a M with M | M
 .exact O.2 M
 .omega
theorem SR.quiet (hl1:aE n1 h1)(k:∀ t,t<n1->h2.get t=h1.get t){K:Nat->Prop}(e:SR h1 K st stv):SR h2 K st stv:=e.mono fun a t xs M O=>⟨(k a (aN hl1 M)).trans M,O⟩
theorem SR.top (e:SR h1 (KS n o cv1) st stv)(hlen:st.length<1000000000):Pj h1 (fun t=>¬Own o cv1 t) st stv:=by
 rcases e with e | ⟨b,ws,gs,h1,h2,h3,h4⟩
 .exact .inl e
 .refine .inr ⟨b,ws++gs,h1,h2,h3.2,hlen,fun w r M=>?_⟩;subst M;cases h4 with
  |cons e t=>
   obtain⟨U,rfl,O,_⟩:=e;refine⟨U,?_,O.len⟩;rw[<- t.length,List.append_assoc];simp
end
section
variable {Gl:qC6}{Gm:qC7}{Kp:qC8}(S:Seat Gm Kp)
include S
omit S in
theorem zZ.whole:∀{l:List eD}{xs:List AV},zZ l xs->xs.all AV.whole=true
 |_,_,.nil=>rfl
 |_,_,.cons h t=>by
  obtain⟨cs,rfl,_,M,_⟩:=h.shape;rw[List.all_cons,t.whole,aB,M]
  rfl
theorem EP (hk9:Kp 209=(true,false)){l:List eD}{lw:AV}{n:Nat}{h:Hp}{K:Nat->Prop}(hv:LR h K l lw)(hlen:l.length<=1000000){Q:aS->Nat->Hp->Prop}
  (hQ:∀ v n' h',n<=n'->aE n' h'->(∀ t,t<n->h'.get t=h.get t)->((l=[]/\v=.sl0)\/∃ b xs,v=.sl b 0 l.length/\n<=b/\h'.get b=some (.arr 10 xs)/\zZ l xs)->Q (.returned v) n' h') :
  aG Tryz.prog Gl Gm Kp 209 [lw] n h (fun _=>False) Q:=by
 refine aG.mono (B:=fun _=>False) (Q:=fun e _ h'=>∃ v,e=.returned v/\((l=[]/\v=.sl0)\/∃ b xs,v=.sl b 0 l.length/\n<=b/\h'.get b=some (.arr 10 xs)/\zZ l xs)) ?_ (fun _ _ h=>h) (fun e n' h' a b c d=>by obtain⟨v,rfl,d⟩:=d;exact hQ v n' h' a b (fun t U=>c t U id) d);refine aG.code 8 [.tmp 2] Tryz.func209 rfl (S.gm _ dc) hk9 rfl rfl fun hB hl=>?_;have hu:Tryz.prog.underlying 207=some (.slice 146):=kr;cases hv with
 |nil=>
  simp -dsimp (disch:=first | assumption | omega) only [go_sem,Nat.reduceLT,Nat.reduceBEq,Nat.reduceAdd,Nat.reduceSub,Nat.reduceLeDiff,Nat.reduceEqDiff,↓reduceIte,beq_true,beq_false,decide_eq_true,decide_eq_false,MW hu];exact qC9<|⟨_,rfl,.inl ⟨rfl,rfl⟩⟩
 |vec e hne=>
  cases e with
  |nil=>exact absurd rfl hne
  |cons hy U=>
  rename_i x0 v00 l0 vs0;have e:=zZ.cons hy U;have hw:=e.whole;have O:=U.length;simp only[List.length_cons]at hlen;have M:=aM (vs0.length+1) 120 om om;simp -dsimp (disch:=first | assumption | omega) only [go_sem,Nat.reduceLT,Nat.reduceBEq,Nat.reduceAdd,Nat.reduceSub,Nat.reduceLeDiff,Nat.reduceEqDiff,↓reduceIte,beq_true,beq_false,decide_eq_true,decide_eq_false,Vy hu,hw,M,List.length_cons,List.length_nil,Nat.zero_add];exact qC9<|⟨_,rfl,.inr ⟨n,v00::vs0,by simp[O],Nat.le_refl _,bM _ _ _,e⟩⟩
 |arr hx hk e hne=>
  rename_i a0 xs00;have a1:=aN hl hx;cases e with
  |nil=>exact absurd rfl hne
  |cons hy U=>
  rename_i x0 v00 l0 vs0;have e:=zZ.cons hy U;have hw:=e.whole;have O:=U.length;simp only[List.length_cons]at hlen;have M:=aM (l0.length+1) 120 om om;have Y:List.take (l0.length+1) (v00::vs0)=v00::vs0:=List.take_of_length_le (by simp[O]);simp -dsimp (disch:=first | assumption | omega) only [go_sem,Nat.reduceLT,Nat.reduceBEq,Nat.reduceAdd,Nat.reduceSub,Nat.reduceLeDiff,Nat.reduceEqDiff,↓reduceIte,beq_true,beq_false,decide_eq_true,decide_eq_false,SA hu,hw,M,hx,Y,List.length_cons,List.length_nil,Nat.zero_add,List.drop_zero,O];exact qC9<|⟨_,rfl,.inr ⟨n,v00::vs0,by simp,Nat.le_refl _,bM _ _ _,e⟩⟩
omit S in
theorem St.readP {n n1:Nat}{h h1:Hp}{o pm im:Nat}{lv cv cv1:AV}{X:List (Nat×aK)}{s1:PS}{f:FuncId}{args:List AV}{g:PS->AV}(M:Reads Gl Gm Kp f args o pm im lv g)(T:St n h o pm im lv cv X s1 n1 h1 cv1){B:Nat->Prop}{Q:aS->Nat->Hp->Prop}
  (k:∀ n2 h2,n1<=n2->(∀ t,t<n1->h2.get t=h1.get t)->St n h o pm im lv cv X s1 n2 h2 cv1->Q (.returned (g s1)) n2 h2):aG Tryz.prog Gl Gm Kp f args n1 h1 B Q:=
 (M _ _ _ _ T.rep _ fun n2 h2 a b c=>k n2 h2 a c (T.quiet a b c)).mono (fun _ _ h=>h.elim) fun _ _ _ _ _ _ h=>h
omit S in
theorem St.callP {n n1:Nat}{h h1:Hp}{o pm im:Nat}{lv cv cv1:AV}{X:List (Nat×aK)}{s1:PS}{α β:Type}{f:FuncId}{args:List AV}{m:P α}{En:α->AV->Prop}(T:St n h o pm im lv cv X s1 n1 h1 cv1)(M:qB Gl Gm Kp f args o pm im lv m En n1 h1 cv1 s1){ms:Jp β}{g:α->P β}(hm:ms=(m >>= g) s1)(ho:ms≠.error lT){Q:aS->Nat->Hp->Prop}
  (k1:∀ a s2 v n2 h2 cv2,ms=g a s2->En a v->n1<=n2->jL n1 h1 o pm im lv cv1 s2 n2 h2 cv2->St n h o pm im lv cv X s2 n2 h2 cv2->Q (.returned v) n2 h2)
  (k2:∀ e,ms=.error e->∀ n2 h2,n1<=n2->aE n2 h2->Q (.panicked (iY e)) n2 h2):aG Tryz.prog Gl Gm Kp f args n1 h1 (fun t=>n<=t\/Own o cv t) Q:=
 (M (fun U=>ho (hm.trans (P.err_bind U))) Q (fun a s2 e v n2 h2 cv2 ev O=>k1 a s2 v n2 h2 cv2 (hm.trans (P.ok_bind e)) ev O.le O (T.step O))
  (fun e Y n2 h2 a b _=>k2 e (hm.trans (P.err_bind Y)) n2 h2 a b)).mono T.bound fun _ _ _ _ _ _ h=>h
omit S in
theorem aL.at {α:Type}{f:FuncId}{args:List AV}{o pm im:Nat}{lv:AV}{m:P α}{En:α->AV->Prop}(M:aL Gl Gm Kp f args o pm im lv m En){n:Nat}{h:Hp}{cv:AV}{s:PS}(R:eB h o pm im lv cv s):qB Gl Gm Kp f args o pm im lv m En n h cv s:=
 fun O=>M n h cv s R O
def Mh (t:Tok):oQ:=(find jI t.s).getD ⟨0,0,false,false⟩
def Li (t:Tok):Bool:=(find jI t.s).isSome&&decide (t.kind=5)
def zX (k:Nat)(t:Tok)(st:List eI)(x:eD):P eD:=
 if !Li t then P.pure x
 else do
  P.step 1
  P.fits st.length
  P.fits (Jd st)
  gU k (Sq st t (Mh t) x)
def pZ (k:Nat)(t:Tok)(st:List eI)(x:eD):P eD:=
 match eR (Li t) t.s (Mh t) st x with
 |none=>P.prec
 |some (st,x)=>zX k t st x
def mC (k:Nat)(st:List eI):P eD:=do
 let x <- lQ k
 let x <- iB k x st
 let t <- P.tok 0
 pZ k t st x
omit S in
theorem Pb (k:Nat)(st:List eI):gU (k+1) st=(rF k st >>= mC k):=by rw[gU.eq_2];rfl
omit S in
theorem Pd (st:List eI)(s:PS):gU 0 st s=.error lT:=by rw[gU.eq_1];rfl
def wK (m:Nat)(st:List eI)(t:Tok):P (List eI):=
 match find pV t.s with
 |some q=>
  if t.kind=5\/t.kind=4 then do
   P.fits st.length
   P.step 1
   rF m (⟨t.s,q,[],t.at'⟩::st)
  else P.pure st
 |none=>P.pure st
omit S in
theorem Jo (m:Nat)(st:List eI):rF (m+1) st=(P.tok 0 >>= wK m st):=rfl
omit S in
theorem Az {α:Type}{k:Nat}{g:Unit->P α}{s:PS}(ho:(P.fits k >>= g) s≠.error Pa.lT):k<1000000/\P.fits k s=.ok ((),s):=by
 by_cases h:k<1000000
 .exact⟨h,by unfold P.fits;rw[if_pos h]⟩
 .exact absurd (P.err_bind (by unfold P.fits;rw[if_neg h])) ho
omit S in
theorem St.add1 {n n1:Nat}{h h1:Hp}{o pm im:Nat}{lv cv cv1:AV}{X:List (Nat×aK)}{s1:PS}{a:Nat}{x:aK}(T:St n h o pm im lv cv X s1 n1 h1 cv1)(ha:h1.get a=some x)(hK:KS n o cv1 a)(hX:∀ q ∈ X,q.1<a):St n h o pm im lv cv ((a,x)::X) s1 n1 h1 cv1:=
 ⟨T.post,T.on,fun q M=>by
  rcases List.mem_cons.1 M with rfl | M
  .exact⟨ha,hK.2,hK.1⟩
  .exact T.hold q M,.cons hX T.ord⟩
omit S in
theorem bJ.newc {n:Nat}{h:Hp}{a b:List AV}(hl:aE n h):bJ h (Hp.put ((n,.cells a)::h) n (.cells b)):=(bJ.refl.cons hl).put (by rw[bM];rfl)
omit S in
theorem aA.str {n n1:Nat}{h h1:Hp}{o pm im:Nat}{lv cv cv1:AV}{X:List (Nat×aK)}{s1:PS}{K:Nat->Prop}{st:List eI}{stv:AV}{f:FuncId}{args:List AV}{B:Nat->Prop}{Q t}(T:St n h o pm im lv cv X s1 n1 h1 cv1)(R:SR h1 K st stv)
  (k:∀ hX,St n h o pm im lv cv X s1 n1 hX cv1->SR hX K st stv->aA Tryz.prog Gl Gm Kp f args n1 hX B Q t):aA Tryz.prog Gl Gm Kp f args n1 h1 B Q t:=k h1 T R
omit S in
theorem aA.stR {n n1:Nat}{h h1:Hp}{o pm im:Nat}{lv cv cv1:AV}{X:List (Nat×aK)}{s1:PS}(φ:Hp->Prop){f:FuncId}{args:List AV}{B:Nat->Prop}{Q t}(T:St n h o pm im lv cv X s1 n1 h1 cv1)(R:φ h1)
  (k:∀ hX,St n h o pm im lv cv X s1 n1 hX cv1->φ hX->aA Tryz.prog Gl Gm Kp f args n1 hX B Q t):aA Tryz.prog Gl Gm Kp f args n1 h1 B Q t:=k h1 T R
omit S in
theorem zC {k:dZ}{i:Nat}{E:Env}{n:Nat}{h:Hp}:uU k (.exit i) E n h=k (.exit i) E n h:=rfl
omit S in
theorem aZ.stR {n n1:Nat}{h h1:Hp}{o pm im:Nat}{lv cv cv1:AV}{X:List (Nat×aK)}{s1:PS}(φ:Hp->Prop){f:FuncId}{args:List AV}{B:Nat->Prop}{Q t}(T:St n h o pm im lv cv X s1 n1 h1 cv1)(R:φ h1)
  (k:∀ hX,St n h o pm im lv cv X s1 n1 hX cv1->φ hX->aZ Tryz.prog Gl Gm Kp f args n1 hX B Q t):aZ Tryz.prog Gl Gm Kp f args n1 h1 B Q t:=k h1 T R
omit S in
theorem iN.newc {n:Nat}{h:Hp}{a b:List AV}(hl:aE n h):iN h (Hp.put ((n,.cells a)::h) n (.cells b)):=(iN.refl.cons (by rw[hl n (Nat.le_refl _)];rfl)).put (by rw[bM];rfl)
omit S in
theorem WS.quiet {n1:Nat}{h1 h2:Hp}{K:Nat->Prop}(hl1:aE n1 h1)(k:∀ t,t<n1->h2.get t=h1.get t){st:List eI}{ws:List AV}(e:WS h1 K st ws):WS h2 K st ws:=e.mono fun a xs M O=>⟨(k a (aN hl1 M)).trans M,O⟩
theorem NY (hk9:Kp 209=(true,false)){o pm im:Nat}{lv:AV}(f:Nat)(Mp:∀ k,k<=f->aL Gl Gm Kp 206 [.ref o 0] o pm im lv (lQ k) EO)
  (Mb:∀ k,k<=f->∀(n:Nat) (h:Hp) (cv:AV) (s:PS) (x:eD) (xv:AV) (st:List eI) (stv:AV),eB h o pm im lv cv s->EO x xv->Pj h (fun t=>¬Own o cv t) st stv->qB Gl Gm Kp 205 [.ref o 0,xv,stv] o pm im lv (iB k x st) EO n h cv s) :
  aL Gl Gm Kp 124 [.ref o 0] o pm im lv (gU f []) EO:=by
 refine aL.st fun n h cv s T0 ho=>qB6 S 185 [.cell 2 146] Tryz.func124 fun hB _=>?_;have ey:=T0.on;have cA:=T0.lt;have e7:=T0.rep.len;have ez:=aN cA T0.rep.pre;have ew:=aN cA T0.rep.inf;generalize hms:gU f [] s=ms at ho ⊢;refine zz ?_;refine qCu (fun k E nn hh=>∃(st:List eI) (stv:AV) (s2:PS) (cv2:AV),E=[(0,.ref o 0),(2,.ref n 0),(3,stv)]/\ms=gU k st s2/\k<=f/\st.length<=1000000/\n+1<=nn/\
  (aE nn hh->St n h o pm im lv cv [(n,.cells jX)] s2 nn hh cv2/\SR hh (KS n o cv2) st stv)) f ⟨[],.sl0,s,cv,rfl,hms.symm,Nat.le_refl _,by simp,by omega,fun _=>⟨T0.cell (.cells jX),.inl ⟨rfl,rfl⟩⟩⟩ ?_
 .rintro k E nn hh hlk hBk ⟨st,stv,s2,cv2,rfl,hm,hkf,hst,hnn,TS⟩;cases k with
  |zero=>exact absurd (hm.trans (Pd _ _)) ho
  |succ k=>
   rw[Pb]at hm;refine zz ?_;refine cR.cut (E0:=[(0,.ref o 0),(2,.ref n 0),(3,stv)]) (fun ex E n3 h3=>ex=.exit 2/\∃(Y:List eI) (a3:AV) (s3:PS) (b3:AV),Env.sub [(0,.ref o 0),(2,.ref n 0),(3,a3)] E/\ms=mC k Y s3/\Y.length<=1000000/\n+1<=n3/\
     (aE n3 h3->St n h o pm im lv cv [(n,.cells jX)] s3 n3 h3 b3/\SR h3 (KS n o b3) Y a3))
    (fun m E n3 h3=>∃(Y:List eI) (a3:AV) (s3:PS) (b3:AV),E=[(0,.ref o 0),(2,.ref n 0),(3,a3)]/\ms=(rF m Y >>= mC k) s3/\Y.length<=1000000/\n+1<=n3/\
     (aE n3 h3->St n h o pm im lv cv [(n,.cells jX)] s3 n3 h3 b3/\SR h3 (KS n o b3) Y a3)) k ?_ ⟨st,stv,s2,cv2,rfl,hm,hst,hnn,TS⟩ ?_ ?_
   .exact sb
   .rintro m E n3 h3 cb hB3 ⟨Y,a3,s3,b3,rfl,bm,ar,e8,d1⟩;obtain⟨T3,R3⟩:=d1 cb;cases m with
    |zero=>exact absurd bm (fun hc=>ho hc)
    |succ m=>
     rw[Jo,qCk]at bm;refine zz ?_;refine qCK (St.readP (gO S 0 dc) T3 fun n4 h4 df az T4=>?_);have cd:=bm.trans (P.ok_bind (x:=P.tok 0) rfl);obtain⟨dz,cn⟩:=eF T3.rep 0;have R4:=R3.quiet cb az;have cB:=T4.rep.pre;generalize ht:s3.token 0=t at *;refine z3 @qBz @qB0 cn ?_;refine qCP [(4,11),(6,11),(7,11)] [] kr ?_;cases hq:find pV t.s with
     |none=>
      have b0:ms=mC k Y s3:=cd.trans (by unfold wK;rw[hq];rfl);refine u4 T4.obj cB @Kz hq ?_;refine eL.lt om fun nx br bu an=>?_;by_cases k5:t.kind=5
      .have a8:decide (t.kind=5)=true:=decide_eq_true k5;refine z3 a8 @Bool.not_true @Bool.not_false ?_;exact qCt ⟨rfl,Y,a3,s3,_,by(repeat' (first | exact Env.sub.nil | refine Env.sub.cons rfl ?_)),b0,ar,by omega,fun a5=>⟨(((T4.newc (.cells iH.cells) (.cells t.cells)).newc (.cells [.int .i64 0,.int .i64 0,.bool false]) (.cells [.int .i64 0,.int .i64 0,.bool false])).sub (.cons _ (.cons _ (List.Sublist.refl _)))).nx om a5,(R4.same (bJ.newc (a:=iH.cells) (b:=t.cells) T4.lt)).same (bJ.newc (a:=[.int .i64 0,.int .i64 0,.bool false]) (b:=[.int .i64 0,.int .i64 0,.bool false]) (T4.newc (.cells iH.cells) (.cells t.cells)).lt)⟩⟩
      .have a8:decide (t.kind=5)=false:=decide_eq_false k5;by_cases k4:t.kind=4
       .have az:decide (t.kind=4)=true:=decide_eq_true k4;refine z4 a8 az @Bool.not_true @Bool.not_false ?_;exact qCt ⟨rfl,Y,a3,s3,_,by(repeat' (first | exact Env.sub.nil | refine Env.sub.cons rfl ?_)),b0,ar,by omega,fun a5=>⟨(((T4.newc (.cells iH.cells) (.cells t.cells)).newc (.cells [.int .i64 0,.int .i64 0,.bool false]) (.cells [.int .i64 0,.int .i64 0,.bool false])).sub (.cons _ (.cons _ (List.Sublist.refl _)))).nx om a5,(R4.same (bJ.newc (a:=iH.cells) (b:=t.cells) T4.lt)).same (bJ.newc (a:=[.int .i64 0,.int .i64 0,.bool false]) (b:=[.int .i64 0,.int .i64 0,.bool false]) (T4.newc (.cells iH.cells) (.cells t.cells)).lt)⟩⟩
       .have az:decide (t.kind=4)=false:=decide_eq_false k4;refine z4 a8 az @Bool.not_true @Bool.not_false ?_;exact qCt ⟨rfl,Y,a3,s3,_,by(repeat' (first | exact Env.sub.nil | refine Env.sub.cons rfl ?_)),b0,ar,by omega,fun a5=>⟨(((T4.newc (.cells iH.cells) (.cells t.cells)).newc (.cells [.int .i64 0,.int .i64 0,.bool false]) (.cells [.int .i64 0,.int .i64 0,.bool false])).sub (.cons _ (.cons _ (List.Sublist.refl _)))).nx om a5,(R4.same (bJ.newc (a:=iH.cells) (b:=t.cells) T4.lt)).same (bJ.newc (a:=[.int .i64 0,.int .i64 0,.bool false]) (b:=[.int .i64 0,.int .i64 0,.bool false]) (T4.newc (.cells iH.cells) (.cells t.cells)).lt)⟩⟩
     |some q=>
      refine u5 T4.obj cB @Kz hq @SG.eq_1 ?_;by_cases c9:t.kind=5\/t.kind=4
      .have b0:ms=(P.fits Y.length >>= fun _=>P.step 1 >>= fun _=>(rF m (⟨t.s,q,[],t.at'⟩::Y) >>= mC k)) s3:=cd.trans (by unfold wK;simp only[hq,c9,if_true,qCk]);obtain⟨er,dy⟩:=Az (fun hc=>ho (b0.trans hc));have bc:=b0.trans (P.ok_bind dy);obtain⟨bq,dm⟩:=cJ (fun hc=>ho (bc.trans hc));have bp:=bc.trans (P.ok_bind dm);have em:=T3.rep.len;refine eL.lt om fun nx br bu an=>?_;have TY:=((T4.newc (.cells iH.cells) (.cells t.cells)).newc (.cells [.int .i64 0,.int .i64 0,.bool false]) (.cells [.int .i64 q.lo,.int .i64 q.hi,.bool q.left])).nx om an;have ei:n4+1<nx/\n<=n4+1:=TY.l1;have TX:=TY.sub (.cons _ (.cons _ (List.Sublist.refl _)));have au:h4.get n4=none:=T4.lt n4 (Nat.le_refl _);have aw:h4.get (n4+1)=none:=T4.lt _ om;have ax:h4.get nx=none:=T4.lt _ om;have RX:=(R4.same (bJ.newc (a:=iH.cells) (b:=t.cells) T4.lt)).same (bJ.newc (a:=[.int .i64 0,.int .i64 0,.bool false]) (b:=[.int .i64 q.lo,.int .i64 q.hi,.bool q.left]) (T4.newc (.cells iH.cells) (.cells t.cells)).lt);have de:decide (t.kind=5)=true\/(decide (t.kind=5)=false/\decide (t.kind=4)=true):=by
        rcases c9 with h | h
        .exact .inl (decide_eq_true h)
        .exact .inr ⟨decide_eq_false om,decide_eq_true h⟩
       rcases de with a8 | ⟨a8,az⟩
       .have a9:=(TX.cell (.arr 6 [])).hold (nx,.arr 6 []) sm;have ah:KS n o b3 nx:=⟨by omega,a9.2.1⟩;have U:=aM (Y.length+1) 72 om om;rcases R4 with⟨rfl,rfl⟩ | ⟨b,ws,gs,rfl,M,hKb,hws⟩
        .simp only[List.length_nil,Nat.zero_add]at U;refine z6 a8 @Bool.not_true @Bool.not_false U T4.obj @aQ ?_;refine qCR m [(0,.ref o 0),(2,.ref n 0),(3,.sl nx 0 1)] om sb ⟨_,_,_,_,rfl,bp,by simp,by omega,fun _=>⟨((TX.cell (.arr 6 [.agg [.str t.s,.int .i64 q.lo,.int .i64 q.hi,.bool q.left,.sl0,.int .i64 t.at']])).pos bq).sub (.cons _ (List.Sublist.refl _)),SR.push (ws:=[]) (gs:=[]) .nil ⟨.sl0,rfl,.nil,by simp⟩ (y1 @dG) ah rfl⟩⟩
        .have ba:=aN T4.lt M;have ci:n<=b:=hKb.1;have a1:=hws.length;have cj:n≠b:=fun e=>(by subst e;rw[T4.g1]at M;cases M);have ck:o≠b:=fun e=>hKb.2 (.inl e.symm);cases gs with
         |nil=>
          rw[List.append_nil]at M;refine u8 a8 @Bool.not_true @Bool.not_false U T4.obj @aQ M a1 ?_;refine qCR m [(0,.ref o 0),(2,.ref n 0),(3,.sl nx 0 (Y.length+1))] om sb ⟨_,_,_,_,rfl,bp,by simp only[List.length_cons];omega,by omega,fun _=>⟨(((((TX.add1 (x:=.arr 6 ws) (y1 M) hKb (by simp;omega)).del1).cell (.arr 6 (ws++[(.agg [.str t.s,.int .i64 q.lo,.int .i64 q.hi,.bool q.left,.sl0,.int .i64 t.at'])]))).pos bq).sub (.cons _ (List.Sublist.refl _))),SR.push (gs:=[]) (hws.s10 (by(repeat' (first | exact iN.refl | refine iN.cons ?_ (y8 @bI @aY @bR M T4.obj au aw ax) | refine iN.put ?_ (y8 @bI @aY @bR M T4.obj au aw ax) | refine iN.del ?_ (y8 @bI @aY @bR M T4.obj au aw ax))))) ⟨.sl0,rfl,.nil,by simp⟩ (y1 @dG) ah rfl⟩⟩
         |cons g gs'=>
          have b8:List.take Y.length (ws++g::gs')=ws:=(by rw[<- a1,List.take_left]);have b5:List.drop (Y.length+1) (ws++g::gs')=gs':=(by rw[<- a1,List.drop_append];simp);have ae:(ws++g::gs').length=Y.length+(gs'.length+1):=(by simp[a1]);refine zS a8 @Bool.not_true @Bool.not_false U T4.obj @aQ M ae b8 b5 ?_;refine qCR m [(0,.ref o 0),(2,.ref n 0),(3,.sl b 0 (Y.length+1))] om sb ⟨_,_,_,_,rfl,bp,by simp only[List.length_cons];omega,by omega,fun _=>⟨((((TX.add1 (x:=.arr 6 (ws++g::gs')) (y1 M) hKb (by simp;omega)).set1 (.arr 6 (ws++((.agg [.str t.s,.int .i64 q.lo,.int .i64 q.hi,.bool q.left,.sl0,.int .i64 t.at'])::gs')))).pos bq).sub (.cons _ (List.Sublist.refl _))),SR.push (gs:=gs') (hws.s10 (by(repeat' (first | exact iN.refl | refine iN.cons ?_ (y8 @bI @aY @bR M T4.obj au aw ax) | refine iN.put ?_ (y8 @bI @aY @bR M T4.obj au aw ax) | refine iN.del ?_ (y8 @bI @aY @bR M T4.obj au aw ax))))) ⟨.sl0,rfl,.nil,by simp⟩ (y1 @dG) hKb rfl⟩⟩
       .have a9:=(TX.cell (.arr 6 [])).hold (nx,.arr 6 []) sm;have ah:KS n o b3 nx:=⟨by omega,a9.2.1⟩;have U:=aM (Y.length+1) 72 om om;rcases R4 with⟨rfl,rfl⟩ | ⟨b,ws,gs,rfl,M,hKb,hws⟩
        .simp only[List.length_nil,Nat.zero_add]at U;refine z7 a8 az @Bool.not_true @Bool.not_false U T4.obj @aQ ?_;refine qCR m [(0,.ref o 0),(2,.ref n 0),(3,.sl nx 0 1)] om sb ⟨_,_,_,_,rfl,bp,by simp,by omega,fun _=>⟨((TX.cell (.arr 6 [.agg [.str t.s,.int .i64 q.lo,.int .i64 q.hi,.bool q.left,.sl0,.int .i64 t.at']])).pos bq).sub (.cons _ (List.Sublist.refl _)),SR.push (ws:=[]) (gs:=[]) .nil ⟨.sl0,rfl,.nil,by simp⟩ (y1 @dG) ah rfl⟩⟩
        .have ba:=aN T4.lt M;have ci:n<=b:=hKb.1;have a1:=hws.length;have cj:n≠b:=fun e=>(by subst e;rw[T4.g1]at M;cases M);have ck:o≠b:=fun e=>hKb.2 (.inl e.symm);cases gs with
         |nil=>
          rw[List.append_nil]at M;refine u9 a8 az @Bool.not_true @Bool.not_false U T4.obj @aQ M a1 ?_;refine qCR m [(0,.ref o 0),(2,.ref n 0),(3,.sl nx 0 (Y.length+1))] om sb ⟨_,_,_,_,rfl,bp,by simp only[List.length_cons];omega,by omega,fun _=>⟨(((((TX.add1 (x:=.arr 6 ws) (y1 M) hKb (by simp;omega)).del1).cell (.arr 6 (ws++[(.agg [.str t.s,.int .i64 q.lo,.int .i64 q.hi,.bool q.left,.sl0,.int .i64 t.at'])]))).pos bq).sub (.cons _ (List.Sublist.refl _))),SR.push (gs:=[]) (hws.s10 (by(repeat' (first | exact iN.refl | refine iN.cons ?_ (y8 @bI @aY @bR M T4.obj au aw ax) | refine iN.put ?_ (y8 @bI @aY @bR M T4.obj au aw ax) | refine iN.del ?_ (y8 @bI @aY @bR M T4.obj au aw ax))))) ⟨.sl0,rfl,.nil,by simp⟩ (y1 @dG) ah rfl⟩⟩
         |cons g gs'=>
          have b8:List.take Y.length (ws++g::gs')=ws:=(by rw[<- a1,List.take_left]);have b5:List.drop (Y.length+1) (ws++g::gs')=gs':=(by rw[<- a1,List.drop_append];simp);have ae:(ws++g::gs').length=Y.length+(gs'.length+1):=(by simp[a1]);refine vW a8 az @Bool.not_true @Bool.not_false U T4.obj @aQ M ae b8 b5 ?_;refine qCR m [(0,.ref o 0),(2,.ref n 0),(3,.sl b 0 (Y.length+1))] om sb ⟨_,_,_,_,rfl,bp,by simp only[List.length_cons];omega,by omega,fun _=>⟨((((TX.add1 (x:=.arr 6 (ws++g::gs')) (y1 M) hKb (by simp;omega)).set1 (.arr 6 (ws++((.agg [.str t.s,.int .i64 q.lo,.int .i64 q.hi,.bool q.left,.sl0,.int .i64 t.at'])::gs')))).pos bq).sub (.cons _ (List.Sublist.refl _))),SR.push (gs:=gs') (hws.s10 (by(repeat' (first | exact iN.refl | refine iN.cons ?_ (y8 @bI @aY @bR M T4.obj au aw ax) | refine iN.put ?_ (y8 @bI @aY @bR M T4.obj au aw ax) | refine iN.del ?_ (y8 @bI @aY @bR M T4.obj au aw ax))))) ⟨.sl0,rfl,.nil,by simp⟩ (y1 @dG) hKb rfl⟩⟩
      .have a8:decide (t.kind=5)=false:=decide_eq_false (fun h=>c9 (.inl h));have az:decide (t.kind=4)=false:=decide_eq_false (fun h=>c9 (.inr h));have b0:ms=mC k Y s3:=cd.trans (by unfold wK;rw[hq];simp only[c9,if_false];rfl);refine eL.lt om fun nx br bu an=>?_;refine z4 a8 az @Bool.not_true @Bool.not_false ?_;exact qCt ⟨rfl,Y,a3,s3,_,by(repeat' (first | exact Env.sub.nil | refine Env.sub.cons rfl ?_)),b0,ar,by omega,fun a5=>⟨(((T4.newc (.cells iH.cells) (.cells t.cells)).newc (.cells [.int .i64 0,.int .i64 0,.bool false]) (.cells [.int .i64 q.lo,.int .i64 q.hi,.bool q.left])).sub (.cons _ (.cons _ (List.Sublist.refl _)))).nx om a5,(R4.same (bJ.newc (a:=iH.cells) (b:=t.cells) T4.lt)).same (bJ.newc (a:=[.int .i64 0,.int .i64 0,.bool false]) (b:=[.int .i64 q.lo,.int .i64 q.hi,.bool q.left]) (T4.newc (.cells iH.cells) (.cells t.cells)).lt)⟩⟩
   .intro ex E3 n3 h3 ed cb du;obtain⟨hex,Y,a3,s3,b3,co,bm,ar,e8,d1⟩:=du;subst hex;obtain⟨T3,R3⟩:=d1 cb;have e0:lk E3 0=some (.ref o 0):=co 0 _ rfl;have e2:lk E3 2=some (.ref n 0):=co 2 _ rfl;have e3:lk E3 3=some a3:=co 3 _ rfl;unfold mC at bm;refine z3 e0 e2 e3 ?_;refine qCK (T3.callP ((Mp k om).at T3.rep) bm ho (fun x4 s4 v4 n4 h4 dq cd dr df P4 T4=>?_) fun e he n2 h2 _ _=>by(refine zz ?_);exact qC9<|.err he);have R4:=R3.call cb P4;refine z3 e0 e2 e3 ?_;refine qCK (T4.callP (Mb k om n4 h4 dq s4 x4 v4 Y a3 T4.rep dr (R4.top om)) cd ho (fun x5 s5 v5 n5 h5 a4 b0 cu ee P5 T5=>?_) fun e he n2 h2 _ _=>by(refine zz ?_);exact qC9<|.err he);have R5:=R4.call T4.lt P5;obtain⟨ct,rfl,dx,dw,et⟩:=cu.shape;refine z5 e0 e2 e3 dx dw ?_;refine aA.str (T5.newc _ (.cells ct)) (R5.same (bJ.newc T5.lt)) fun ek d4 dp=>?_;refine qCK (St.readP (gO S 0 dc) d4 fun n6 h6 ef e6 T6=>?_);have bc:=b0.trans (P.ok_bind (x:=P.tok 0) rfl);have R6:=dp.quiet d4.lt e6;obtain⟨dz,cn⟩:=eF T5.rep 0;generalize ht:s5.token 0=t at *;refine z6 e0 e2 e3 @qBz @qB0 cn ?_;refine qCP [(4,11),(6,11),(7,11)] [] kr ?_;have cy:=T6.rep.inf;cases hq:find jI t.s with
    |none=>
     refine u7 e0 e2 e3 T6.obj cy @kF hq ?_;refine eL.lt om fun nx br bu an=>?_;have TY:=((T6.newc (.cells iH.cells) (.cells t.cells)).newc (.cells [.int .i64 0,.int .i64 0,.bool false,.bool false]) (.cells [.int .i64 0,.int .i64 0,.bool false,.bool false])).nx om an;have RY:=(R6.same (bJ.newc (a:=iH.cells) (b:=t.cells) T6.lt)).same (bJ.newc (a:=[.int .i64 0,.int .i64 0,.bool false,.bool false]) (b:=[.int .i64 0,.int .i64 0,.bool false,.bool false]) (T6.newc (.cells iH.cells) (.cells t.cells)).lt);refine z3 e0 e2 e3 ?_;have bj:Li t=false:=(by unfold Li;simp[hq,hq]);have bk:=TY.sub (.cons _ (.cons _ (List.Sublist.refl _)));refine qCQ (E0:=[(2,.ref n 0),(3,a3),(7,.ref n5 0),(10,.bool false)]) (fun m E nn hh=>∃(st7:List eI) (stv7:AV) (x7:eD) (cs7:List AV),E=[(2,.ref n 0),(3,stv7),(7,.ref n5 0),(10,.bool false)]/\eR false t.s (Mh t) Y x5=eR false t.s (Mh t) st7 x7/\st7.length=m/\st7.length<=1000000/\EO x7 (.agg cs7)/\n5+1<=nn/\
      (aE nn hh->St n h o pm im lv cv [(n5,.cells cs7),(n,.cells jX)] s5 nn hh a4/\SR hh (KS n o a4) st7 stv7)) Y.length ?_ ?_ ?_
     ·(repeat' (first | exact Env.sub.nil | refine Env.sub.cons (by first | rfl | exact e0 | exact e2 | exact e3) ?_))
     .exact⟨Y,a3,x5,ct,rfl,rfl,rfl,ar,cu,by omega,fun a5=>⟨bk,RY⟩⟩
     .rintro m E nn hh hlk hBk ⟨st7,stv7,x7,cs7,rfl,hap7,hlen7,hst7,ev7,hn7,TS7⟩;obtain⟨O,R7⟩:=TS7 hlk;obtain⟨bv,bg,a6,aa,bh⟩:=ev7.shape;cases bg;have ab:List.take 10 cs7=cs7:=List.take_of_length_le om;cases st7 with
      |nil=>
       have ce:ms=.ok (x7,s5):=bc.trans (by unfold pZ zX;rw[bj,hap7];rfl);rcases R7 with⟨rfl,_⟩ | ⟨b,ws,gs,rfl,M,hKb,hws⟩
       .refine x9 O.g1 O.g2 @qCH a6 aa bh ab @aD @Bool.not_false ?_;exact qC9<|(O.set2 _).ends (ce) (ev7)
       .refine x9 O.g1 O.g2 @qCH a6 aa bh ab @aD @Bool.not_false ?_;exact qC9<|(O.set2 _).ends (ce) (ev7)
      |cons w r=>
       rcases R7 with⟨_,b7⟩ | ⟨b,ws,gs,rfl,M,hKb,hws⟩
       .cases b7
       .have R7:SR hh (KS n o a4) (w::r) (.sl b 0 (w::r).length):=.inr ⟨b,ws,gs,rfl,M,hKb,hws⟩;cases hws with
        |cons e tl=>
        rename_i v' ws';obtain⟨lw,rfl,al,bi⟩:=e;have h1:=al.one;have a1:=tl.length;have ac:(ws'++[AV.agg [.str w.sign,.int .i64 w.op.lo,.int .i64 w.op.hi,.bool w.op.left,lw,.int .i64 w.at']]++gs)[r.length]?=some (.agg [.str w.sign,.int .i64 w.op.lo,.int .i64 w.op.hi,.bool w.op.left,lw,.int .i64 w.at']):=by
         rw[<- a1,List.append_assoc];simp
        simp only[List.length_cons]at hst7 hlen7;have ao:r.length+1-1=r.length:=rfl;refine x12 M ac h1 @dW @dX @dH ao @Bool.not_false O.g1 a6 aa ab ?_;have ba:=aN hlk M;have bd:n5≠b:=fun e=>(by subst e;rw[O.g1]at M;cases M);have ae:(ws'++[AV.agg [.str w.sign,.int .i64 w.op.lo,.int .i64 w.op.hi,.bool w.op.left,lw,.int .i64 w.at']]++gs).length=r.length+(1+gs.length):=(by simp[a1];omega);refine aA.stR (fun hX=>hX.get b=some (.arr 6 (ws'++[AV.agg [.str w.sign,.int .i64 w.op.lo,.int .i64 w.op.hi,.bool w.op.left,lw,.int .i64 w.at']]++gs))/\WS hX (KS n o a4) r ws'/\LR hX (KS n o a4) w.left lw) (O.newc _ (.cells [.str w.sign,.int .i64 w.op.lo,.int .i64 w.op.hi,.bool w.op.left,lw,.int .i64 w.at'])) ⟨y1 M,tl.s10 (iN.newc hlk),al.mono fun a xs hx hk=>⟨iN.newc hlk a xs hx,hk⟩⟩ fun hX T8 R8=>?_;obtain⟨a2,b2,ak⟩:=R8;refine qCK ((oM S (w:=w) (x:=x7) ak ev7 om fun v n8 h8 b9 aj b6 a7=>?_).mono (fun _ _ h=>h.elim) fun _ _ _ _ _ _ h=>h);have T9:=T8.quiet aj b6 a7;obtain⟨ag,rfl,c6,bz,dd⟩:=b9.shape;have cp:List.take 10 ag=ag:=List.take_of_length_le om;have c7:List.drop 10 cs7=[]:=List.drop_eq_nil_of_le om;have ap:=(a7 b om).trans a2;have cq:=b2.quiet T8.lt a7;refine u10 T9.g2 a6 c6 bz cp ap ae c7 ao @Nat.sub_zero ?_;refine qCR r.length [(2,.ref n 0),(3,.sl b 0 r.length),(7,.ref n5 0),(10,.bool false)] om sb ⟨r,_,_,ag,rfl,by rw[hap7];rfl,rfl,by omega,b9,by omega,fun a5=>⟨((T9.set2 (.cells ag)).sub (.cons _ (List.Sublist.refl _))).nx om a5,.inr ⟨b,ws',AV.agg [.str w.sign,.int .i64 w.op.lo,.int .i64 w.op.hi,.bool w.op.left,lw,.int .i64 w.at']::gs,rfl,by rw[qI _ _ _ _ bd,ap,List.append_assoc];rfl,hKb,cq.s10 (by(repeat' (first | exact iN.refl | refine iN.cons ?_ (y4 @bI @aY @bR T9.g2) | refine iN.put ?_ (y4 @bI @aY @bR T9.g2) | refine iN.del ?_ (y4 @bI @aY @bR T9.g2))))⟩⟩⟩
    |some q=>
     refine u8 e0 e2 e3 T6.obj cy @kF hq @Mg.eq_1 ?_;refine eL.lt om fun nx br bu an=>?_;have TY:=((T6.newc (.cells iH.cells) (.cells t.cells)).newc (.cells [.int .i64 0,.int .i64 0,.bool false,.bool false]) (.cells [.int .i64 q.lo,.int .i64 q.hi,.bool q.left,.bool q.defn])).nx om an;have RY:=(R6.same (bJ.newc (a:=iH.cells) (b:=t.cells) T6.lt)).same (bJ.newc (a:=[.int .i64 0,.int .i64 0,.bool false,.bool false]) (b:=[.int .i64 q.lo,.int .i64 q.hi,.bool q.left,.bool q.defn]) (T6.newc (.cells iH.cells) (.cells t.cells)).lt);have ej:n6+1<nx/\n<=n6+1:=TY.l1;by_cases k5:t.kind=5
     .have a8:decide (t.kind=5)=true:=decide_eq_true k5;refine z4 e0 e2 e3 a8 ?_;have bj:Li t=true:=(by unfold Li;simp[hq,a8]);have d2:Mh t=q:=(by unfold Mh;rw[hq];rfl);refine cR.cut (E0:=[(0,.ref o 0),(2,.ref n 0),(3,a3),(7,.ref n5 0),(8,.ref n6 0),(9,.ref (n6+1) 0),(10,.bool true)]) (fun ex E n7 h7=>(∃ e,ex=.pan (iY e)/\ms=.error e)\/(ex=.exit 4/\∃(st7:List eI) (stv7:AV) (x7:eD) (cs7:List AV),Env.sub [(0,.ref o 0),(2,.ref n 0),(3,stv7),(7,.ref n5 0),(8,.ref n6 0),(9,.ref (n6+1) 0),(10,.bool true)] E/\eR true t.s q Y x5=some (st7,x7)/\st7.length<=1000000/\EO x7 (.agg cs7)/\n6+2<=n7/\
        (aE n7 h7->St n h o pm im lv cv [(n6+1,.cells [.int .i64 q.lo,.int .i64 q.hi,.bool q.left,.bool q.defn]),(n6,.cells t.cells),(n5,.cells cs7),(n,.cells jX)] s5 n7 h7 a4/\SR h7 (KS n o a4) st7 stv7)))
       (fun m E nn hh=>∃(st7:List eI) (stv7:AV) (x7:eD) (cs7:List AV),E=[(0,.ref o 0),(2,.ref n 0),(3,stv7),(7,.ref n5 0),(8,.ref n6 0),(9,.ref (n6+1) 0),(10,.bool true)]/\eR true t.s q Y x5=eR true t.s q st7 x7/\st7.length=m/\st7.length<=1000000/\EO x7 (.agg cs7)/\n6+2<=nn/\
        (aE nn hh->St n h o pm im lv cv [(n6+1,.cells [.int .i64 q.lo,.int .i64 q.hi,.bool q.left,.bool q.defn]),(n6,.cells t.cells),(n5,.cells cs7),(n,.cells jX)] s5 nn hh a4/\SR hh (KS n o a4) st7 stv7)) Y.length ?_ ⟨Y,a3,x5,ct,rfl,rfl,rfl,ar,cu,by omega,fun a5=>⟨TY,RY⟩⟩ ?_ ?_
      ·(repeat' (first | exact Env.sub.nil | refine Env.sub.cons (by first | rfl | exact e0 | exact e2 | exact e3) ?_))
      .rintro m E nn hh hlk hBk ⟨st7,stv7,x7,cs7,rfl,hap7,hlen7,hst7,ev7,hn7,TS7⟩;obtain⟨O,R7⟩:=TS7 hlk;obtain⟨bv,bg,a6,aa,bh⟩:=ev7.shape;cases bg;have ab:List.take 10 cs7=cs7:=List.take_of_length_le om;cases st7 with
       |nil=>
        have ad:eR true t.s q Y x5=some ([],x7):=hap7.trans rfl;have d8:=R7;rcases R7 with⟨rfl,_⟩ | ⟨b,ws,gs,rfl,M,hKb,hws⟩
        .refine zz ?_;exact qCt (.inr ⟨rfl,[],_,x7,cs7,by(repeat' (first | exact Env.sub.nil | refine Env.sub.cons rfl ?_)),ad,by simp,ev7,hn7,fun a5=>⟨O,d8⟩⟩)
        .refine xx ?_;exact qCt (.inr ⟨rfl,[],_,x7,cs7,by(repeat' (first | exact Env.sub.nil | refine Env.sub.cons rfl ?_)),ad,by simp,ev7,hn7,fun a5=>⟨O,d8⟩⟩)
       |cons w r=>
        rcases R7 with⟨_,b7⟩ | ⟨b,ws,gs,rfl,M,hKb,hws⟩
        .cases b7
        .cases hws with
         |cons e tl=>
         rename_i v' ws';obtain⟨lw,rfl,al,bi⟩:=e;have h1:=al.one;have a1:=tl.length;have ac:(ws'++[AV.agg [.str w.sign,.int .i64 w.op.lo,.int .i64 w.op.hi,.bool w.op.left,lw,.int .i64 w.at']]++gs)[r.length]?=some (.agg [.str w.sign,.int .i64 w.op.lo,.int .i64 w.op.hi,.bool w.op.left,lw,.int .i64 w.at']):=by
          rw[<- a1,List.append_assoc];simp
         simp only[List.length_cons]at hst7 hlen7;have ao:r.length+1-1=r.length:=rfl;refine TF M ac h1 @dW @dX @dH ao @Bool.not_true O.g1 O.g2 @qB0 ?_;have ba:=aN hlk M;have bd:n5≠b:=fun e=>(by subst e;rw[O.g3]at M;cases M);have ae:(ws'++[AV.agg [.str w.sign,.int .i64 w.op.lo,.int .i64 w.op.hi,.bool w.op.left,lw,.int .i64 w.at']]++gs).length=r.length+(1+gs.length):=(by simp[a1];omega);refine aA.stR (fun hX=>hX.get b=some (.arr 6 (ws'++[AV.agg [.str w.sign,.int .i64 w.op.lo,.int .i64 w.op.hi,.bool w.op.left,lw,.int .i64 w.at']]++gs))/\WS hX (KS n o a4) r ws'/\LR hX (KS n o a4) w.left lw) (O.newc _ (.cells [.str w.sign,.int .i64 w.op.lo,.int .i64 w.op.hi,.bool w.op.left,lw,.int .i64 w.at'])) ⟨y1 M,tl.s10 (iN.newc hlk),al.mono fun a xs hx hk=>⟨iN.newc hlk a xs hx,hk⟩⟩ fun hX T8 R8=>?_;obtain⟨a2,b2,ak⟩:=R8;refine qCK ((Tm S (w:=w) (sg:=t.s) (q:=q) ak.len fun n8 h8 aj b6 a7=>?_).mono (fun _ _ h=>h.elim) fun _ _ _ _ _ _ h=>h);have cz:=T8.lt;have T8:=T8.quiet aj b6 a7;have a2:=(a7 b om).trans a2;have b2:=b2.quiet cz a7;have ak:LR h8 (KS n o a4) w.left lw:=ak.mono fun a xs hx hk=>⟨(a7 a (aN cz hx)).trans hx,hk⟩;cases hb:w.tighter t.s q with
         |true=>
          refine Pe hb T8.g1 T8.g4 h1 @dW @dX @dH a6 aa ab ?_;refine qCK ((oM S (w:=w) (x:=x7) ak ev7 om fun v n8 h8 b9 aj b6 a7=>?_).mono (fun _ _ h=>h.elim) fun _ _ _ _ _ _ h=>h);have T9:=T8.quiet aj b6 a7;obtain⟨ag,rfl,c6,bz,dd⟩:=b9.shape;have cp:List.take 10 ag=ag:=List.take_of_length_le om;have c7:List.drop 10 cs7=[]:=List.drop_eq_nil_of_le om;have ap:=(a7 b om).trans a2;have cq:=b2.quiet T8.lt a7;refine u10 T9.g4 a6 c6 bz cp ap ae c7 ao @Nat.sub_zero ?_;refine qCR r.length [(0,.ref o 0),(2,.ref n 0),(3,.sl b 0 r.length),(7,.ref n5 0),(8,.ref n6 0),(9,.ref (n6+1) 0),(10,.bool true)] om sb ⟨r,_,_,ag,rfl,by rw[hap7,eR];simp[hb],rfl,by omega,b9,by omega,fun a5=>⟨((T9.set4 (.cells ag)).sub (.cons _ (List.Sublist.refl _))).nx om a5,.inr ⟨b,ws',AV.agg [.str w.sign,.int .i64 w.op.lo,.int .i64 w.op.hi,.bool w.op.left,lw,.int .i64 w.at']::gs,rfl,by rw[qI _ _ _ _ bd,ap,List.append_assoc];rfl,hKb,cq.s10 (by(repeat' (first | exact iN.refl | refine iN.cons ?_ (y4 @bI @aY @bR T9.g4) | refine iN.put ?_ (y4 @bI @aY @bR T9.g4) | refine iN.del ?_ (y4 @bI @aY @bR T9.g4))))⟩⟩⟩
         |false=>
          have d9:SR h8 (KS n o a4) (w::r) (.sl b 0 (r.length+1)):=.inr ⟨b,ws'++[AV.agg [.str w.sign,.int .i64 w.op.lo,.int .i64 w.op.hi,.bool w.op.left,lw,.int .i64 w.at']],gs,rfl,a2,hKb,.cons ⟨lw,rfl,ak,bi⟩ b2⟩;by_cases bl:w.op.hi<q.lo
          .have ad:eR true t.s q Y x5=some (w::r,x7):=hap7.trans (by rw[eR];simp[hb,bl]);refine z6 hb T8.g1 T8.g2 T8.g3 @qB0 bl ?_;exact qCt (.inr ⟨rfl,w::r,_,x7,cs7,by(repeat' (first | exact Env.sub.nil | refine Env.sub.cons rfl ?_)),ad,by simp only[List.length_cons];omega,ev7,by omega,fun a5=>⟨T8.sub (.cons _ (List.Sublist.refl _)),d9⟩⟩)
          .cases ai:w.sign==[92,88] with
           |true=>
            cases b4:t.s==[92,88] with
            |true=>
             have ad:eR true t.s q Y x5=some (w::r,x7):=hap7.trans (by
              rw[eR];simp only[Bool.not_true,Bool.false_or,hb,Bool.false_eq_true,if_false];rw[if_pos (.inr ⟨eq_of_beq ai,eq_of_beq b4⟩)])
             refine z7 hb T8.g1 T8.g2 T8.g3 @qB0 ai b4 ?_;exact qCt (.inr ⟨rfl,w::r,_,x7,cs7,by(repeat' (first | exact Env.sub.nil | refine Env.sub.cons rfl ?_)),ad,by simp only[List.length_cons];omega,ev7,by omega,fun a5=>⟨T8.sub (.cons _ (List.Sublist.refl _)),d9⟩⟩)
            |false=>
             have b7:¬t.s=[92,88]:=(by simpa using b4);have ad:eR true t.s q Y x5=none:=hap7.trans (by
              rw[eR];simp only[Bool.not_true,Bool.false_or,hb,Bool.false_eq_true,if_false];rw[if_neg (by
               rintro (h | ⟨h1,h2⟩)
               .exact bl h
               .exact b7 h2)])
             refine z8 hb T8.g1 T8.g2 T8.g3 @qB0 T8.obj ai b4 ?_;exact qCt (.inl ⟨⟨31,s5.pos⟩,rfl,bc.trans (by unfold pZ;rw[bj,d2,ad];rfl)⟩)
           |false=>
            have b7:¬w.sign=[92,88]:=(by simpa using ai);have ad:eR true t.s q Y x5=none:=hap7.trans (by
             rw[eR];simp only[Bool.not_true,Bool.false_or,hb,Bool.false_eq_true,if_false];rw[if_neg (by
              rintro (h | ⟨h1,h2⟩)
              .exact bl h
              .exact b7 h1)])
            refine z8 hb T8.g1 T8.g2 T8.g3 @qB0 T8.obj ai ai ?_;exact qCt (.inl ⟨⟨31,s5.pos⟩,rfl,bc.trans (by unfold pZ;rw[bj,d2,ad];rfl)⟩)
      .intro ex E9 n7 h7 eg cc dv;rcases dv with⟨e,rfl,hmE⟩ | ⟨rfl,st7,stv7,x7,cs7,hsub9,hap9,hst7,ev7,hn7,TS9⟩
       .refine zz ?_;exact qC9<|.err hmE
       .obtain⟨O,R7⟩:=TS9 cc;have f0:lk E9 0=some (.ref o 0):=hsub9 0 _ rfl;have f2:lk E9 2=some (.ref n 0):=hsub9 2 _ rfl;have f3:lk E9 3=some stv7:=hsub9 3 _ rfl;have f7:lk E9 7=some (.ref n5 0):=hsub9 7 _ rfl;have f8:lk E9 8=some (.ref n6 0):=hsub9 8 _ rfl;have f9:lk E9 9=some (.ref (n6+1) 0):=hsub9 9 _ rfl;have oU:lk E9 10=some (.bool true):=hsub9 10 _ rfl;obtain⟨bv,bg,a6,aa,bh⟩:=ev7.shape;cases bg;have ab:List.take 10 cs7=cs7:=List.take_of_length_le om;have di:ms=(P.step 1 >>= fun _=>P.fits st7.length >>= fun _=>P.fits (Jd st7) >>= fun _=>gU k (Sq st7 t q x7)) s5:=bc.trans (by unfold pZ zX;rw[bj,d2,hap9];rfl);obtain⟨be,e9⟩:=cJ (fun hc=>ho (di.trans hc));have dj:=di.trans (P.ok_bind e9);obtain⟨eu,e1⟩:=Az (fun hc=>ho (dj.trans hc));have dk:=dj.trans (P.ok_bind e1);obtain⟨e4,e5⟩:=Az (fun hc=>ho (dk.trans hc));have cw:=dk.trans (P.ok_bind e5);have eo:=O.rep.len;rcases R7 with⟨rfl,rfl⟩ | ⟨b,ws,gs,rfl,M,hKb,hws⟩
        .have U:=aM 1 72 om om;refine TA f0 @f2 @f3 @f7 @f8 @f9 @oU @Bool.not_true O.obj @aQ O.g1 (And.intro O.g2 (And.intro O.g3 (And.intro @qB0 (And.intro a6 (And.intro aa (And.intro ab U)))))) ?_;have a9:=(O.cell (.arr 6 [])).hold (n7,.arr 6 []) sm;refine qCR k [(0,.ref o 0),(2,.ref n 0),(3,.sl n7 0 1)] om (by(repeat' (first | exact Env.sub.nil | refine Env.sub.cons (by first | rfl | exact f0 | exact f2) ?_))) ⟨[⟨t.s,q,[x7],t.at'⟩],_,_,_,rfl,cw,by omega,by simp,by omega,fun _=>⟨((O.pos be).cell (.arr 6 [AV.agg [.str t.s,.int .i64 q.lo,.int .i64 q.hi,.bool q.left,.vec [.agg cs7] 10 true,.int .i64 t.at']])).sub (.cons _ (.cons _ (.cons _ (.cons _ (List.Sublist.refl _))))),SR.push (ws:=[]) (gs:=[]) .nil ⟨.vec [.agg cs7] 10 true,rfl,.vec (.cons ev7 .nil) sm,by simp⟩ (zc) ⟨by omega,a9.2.1⟩ rfl⟩⟩
        .generalize hLL:st7.length=L at *;by_cases dt:L=0
         .have db:decide (0<L)=false:=decide_eq_false om;have b1:ms=gU k (⟨t.s,q,[x7],t.at'⟩::st7) {s5 with pos:=s5.pos+1}:=cw.trans (by cases st7 with | nil=>rfl | cons w r=>simp only[List.length_cons]at hLL;omega);have a1:=hws.length;rw[hLL]at a1;have ci:n<=b:=hKb.1;have cj:n≠b:=fun e=>(by subst e;rw[O.g4]at M;cases M);have cf:n5≠b:=fun e=>(by subst e;rw[O.g3]at M;cases M);have cg:n6≠b:=fun e=>(by subst e;rw[O.g2]at M;cases M);have ch:n6+1≠b:=fun e=>(by subst e;rw[O.g1]at M;cases M);have ck:o≠b:=fun e=>hKb.2 (.inl e.symm);have ba:=aN cc M;have U:=aM (L+1) 72 om om;have ay:=O.sub (.cons _ (.cons _ (.cons _ (List.Sublist.refl _))));have a9:=(ay.cell (.arr 6 [])).hold (n7,.arr 6 []) sm;have ah:KS n o a4 n7:=⟨by omega,a9.2.1⟩;have hz:h7.get n7=none:=O.lt n7 (Nat.le_refl _);cases gs with
          |nil=>
           rw[List.append_nil]at M
           try rw[List.append_nil]at ac
           refine rP f0 @f2 @f3 @f7 @f8 @f9 @oU @Bool.not_true O.obj @aQ O.g1 (And.intro O.g2 (And.intro O.g3 (And.intro @qB0 (And.intro a6 (And.intro aa (And.intro ab (And.intro U (And.intro M (And.intro a1 db))))))))) ?_;refine qCR k [(0,.ref o 0),(2,.ref n 0),(3,.sl n7 0 (L+1))] om (by(repeat' (first | exact Env.sub.nil | refine Env.sub.cons (by first | rfl | exact f0 | exact f2) ?_))) ⟨⟨t.s,q,[x7],t.at'⟩::st7,_,_,_,rfl,b1,by omega,by simp only[List.length_cons];omega,by omega,fun _=>⟨((((ay.pos be).add1 (x:=.arr 6 ws) (y1 M) hKb (by simp;omega)).del1).cell (.arr 6 (ws++[(AV.agg [.str t.s,.int .i64 q.lo,.int .i64 q.hi,.bool q.left,.vec [.agg cs7] 10 true,.int .i64 t.at'])]))).sub (.cons _ (List.Sublist.refl _)),SR.push (gs:=[]) (hws.s10 (by(repeat' (first | exact iN.refl | refine iN.cons ?_ (y6 @bI @aY @bR M O.obj hz) | refine iN.put ?_ (y6 @bI @aY @bR M O.obj hz) | refine iN.del ?_ (y6 @bI @aY @bR M O.obj hz))))) ⟨.vec [.agg cs7] 10 true,rfl,.vec (.cons ev7 .nil) sm,by simp⟩ (y1 @dG) ah (by rw[hLL])⟩⟩
          |cons g gs'=>
           have b8:List.take L (ws++g::gs')=ws:=(by rw[<- a1,List.take_left]);have b5:List.drop (L+1) (ws++g::gs')=gs':=(by rw[<- a1,List.drop_append];simp);have ae:(ws++g::gs').length=L+(gs'.length+1):=(by simp[a1]);refine Bg f0 @f2 @f3 @f7 @f8 @f9 @oU @Bool.not_true O.obj @aQ O.g1 (And.intro O.g2 (And.intro O.g3 (And.intro @qB0 (And.intro a6 (And.intro aa (And.intro ab (And.intro U (And.intro M (And.intro ae (And.intro b8 (And.intro b5 db))))))))))) ?_;refine qCR k [(0,.ref o 0),(2,.ref n 0),(3,.sl b 0 (L+1))] om (by(repeat' (first | exact Env.sub.nil | refine Env.sub.cons (by first | rfl | exact f0 | exact f2) ?_))) ⟨⟨t.s,q,[x7],t.at'⟩::st7,_,_,_,rfl,b1,by omega,by simp only[List.length_cons];omega,by omega,fun a5=>⟨(((ay.pos be).add1 (x:=.arr 6 (ws++g::gs')) (y1 M) hKb (by simp;omega)).set1 (.arr 6 (ws++((AV.agg [.str t.s,.int .i64 q.lo,.int .i64 q.hi,.bool q.left,.vec [.agg cs7] 10 true,.int .i64 t.at'])::gs')))).sub (.cons _ (List.Sublist.refl _)),SR.push (gs:=gs') (hws.s10 (by(repeat' (first | exact iN.refl | refine iN.cons ?_ (y6 @bI @aY @bR M O.obj hz) | refine iN.put ?_ (y6 @bI @aY @bR M O.obj hz) | refine iN.del ?_ (y6 @bI @aY @bR M O.obj hz))))) ⟨.vec [.agg cs7] 10 true,rfl,.vec (.cons ev7 .nil) sm,by simp⟩ (y1 @dG) hKb (by rw[hLL])⟩⟩
         .obtain⟨w,r,rfl⟩:∃ w r,st7=w::r:=by
           cases st7 with
           |nil=>exact absurd hLL.symm dt
           |cons w r=>exact⟨w,r,rfl⟩
          have c5:decide (0<L)=true:=decide_eq_true om;obtain⟨ws',lw,hwe,al,bi,tl⟩:∃ ws' lw,ws=ws'++[AV.agg [.str w.sign,.int .i64 w.op.lo,.int .i64 w.op.hi,.bool w.op.left,lw,.int .i64 w.at']]/\LR h7 (KS n o a4) w.left lw/\w.left.length<=1000000/\WS h7 (KS n o a4) r ws':=by
           cases hws with
           |cons e tl=>
            obtain⟨lw,rfl,al,bi⟩:=e;exact⟨_,lw,rfl,al,bi,tl⟩
          have h1:=al.one;have eK:=tl.length;have d7:r.length+1=L:=hLL;have ac:(ws++gs)[L-1]?=some (.agg [.str w.sign,.int .i64 w.op.lo,.int .i64 w.op.hi,.bool w.op.left,lw,.int .i64 w.at']):=by
           rw[hwe,List.append_assoc,show L-1=ws'.length by omega];simp
          by_cases bw:w.sign=[92,88]/\t.s=[92,88]
          .have b1:ms=gU k ({w with left:=w.left++[x7]}::r) {s5 with pos:=s5.pos+1}:=cw.trans (by show gU k (if w.sign=[92,88]/\t.s=[92,88] then {w with left:=w.left++[x7]}::r else ⟨t.s,q,[x7],t.at'⟩::w::r) _=_;rw[if_pos bw]);have ai:(w.sign==[92,88])=true:=(by rw[bw.1];rfl);have b4:(t.s==[92,88])=true:=(by rw[bw.2];rfl);have ci:n<=b:=hKb.1;have cj:n≠b:=fun e=>(by subst e;rw[O.g4]at M;cases M);have cf:n5≠b:=fun e=>(by subst e;rw[O.g3]at M;cases M);have cg:n6≠b:=fun e=>(by subst e;rw[O.g2]at M;cases M);have ch:n6+1≠b:=fun e=>(by subst e;rw[O.g1]at M;cases M);have ck:o≠b:=fun e=>hKb.2 (.inl e.symm);have ba:=aN cc M;refine Bg f0 @f2 @f3 @f7 @f8 @f9 @oU @Bool.not_true O.obj @aQ O.g1 (And.intro O.g2 (And.intro O.g3 (And.intro @qB0 (And.intro M (And.intro c5 (And.intro ac (And.intro ai (And.intro b4 (And.intro h1 (And.intro @dW (And.intro @dX @dH))))))))))) ?_;refine qCP [(9,10)] [ (9,10),(9,11)] kr ?_;refine Bg f0 @f2 @f3 @f7 @f8 @f9 @oU O.obj @aQ O.g1 O.g2 (And.intro O.g3 (And.intro M (And.intro ac (And.intro h1 (And.intro @dW (And.intro @dX @dH)))))) ?_;refine aZ.stR (fun hX=>hX.get b=some (.arr 6 (ws++gs))/\WS hX (KS n o a4) r ws'/\LR hX (KS n o a4) w.left lw) (O.pos be) ⟨y1 M,tl.s10 (by(repeat' (first | exact iN.refl | refine iN.cons ?_ (y4 @bI @aY @bR O.obj) | refine iN.put ?_ (y4 @bI @aY @bR O.obj) | refine iN.del ?_ (y4 @bI @aY @bR O.obj)))),al.mono fun a xs hx hk=>⟨iN.refl.put (y2 @aY O.obj) a xs hx,hk⟩⟩ fun hX TP R8=>?_;obtain⟨cx,dn,dh⟩:=R8;refine qCN (fun _=>False) (fun _ _ h=>h.elim) (EP S hk9 dh bi fun v n8 h8 aj b6 a7 ea=>?_);have T8:=TP.quiet aj b6 a7;have a2:=(a7 b om).trans cx;have b2:=dn.quiet TP.lt a7;have U:=aM (w.left.length+1) 120 om om;have d0:∀ y,(ws++gs).set (L-1) y=(ws'++[y])++gs:=fun y=>by
            rw[hwe,List.append_assoc,show L-1=ws'.length by omega];simp
           have a9:=(T8.cell (.arr 10 [])).hold (n8,.arr 10 []) sm;have ah:KS n o a4 n8:=⟨by omega,a9.2.1⟩;have ec:w.left.length<1000000:=e4;have eh:n8≠b:=om;have hz:h8.get n8=none:=T8.lt n8 (Nat.le_refl _);have d5:=(T8.sub (.cons _ (.cons _ (.cons _ (List.Sublist.refl _))))).add1 a2 hKb (by simp;omega);rcases ea with⟨hnil,rfl⟩ | ⟨bb,xs,rfl,da,c8,hev⟩
           .simp only[hnil,List.length_nil]at U;refine Bg f0 @f2 @f3 @f7 @f8 @f9 @oU T8.obj @aQ T8.g1 T8.g2 (And.intro T8.g3 (And.intro a2 (And.intro ac (And.intro h1 (And.intro @dW (And.intro @dX (And.intro @dH (And.intro a6 (And.intro aa (And.intro ab U)))))))))) ?_;refine eL.lt om fun nx br bu an=>?_;refine z1 @zC ?_;refine qCR k [(0,.ref o 0),(2,.ref n 0),(3,.sl b 0 L)] om (by(repeat' (first | exact Env.sub.nil | refine Env.sub.cons (by first | rfl | exact f0 | exact f2 | exact f3) ?_))) ⟨{w with left:=w.left++[x7]}::r,_,_,_,rfl,b1,by omega,by simp only[List.length_cons]at hst7 ⊢;omega,by omega,fun _=>⟨(((d5.cell (.arr 10 [.agg cs7])).set2 (.arr 6 ((ws++gs).set (L-1) (.agg [.str w.sign,.int .i64 w.op.lo,.int .i64 w.op.hi,.bool w.op.left,.sl n8 0 1,.int .i64 w.at'])))).sub (.cons _ (.cons _ (List.Sublist.refl _)))).nx om an,.inr ⟨b,ws'++[.agg [.str w.sign,.int .i64 w.op.lo,.int .i64 w.op.hi,.bool w.op.left,.sl n8 0 1,.int .i64 w.at']],gs,by simp only[List.length_cons];rw[d7],y2 a2 d0,hKb,.cons ⟨_,rfl,by rw[hnil];exact .arr (l:=[x7]) (y1 a2) ah (.cons ev7 .nil) sm,by simp;omega⟩ (b2.s10 (by(repeat' (first | exact iN.refl | refine iN.cons ?_ (y5 @bI @aY @bR a2 hz) | refine iN.put ?_ (y5 @bI @aY @bR a2 hz) | refine iN.del ?_ (y5 @bI @aY @bR a2 hz)))))⟩⟩⟩
           .have an:=hev.length;have d3:=((TP.nx (nx:=bb) om (fun t ht=>TP.lt t om)).cell (.arr 10 [])).hold (bb,.arr 10 []) sm;have d6:KS n o a4 bb:=⟨by omega,d3.2.1⟩;refine rP f0 @f2 @f3 @f7 @f8 @f9 @oU T8.obj @aQ T8.g1 T8.g2 (And.intro T8.g3 (And.intro a2 (And.intro c8 (And.intro an (And.intro ac (And.intro h1 (And.intro @dW (And.intro @dX (And.intro @dH (And.intro a6 (And.intro aa (And.intro ab U)))))))))))) ?_;refine eL.lt om fun nx br bu an=>?_;refine z1 @zC ?_;refine qCR k [(0,.ref o 0),(2,.ref n 0),(3,.sl b 0 L)] om (by(repeat' (first | exact Env.sub.nil | refine Env.sub.cons (by first | rfl | exact f0 | exact f2 | exact f3) ?_))) ⟨{w with left:=w.left++[x7]}::r,_,_,_,rfl,b1,by omega,by simp only[List.length_cons]at hst7 ⊢;omega,by omega,fun _=>⟨((((d5.add1 c8 d6 (by simp;omega)).del1.cell (.arr 10 (xs++[.agg cs7]))).set2 (.arr 6 ((ws++gs).set (L-1) (.agg [.str w.sign,.int .i64 w.op.lo,.int .i64 w.op.hi,.bool w.op.left,.sl n8 0 (w.left.length+1),.int .i64 w.at'])))).sub (.cons _ (.cons _ (List.Sublist.refl _)))).nx om an,.inr ⟨b,ws'++[.agg [.str w.sign,.int .i64 w.op.lo,.int .i64 w.op.hi,.bool w.op.left,.sl n8 0 (w.left.length+1),.int .i64 w.at']],gs,by simp only[List.length_cons];rw[d7],y2 a2 d0,hKb,.cons ⟨_,rfl,by rw[show w.left.length+1=(w.left++[x7]).length by simp];exact .arr (l:=w.left++[x7]) (y2 a2 c8) ah (hev.append (.cons ev7 .nil)) sm,by simp;omega⟩ (dn.mono fun a eX hx hk=>⟨by have bl:=aN TP.lt hx;have ep:a≠b:=(by rintro rfl;rw[cx]at hx;cases hx);have eb:=(a7 a bl).trans hx;exact y2 eb a2,hk⟩)⟩⟩⟩
          .have b1:ms=gU k (⟨t.s,q,[x7],t.at'⟩::w::r) {s5 with pos:=s5.pos+1}:=cw.trans (by show gU k (if w.sign=[92,88]/\t.s=[92,88] then {w with left:=w.left++[x7]}::r else ⟨t.s,q,[x7],t.at'⟩::w::r) _=_;rw[if_neg bw]);have da:(w.sign==[92,88])=false\/((w.sign==[92,88])=true/\(t.s==[92,88])=false):=by
            by_cases hw:w.sign=[92,88]
            .exact .inr ⟨by rw[hw];rfl,by simpa using fun h=>bw ⟨hw,h⟩⟩
            .exact .inl (by simpa using hw)
           rcases da with ai | ⟨ai,b4⟩
           .have a1:=hws.length;rw[hLL]at a1;have ci:n<=b:=hKb.1;have cj:n≠b:=fun e=>(by subst e;rw[O.g4]at M;cases M);have cf:n5≠b:=fun e=>(by subst e;rw[O.g3]at M;cases M);have cg:n6≠b:=fun e=>(by subst e;rw[O.g2]at M;cases M);have ch:n6+1≠b:=fun e=>(by subst e;rw[O.g1]at M;cases M);have ck:o≠b:=fun e=>hKb.2 (.inl e.symm);have ba:=aN cc M;have U:=aM (L+1) 72 om om;have ay:=O.sub (.cons _ (.cons _ (.cons _ (List.Sublist.refl _))));have a9:=(ay.cell (.arr 6 [])).hold (n7,.arr 6 []) sm;have ah:KS n o a4 n7:=⟨by omega,a9.2.1⟩;have hz:h7.get n7=none:=O.lt n7 (Nat.le_refl _);cases gs with
            |nil=>
             rw[List.append_nil]at M
             try rw[List.append_nil]at ac
             refine rP f0 @f2 @f3 @f7 @f8 @f9 @oU @Bool.not_true O.obj @aQ O.g1 (And.intro O.g2 (And.intro O.g3 (And.intro @qB0 (And.intro a6 (And.intro aa (And.intro ab (And.intro U (And.intro M (And.intro a1 (And.intro c5 (And.intro ac (And.intro ai (And.intro h1 (And.intro @dW (And.intro @dX @dH))))))))))))))) ?_;refine qCR k [(0,.ref o 0),(2,.ref n 0),(3,.sl n7 0 (L+1))] om (by(repeat' (first | exact Env.sub.nil | refine Env.sub.cons (by first | rfl | exact f0 | exact f2) ?_))) ⟨⟨t.s,q,[x7],t.at'⟩::(w::r),_,_,_,rfl,b1,by omega,by simp only[List.length_cons];omega,by omega,fun _=>⟨((((ay.pos be).add1 (x:=.arr 6 ws) (y1 M) hKb (by simp;omega)).del1).cell (.arr 6 (ws++[(AV.agg [.str t.s,.int .i64 q.lo,.int .i64 q.hi,.bool q.left,.vec [.agg cs7] 10 true,.int .i64 t.at'])]))).sub (.cons _ (List.Sublist.refl _)),SR.push (gs:=[]) (hws.s10 (by(repeat' (first | exact iN.refl | refine iN.cons ?_ (y6 @bI @aY @bR M O.obj hz) | refine iN.put ?_ (y6 @bI @aY @bR M O.obj hz) | refine iN.del ?_ (y6 @bI @aY @bR M O.obj hz))))) ⟨.vec [.agg cs7] 10 true,rfl,.vec (.cons ev7 .nil) sm,by simp⟩ (y1 @dG) ah (by rw[hLL])⟩⟩
            |cons g gs'=>
             have b8:List.take L (ws++g::gs')=ws:=(by rw[<- a1,List.take_left]);have b5:List.drop (L+1) (ws++g::gs')=gs':=(by rw[<- a1,List.drop_append];simp);have ae:(ws++g::gs').length=L+(gs'.length+1):=(by simp[a1]);refine Bg f0 @f2 @f3 @f7 @f8 @f9 @oU @Bool.not_true O.obj @aQ O.g1 (And.intro O.g2 (And.intro O.g3 (And.intro @qB0 (And.intro a6 (And.intro aa (And.intro ab (And.intro U (And.intro M (And.intro ae (And.intro b8 (And.intro b5 (And.intro c5 (And.intro ac (And.intro ai (And.intro h1 (And.intro @dW (And.intro @dX @dH))))))))))))))))) ?_;refine qCR k [(0,.ref o 0),(2,.ref n 0),(3,.sl b 0 (L+1))] om (by(repeat' (first | exact Env.sub.nil | refine Env.sub.cons (by first | rfl | exact f0 | exact f2) ?_))) ⟨⟨t.s,q,[x7],t.at'⟩::(w::r),_,_,_,rfl,b1,by omega,by simp only[List.length_cons];omega,by omega,fun a5=>⟨(((ay.pos be).add1 (x:=.arr 6 (ws++g::gs')) (y1 M) hKb (by simp;omega)).set1 (.arr 6 (ws++((AV.agg [.str t.s,.int .i64 q.lo,.int .i64 q.hi,.bool q.left,.vec [.agg cs7] 10 true,.int .i64 t.at'])::gs')))).sub (.cons _ (List.Sublist.refl _)),SR.push (gs:=gs') (hws.s10 (by(repeat' (first | exact iN.refl | refine iN.cons ?_ (y6 @bI @aY @bR M O.obj hz) | refine iN.put ?_ (y6 @bI @aY @bR M O.obj hz) | refine iN.del ?_ (y6 @bI @aY @bR M O.obj hz))))) ⟨.vec [.agg cs7] 10 true,rfl,.vec (.cons ev7 .nil) sm,by simp⟩ (y1 @dG) hKb (by rw[hLL])⟩⟩
           .have a1:=hws.length;rw[hLL]at a1;have ci:n<=b:=hKb.1;have cj:n≠b:=fun e=>(by subst e;rw[O.g4]at M;cases M);have cf:n5≠b:=fun e=>(by subst e;rw[O.g3]at M;cases M);have cg:n6≠b:=fun e=>(by subst e;rw[O.g2]at M;cases M);have ch:n6+1≠b:=fun e=>(by subst e;rw[O.g1]at M;cases M);have ck:o≠b:=fun e=>hKb.2 (.inl e.symm);have ba:=aN cc M;have U:=aM (L+1) 72 om om;have ay:=O.sub (.cons _ (.cons _ (.cons _ (List.Sublist.refl _))));have a9:=(ay.cell (.arr 6 [])).hold (n7,.arr 6 []) sm;have ah:KS n o a4 n7:=⟨by omega,a9.2.1⟩;have hz:h7.get n7=none:=O.lt n7 (Nat.le_refl _);cases gs with
            |nil=>
             rw[List.append_nil]at M
             try rw[List.append_nil]at ac
             refine rP f0 @f2 @f3 @f7 @f8 @f9 @oU @Bool.not_true O.obj @aQ O.g1 (And.intro O.g2 (And.intro O.g3 (And.intro @qB0 (And.intro a6 (And.intro aa (And.intro ab (And.intro U (And.intro M (And.intro a1 (And.intro c5 (And.intro ac (And.intro ai (And.intro b4 (And.intro h1 (And.intro @dW (And.intro @dX @dH)))))))))))))))) ?_;refine qCR k [(0,.ref o 0),(2,.ref n 0),(3,.sl n7 0 (L+1))] om (by(repeat' (first | exact Env.sub.nil | refine Env.sub.cons (by first | rfl | exact f0 | exact f2) ?_))) ⟨⟨t.s,q,[x7],t.at'⟩::(w::r),_,_,_,rfl,b1,by omega,by simp only[List.length_cons];omega,by omega,fun _=>⟨((((ay.pos be).add1 (x:=.arr 6 ws) (y1 M) hKb (by simp;omega)).del1).cell (.arr 6 (ws++[(AV.agg [.str t.s,.int .i64 q.lo,.int .i64 q.hi,.bool q.left,.vec [.agg cs7] 10 true,.int .i64 t.at'])]))).sub (.cons _ (List.Sublist.refl _)),SR.push (gs:=[]) (hws.s10 (by(repeat' (first | exact iN.refl | refine iN.cons ?_ (y6 @bI @aY @bR M O.obj hz) | refine iN.put ?_ (y6 @bI @aY @bR M O.obj hz) | refine iN.del ?_ (y6 @bI @aY @bR M O.obj hz))))) ⟨.vec [.agg cs7] 10 true,rfl,.vec (.cons ev7 .nil) sm,by simp⟩ (y1 @dG) ah (by rw[hLL])⟩⟩
            |cons g gs'=>
             have b8:List.take L (ws++g::gs')=ws:=(by rw[<- a1,List.take_left]);have b5:List.drop (L+1) (ws++g::gs')=gs':=(by rw[<- a1,List.drop_append];simp);have ae:(ws++g::gs').length=L+(gs'.length+1):=(by simp[a1]);refine Bg f0 @f2 @f3 @f7 @f8 @f9 @oU @Bool.not_true O.obj @aQ O.g1 (And.intro O.g2 (And.intro O.g3 (And.intro @qB0 (And.intro a6 (And.intro aa (And.intro ab (And.intro U (And.intro M (And.intro ae (And.intro b8 (And.intro b5 (And.intro c5 (And.intro ac (And.intro ai (And.intro b4 (And.intro h1 (And.intro @dW (And.intro @dX @dH)))))))))))))))))) ?_;refine qCR k [(0,.ref o 0),(2,.ref n 0),(3,.sl b 0 (L+1))] om (by(repeat' (first | exact Env.sub.nil | refine Env.sub.cons (by first | rfl | exact f0 | exact f2) ?_))) ⟨⟨t.s,q,[x7],t.at'⟩::(w::r),_,_,_,rfl,b1,by omega,by simp only[List.length_cons];omega,by omega,fun a5=>⟨(((ay.pos be).add1 (x:=.arr 6 (ws++g::gs')) (y1 M) hKb (by simp;omega)).set1 (.arr 6 (ws++((AV.agg [.str t.s,.int .i64 q.lo,.int .i64 q.hi,.bool q.left,.vec [.agg cs7] 10 true,.int .i64 t.at'])::gs')))).sub (.cons _ (List.Sublist.refl _)),SR.push (gs:=gs') (hws.s10 (by(repeat' (first | exact iN.refl | refine iN.cons ?_ (y6 @bI @aY @bR M O.obj hz) | refine iN.put ?_ (y6 @bI @aY @bR M O.obj hz) | refine iN.del ?_ (y6 @bI @aY @bR M O.obj hz))))) ⟨.vec [.agg cs7] 10 true,rfl,.vec (.cons ev7 .nil) sm,by simp⟩ (y1 @dG) hKb (by rw[hLL])⟩⟩
     .have a8:decide (t.kind=5)=false:=decide_eq_false k5;refine z4 e0 e2 e3 a8 ?_;have bj:Li t=false:=(by unfold Li;simp[hq,a8]);have bk:=TY.sub (.cons _ (.cons _ (List.Sublist.refl _)));refine qCQ (E0:=[(2,.ref n 0),(3,a3),(7,.ref n5 0),(10,.bool false)]) (fun m E nn hh=>∃(st7:List eI) (stv7:AV) (x7:eD) (cs7:List AV),E=[(2,.ref n 0),(3,stv7),(7,.ref n5 0),(10,.bool false)]/\eR false t.s (Mh t) Y x5=eR false t.s (Mh t) st7 x7/\st7.length=m/\st7.length<=1000000/\EO x7 (.agg cs7)/\n5+1<=nn/\
       (aE nn hh->St n h o pm im lv cv [(n5,.cells cs7),(n,.cells jX)] s5 nn hh a4/\SR hh (KS n o a4) st7 stv7)) Y.length ?_ ?_ ?_
      ·(repeat' (first | exact Env.sub.nil | refine Env.sub.cons (by first | rfl | exact e0 | exact e2 | exact e3) ?_))
      .exact⟨Y,a3,x5,ct,rfl,rfl,rfl,ar,cu,by omega,fun a5=>⟨bk,RY⟩⟩
      .rintro m E nn hh hlk hBk ⟨st7,stv7,x7,cs7,rfl,hap7,hlen7,hst7,ev7,hn7,TS7⟩;obtain⟨O,R7⟩:=TS7 hlk;obtain⟨bv,bg,a6,aa,bh⟩:=ev7.shape;cases bg;have ab:List.take 10 cs7=cs7:=List.take_of_length_le om;cases st7 with
       |nil=>
        have ce:ms=.ok (x7,s5):=bc.trans (by unfold pZ zX;rw[bj,hap7];rfl);rcases R7 with⟨rfl,_⟩ | ⟨b,ws,gs,rfl,M,hKb,hws⟩
        .refine x9 O.g1 O.g2 @qCH a6 aa bh ab @aD @Bool.not_false ?_;exact qC9<|(O.set2 _).ends (ce) (ev7)
        .refine x9 O.g1 O.g2 @qCH a6 aa bh ab @aD @Bool.not_false ?_;exact qC9<|(O.set2 _).ends (ce) (ev7)
       |cons w r=>
        rcases R7 with⟨_,b7⟩ | ⟨b,ws,gs,rfl,M,hKb,hws⟩
        .cases b7
        .have R7:SR hh (KS n o a4) (w::r) (.sl b 0 (w::r).length):=.inr ⟨b,ws,gs,rfl,M,hKb,hws⟩;cases hws with
         |cons e tl=>
         rename_i v' ws';obtain⟨lw,rfl,al,bi⟩:=e;have h1:=al.one;have a1:=tl.length;have ac:(ws'++[AV.agg [.str w.sign,.int .i64 w.op.lo,.int .i64 w.op.hi,.bool w.op.left,lw,.int .i64 w.at']]++gs)[r.length]?=some (.agg [.str w.sign,.int .i64 w.op.lo,.int .i64 w.op.hi,.bool w.op.left,lw,.int .i64 w.at']):=by
          rw[<- a1,List.append_assoc];simp
         simp only[List.length_cons]at hst7 hlen7;have ao:r.length+1-1=r.length:=rfl;refine x12 M ac h1 @dW @dX @dH ao @Bool.not_false O.g1 a6 aa ab ?_;have ba:=aN hlk M;have bd:n5≠b:=fun e=>(by subst e;rw[O.g1]at M;cases M);have ae:(ws'++[AV.agg [.str w.sign,.int .i64 w.op.lo,.int .i64 w.op.hi,.bool w.op.left,lw,.int .i64 w.at']]++gs).length=r.length+(1+gs.length):=(by simp[a1];omega);refine aA.stR (fun hX=>hX.get b=some (.arr 6 (ws'++[AV.agg [.str w.sign,.int .i64 w.op.lo,.int .i64 w.op.hi,.bool w.op.left,lw,.int .i64 w.at']]++gs))/\WS hX (KS n o a4) r ws'/\LR hX (KS n o a4) w.left lw) (O.newc _ (.cells [.str w.sign,.int .i64 w.op.lo,.int .i64 w.op.hi,.bool w.op.left,lw,.int .i64 w.at'])) ⟨y1 M,tl.s10 (iN.newc hlk),al.mono fun a xs hx hk=>⟨iN.newc hlk a xs hx,hk⟩⟩ fun hX T8 R8=>?_;obtain⟨a2,b2,ak⟩:=R8;refine qCK ((oM S (w:=w) (x:=x7) ak ev7 om fun v n8 h8 b9 aj b6 a7=>?_).mono (fun _ _ h=>h.elim) fun _ _ _ _ _ _ h=>h);have T9:=T8.quiet aj b6 a7;obtain⟨ag,rfl,c6,bz,dd⟩:=b9.shape;have cp:List.take 10 ag=ag:=List.take_of_length_le om;have c7:List.drop 10 cs7=[]:=List.drop_eq_nil_of_le om;have ap:=(a7 b om).trans a2;have cq:=b2.quiet T8.lt a7;refine u10 T9.g2 a6 c6 bz cp ap ae c7 ao @Nat.sub_zero ?_;refine qCR r.length [(2,.ref n 0),(3,.sl b 0 r.length),(7,.ref n5 0),(10,.bool false)] om sb ⟨r,_,_,ag,rfl,by rw[hap7];rfl,rfl,by omega,b9,by omega,fun a5=>⟨((T9.set2 (.cells ag)).sub (.cons _ (List.Sublist.refl _))).nx om a5,.inr ⟨b,ws',AV.agg [.str w.sign,.int .i64 w.op.lo,.int .i64 w.op.hi,.bool w.op.left,lw,.int .i64 w.at']::gs,rfl,by rw[qI _ _ _ _ bd,ap,List.append_assoc];rfl,hKb,cq.s10 (by(repeat' (first | exact iN.refl | refine iN.cons ?_ (y4 @bI @aY @bR T9.g2) | refine iN.put ?_ (y4 @bI @aY @bR T9.g2) | refine iN.del ?_ (y4 @bI @aY @bR T9.g2))))⟩⟩⟩
inductive ET:Node->AV->Prop
 |mk {k n:Int}{s:List UInt8}{g:Bool}{d:AV}{l:List Node}{a e:Int}{lv:AV} (hd:eE d=true) (ho:AV.one d=true) (hl:EL l lv) (h1:l.length=1->∃ x,lv=.vec [x] 8 true) :
   ET (.mk k n s g d l a e) (.agg [.int .i64 k,.int .i64 n,.str s,.bool g,d,lv,.int .i64 a,.int .i64 e])
omit S in
theorem ET.en {n:Node}{v:AV}(h:ET n v):EN n v:=by
 cases h with
 |mk a b c _=>exact .mk a b c
omit S in
theorem Ih {l:List Node}{xs:List AV}(e:EV l xs):l.length=1->∃ x,AV.vec xs 8 true=.vec [x] 8 true:=fun h=>by
 have:=e.length
 match xs,this with
 |[x],_=>exact⟨x,rfl⟩
 |[],h'=>simp at h';omega
 |_::_::_,h'=>simp at h';omega
theorem NR (hk:Kp 146=(true,false)){o pm im:Nat}{lv:AV}(f:Nat)(hf:f<1000000000)(Me:aL Gl Gm Kp 76 [.ref o 0] o pm im lv (cS f) EN):aL Gl Gm Kp 365 [.ref o 0] o pm im lv (tD (f+1)) ET:=by
 refine aL.st fun n h cv s T0 ho=>qB6 S 21 [.cell 2 32] Tryz.func365 fun _ _=>?_;have a2:=congrFun (tD.eq_2 f) s;obtain⟨_,_,_,_⟩:=T0.hd;refine zz ?_;obtain⟨a6,a3⟩:=cJ (fun hc=>ho (a2.trans hc));have a5:=a2.trans (P.ok_bind a3);refine z2 T0.obj @aQ ?_;refine aA.st (((T0.cell (.cells cC)).pos a6).newc _ (.cells (bC 40 0 [] .sl0))) fun _ T1=>?_;refine qCK (qBx (sI S 0 dc [62,62]) T1 fun n2 h2 _ T2=>?_);have M:=a5.trans (P.ok_bind (x:=P.is 0 [62,62]) rfl);cases hi:PS.isSign {s with pos:=s.pos+1} 0 [62,62] with
 |true=>
  rw[hi]at M;replace M:=nt M;refine z6 hi T2.g1 T2.g2 @qCE @qCD @Bool.not_true ?_;exact qC9<|(T2.set2 _).ends (M) (ET.mk rfl rfl .nil (fun h=>by cases h))
 |false=>
  rw[hi]at M;replace M:=nf M;refine z2 hi @Bool.not_false ?_;refine qCK (St.listed S hk (Z:=[]) (a:=[.ref o 0]) (c:=[]) (Me.x []) (fun _=>rfl) f hf T2 Holds.nil M ho ?_ ?_ fun e he n2 h2 _ _=>by(refine zz ?_);exact qC9<|.err he)
  .intro l s6 xs n6 h6 a4 Y O a1 a7 U;refine z4 U.g1 U.g2 @qCE @qCD ?_;exact qC9<|((U.set1 (.cells (bC 40 0 [] (.vec xs 8 true)))).set2 _).ends (Y) (.mk rfl rfl (.vec O) (Ih O))
  .intro l s6 xs b n6 h6 a4 Y O a1 a7 hb U;have a8:b<n6/\n<=b:=U.l1;have ee:EV l (List.take xs.length (List.drop 0 xs)):=(by rw[List.drop_zero,List.take_length];exact O);refine z5 U.g1 U.g2 U.g3 @qCE @qCD ?_;refine qCJ (fun x hx=>O.frozen x (List.mem_of_mem_take hx)) ?_;refine zz ?_;exact qC9<|(((U.set2 (.cells (bC 40 0 [] (.sl b 0 xs.length)))).set3 _).del1).ends (Y) (.mk rfl rfl (.vec ee) (fun h=>by have:=O.length;omega))
theorem Nk {o pm im:Nat}{lv:AV}(f:Nat)(hf:f<1000000000)(Me:aL Gl Gm Kp 76 [.ref o 0] o pm im lv (cS f) EN)(Mt:aL Gl Gm Kp 365 [.ref o 0] o pm im lv (tD f) ET):aL Gl Gm Kp 366 [.ref o 0] o pm im lv (gL (f+1)) EN:=by
 refine aL.st fun n h cv s T0 ho=>qB6 S 38 [.cell 2 32] Tryz.func366 fun _ _=>?_;have az:=congrFun (gL.eq_2 f) s;obtain⟨_,_,_,_⟩:=T0.hd;refine zz ?_;refine aA.st (T0.cell (.cells cC)) fun _ T1=>?_;refine qCK (qBx (iK S) T1 fun n2 h2 _ T2=>?_);have b0:=az.trans (P.ok_bind (x:=P.begin) rfl);refine zz ?_;refine qCK (qBx (oB S 0 dc 1) T2 fun _ _ _ T3=>?_);have U:=b0.trans (P.ok_bind (x:=P.kind 0 1) rfl);cases hk1:s.isKind 0 1 with
 |true=>
  rw[hk1]at U;replace U:=nt U;refine z1 hk1 ?_;refine qBt (SE S f hf) T3 U ho ?_;intro _ _ v4 n4 h4 _ O al ah T4 _ _;refine zz ?_;refine qBr (eV S al _) T4 O ho ?_;intro a5 s5 v5 n5 h5 a7 M Y a1 T5 b4 ap;obtain⟨ab,rfl,a3,a2,ag,aa,E5⟩:=Y.sh;refine z7 T5.g1 @qCD a3 a2 aa ag @aD ?_;exact qC9<|(T5.set1 _).ends (M) (E5)
 |false=>
  rw[hk1]at U;replace U:=nf U;refine z1 hk1 ?_;refine qCK (qBx (sI S 0 dc [60,60]) T3 fun n4 h4 ah T4=>?_);have O:=U.trans (P.ok_bind (x:=P.is 0 [60,60]) rfl);cases hi:s.isSign 0 [60,60] with
  |true=>
   rw[hi]at O;replace O:=nt O;refine z1 hi ?_;refine qBt (Mt) T4 O ho ?_;intro a5 s5 v5 n5 h5 a7 M Y a1 T5 b4 ap;have Y:=Y.en;obtain⟨ab,rfl,a3,a2,ag,aa,E5⟩:=Y.sh;refine z2 a3 a2 ?_;refine aA.st (T5.newc _ (.cells ab)) fun ao T6=>?_;refine qBt (bL S [62,62]) T6 M ho ?_;intro u _ v7 n7 _ _ b2 _ _ T7 _ _;refine z4 T7.g1 a3 a2 aa ?_;refine qBr (eV S E5 _) T7 b2 ho ?_;intro _ s8 v8 n8 h8 ak a9 ac ai T8 b5 ar;obtain⟨_,rfl,aw,au,ay,b7,E8⟩:=ac.sh;refine z7 T8.g2 @qCD aw au b7 ay @aD ?_;exact qC9<|(T8.set2 _).ends (a9) (E8)
  |false=>
   rw[hi]at O;replace O:=nf O;refine z1 hi ?_;refine qCK (St.take S T4 O ?_ ?_)
   .intro s5 n5 h5 a7 M a1 T5;replace M:=nt M;refine zz ?_;refine qBt (Me) T5 M ho ?_;intro _ _ v6 n6 _ _ b1 an _ T6 _ _;obtain⟨aj,rfl,ae,ad,ax,b6,E6⟩:=an.sh;refine z2 ae ad ?_;refine aA.st (T6.newc _ (.cells aj)) fun ao T7=>?_;refine qBt (bL S [41]) T7 b1 ho ?_;intro u s8 v8 n8 h8 ak a9 ac ai T8 b5 ar;refine z8 T8.g1 T8.g2 ae ad b6 ax @qCD @aD ?_;exact qC9<|(T8.set2 _).ends (a9) (E6)
   .intro s5 n5 h5 a7 M a1 T5;replace M:=nf M;refine zz ?_;refine qCK (qBs (lE S EN) T5 M ho (fun a s2 v n2 h2 cv2 b3=>absurd (M.symm.trans b3) (by simp[P.fail])) fun e he n2 h2 _ _=>by(refine zz ?_);exact qC9<|.err he)
theorem IW {o pm im:Nat}{lv:AV}(f:Nat)(Mt:aL Gl Gm Kp 365 [.ref o 0] o pm im lv (tD f) ET)(Ms:aL Gl Gm Kp 366 [.ref o 0] o pm im lv (gL f) EN):aL Gl Gm Kp 338 [.ref o 0] o pm im lv (yJ (f+1)) EN:=by
 refine aL.st fun n h cv s T0 ho=>qB6 S 31 [.cell 2 32] Tryz.func338 fun hB _=>?_;have ao:=congrFun (yJ.eq_2 f) s;obtain⟨bb,b1,an,au⟩:=T0.hd;refine zz ?_;refine aA.st (T0.cell (.cells cC)) fun hA T1=>?_;refine qBt (Mt) T1 ao ho ?_;intro a2 s2 v2 n2 h2 cv2 M ah ay T2 b8 b4;cases ah with
 |mk hd hone hl' h1=>
 rename_i k m t g d l a e lw;have a3:=hl'.one;have b6:=hl'.flat;refine z2 hone a3 ?_;simp only[Node.l]at M;by_cases a5:l.length=1
 .obtain⟨x,rfl⟩:=h1 a5;simp only[a5,if_true]at M;refine z2 hone a3 ?_;refine aA.stx (fun Y=>(T2.newc _ (.cells [.int .i64 k,.int .i64 m,.str t,.bool g,d,.vec [x] 8 true,.int .i64 a,.int .i64 e])).nx om Y) fun aa T3=>?_;refine qCK (qBx (sI S 0 dc [62,62,95]) T3 fun n4 h4 az T4=>?_);have O:=M.trans (P.ok_bind (x:=P.is 0 [62,62,95]) rfl);cases hi:s2.isSign 0 [62,62,95] with
  |true=>
   rw[hi]at O;replace O:=nt O;obtain⟨aw,ag⟩:=cJ (fun hc=>ho (O.trans hc));have ap:=O.trans (P.ok_bind ag);have ac:EV l [x]:=(by cases hl' with | vec h=>exact h);have ad:=aM 2 104 dc dc;refine z3 hi T4.obj @aQ ?_;refine qCP [(1,3)] [] kr ?_;refine z1 T4.g1 ?_;refine aZ.st (T4.pos aw) fun h5 T5=>?_;refine qBv (Ms) T5 ap ho T5.o1 ?_;intro a6 s6 v6 n6 h6 b3 ar ai b0 b2 T6 b9 b5;obtain⟨a7,rfl,ak,aj,b7,bc,E6⟩:=ai.sh;refine z1 T5.o1 ?_;refine qCJ om ?_;have al:=(ac.append (.cons E6 .nil)).frozen;refine z7 ak aj @aB ad T6.g2 T6.g1 @qCD ?_;refine qCT fun nx bd be=>?_;refine zz ?_;refine qCJ (fun y hy=>al y hy) ?_;refine zz ?_;exact qC9<|(((T6.cell (.arr 8 [x,AV.agg a7])).set3 _).del1).ends (ar) (.mk rfl rfl (.vec (show EV _ (List.take 2 (List.drop 0 [x,AV.agg a7])) from ac.append (.cons E6 .nil))))
  |false=>
   rw[hi]at O;replace O:=nf O;refine z1 hi ?_;refine qBt (bL S [62,62]) T4 O ho ?_;intro u s8 v8 n8 h8 a8 a1 a9 a4 U ae ab;refine z5 U.g1 U.g2 hone hd @qCD ?_;exact qC9<|(U.set2 _).ends (a1) (.mk hd hone hl')
 .simp only[a5,if_false]at M;rw[qCn]at M;replace M:=nf M;have ba:(l.length:Int)≠1:=om;cases hl' with
  |nil=>
   refine zz ?_;refine aA.stx (fun Y=>(T2.newc _ (.cells [.int .i64 k,.int .i64 m,.str t,.bool g,d,.sl0,.int .i64 a,.int .i64 e])).nx om Y) fun aa T3=>?_;refine qBt (bL S [62,62]) T3 M ho ?_;intro u s8 v8 n8 h8 a8 a1 a9 a4 U ae ab;refine z5 U.g1 U.g2 hone hd @qCD ?_;exact qC9<|(U.set2 _).ends (a1) (.mk hd hone .nil)
  |vec hv=>
   rename_i xs fl;have ax:=hv.length;refine z1 ax ?_;refine aA.stx (fun Y=>(T2.newc _ (.cells [.int .i64 k,.int .i64 m,.str t,.bool g,d,.vec xs 8 fl,.int .i64 a,.int .i64 e])).nx om Y) fun aa T3=>?_;refine qBt (bL S [62,62]) T3 M ho ?_;intro u s8 v8 n8 h8 a8 a1 a9 a4 U ae ab;refine z5 U.g1 U.g2 hone hd @qCD ?_;exact qC9<|(U.set2 _).ends (a1) (.mk hd hone (.vec hv))
theorem RB {o pm im:Nat}{lv:AV}(f:Nat)(Me:aL Gl Gm Kp 76 [.ref o 0] o pm im lv (cS f) EN)(Ms:aL Gl Gm Kp 366 [.ref o 0] o pm im lv (gL f) EN):aL Gl Gm Kp 340 [.ref o 0] o pm im lv (Gw (f+1)) EN:=by
 refine aL.st fun n h cv s T0 ho=>qB6 S 28 [.cell 2 32] Tryz.func340 fun _ _=>?_;have ab:=congrFun (Gw.eq_2 f) s;obtain⟨_,_,_,_⟩:=T0.hd;refine zz ?_;refine aA.st (T0.cell (.cells cC)) fun _ T1=>?_;refine qCK (qBx (gO S 0 dc) T1 fun n2 h2 _ T2=>?_);obtain⟨_,a1⟩:=eF T0.rep 0;have Y:=ab.trans (P.ok_bind (x:=P.tok 0) rfl);obtain⟨ai,a2⟩:=cJ (fun hc=>ho (Y.trans hc));have ac:=Y.trans (P.ok_bind a2);refine z5 @qBz @qB0 a1 T2.obj @aQ ?_;refine aA.st ((T2.newc _ (.cells (bC 48 0 (s.token 0).s .sl0))).pos ai) fun _ T3=>?_;refine qBt (Ms) T3 ac ho ?_;intro _ _ v4 n4 _ _ ad a5 _ T4 _ _;obtain⟨U,rfl,O,M,_,aj,E4⟩:=a5.sh;refine z2 O M ?_;refine aA.st (T4.newc _ (.cells U)) fun _ T5=>?_;refine qBt (bL S [40]) T5 ad ho ?_;intro u _ v6 n6 _ _ ae _ _ T6 _ _;refine zz ?_;refine qCP [(0,2)] [] kr ?_;refine z4 T6.g1 O M aj ?_;refine qBv (Me) T6 ae ho T6.o1 ?_;intro _ _ v7 n7 _ _ ag a6 _ _ T7 _ _;obtain⟨a3,rfl,a9,a8,_,_,E7⟩:=a6.sh;refine z1 T6.o1 ?_;refine qCJ om ?_;refine z7 O a9 M a8 @aB T7.g2 @qCE ?_;refine qCT fun nx _ _=>?_;refine zz ?_;refine aA.stx (fun aa=>(T7.set2 (.cells (bC 48 0 (s.token 0).s (.vec [.agg U,.agg a3] 8 true)))).nx om aa) fun _ T8=>?_;refine qBt (bL S [41]) T8 ag ho ?_;intro u _ v9 n9 _ _ ah _ _ T9 _ _;refine z4 T9.g2 T9.g3 @qCE @qCD ?_;exact qC9<|(T9.set3 _).ends (ah) (.mk rfl rfl (.vec (.cons E4 (.cons E7 .nil))))
end
section
variable {Gl:qC6}{Gm:qC7}{Kp:qC8}
section
variable {n n1 n2:Nat}{h h1 h2:Hp}{o pm im:Nat}{lv cv cv1 cv2:AV}{X:List (Nat×aK)}{s s1 s2:PS}
theorem St.listedD (S:Seat Gm Kp)(hk:Kp 146=(true,false)){β:Type}{Z:List (Nat×List AV)}{g:FuncId}{a c:List AV}{m:P Node}(M:iL Gl Gm Kp Z g (a++c) o pm im lv m EN)(hca:∀ args,aT Tryz.prog g args=.ret (.enter g args))(f:Nat)(hf:f<1000000000)
  (T:St n h o pm im lv cv X s1 n1 h1 cv1) (H:Holds Z o h1) {ms:Jp β}{k:List Node->P β} (hm:ms=(P.listed f m >>= k) s1) (ho:ms≠.error lT) {Q:aS->Nat->Hp->Prop}
  (k1:∀ l s2 xs n2 h2 cv2,ms=k l s2->EV l xs->n1<=n2->aE n2 h2->1<=xs.length/\xs.length<=f+1->St n h o pm im lv cv X s2 n2 h2 cv2->Q (.returned (.vec xs 8 true)) n2 h2)
  (k2:∀ l s2 xs b n2 h2 cv2,ms=k l s2->EV l xs->n1<=n2->aE n2 h2->xs.length<=f+1->n1<=b/\2<=xs.length->St n h o pm im lv cv ((b,.arr 8 xs)::X) s2 n2 h2 cv2->Q (.returned (.sl b 0 xs.length)) n2 h2)
  (k3:∀ e,ms=.error e->∀ n2 h2,n1<=n2->aE n2 h2->(∀ t,t<n1->¬Own o cv1 t->h2.get t=h1.get t)->Q (.panicked (iY e)) n2 h2):aG Tryz.prog Gl Gm Kp 146 [.ref o 0,.fn (.func g) a c] n1 h1 (Own o cv1) Q:=
 xY S hk M hca f hf T.rep H (fun hc=>ho (hm.trans (P.err_bind hc))) (fun l s2 e v w n2 h2 cv2 ev hw O a2=>by
  have Y:=hm.trans (P.ok_bind e);have U:=T.step O;cases ev with
  |vec ee=>exact k1 l s2 _ n2 h2 cv2 Y ee O.le O.lt (by rw[ee.length];exact⟨P.listed_ge e,qCl e⟩) U
  |arr hx ee=>
   rename_i b xs;obtain⟨hb,a1⟩:=hw b rfl;rw[<- ee.length];refine k2 l s2 xs b n2 h2 cv2 Y ee O.le O.lt (by rw[ee.length];exact qCl e) ⟨hb,by rw[ee.length];exact a2 (fun h=>by cases h)⟩ ⟨U.post,U.on,fun q hq=>?_,.cons (fun q hq=>Nat.lt_of_lt_of_le (T.below q hq) hb) U.ord⟩;rcases List.mem_cons.1 hq with rfl | hq
   .exact⟨hx,a1,Nat.le_trans T.le hb⟩
   .exact U.hold q hq) fun e he n2 h2 a b c=>k3 e (hm.trans (P.err_bind he)) n2 h2 a b c
theorem aP.stx {x:Ctx}{c:Code}{E:Env}{B:Nat->Prop}{k:dZ}{t u}(T:aE n1 h1->St n h o pm im lv cv X s1 n1 h1 cv1)(w:∀ hX,St n h o pm im lv cv X s1 n1 hX cv1->aP Tryz.prog Gl Gm Kp x c E n1 hX B k t u):aP Tryz.prog Gl Gm Kp x c E n1 h1 B k t u:=
 ⟨bF.lt fun M _=>Fa.ok (w h1 (T M))⟩
theorem qCp (S:Seat Gm Kp){β:Type}{nd:Node}{v:AV}{a:Nat}{x:aK}{fr:Int}(T:St n h o pm im lv cv ((a,x)::X) s1 n1 h1 cv1)(hv:TB h1 nd v (some a)){ms:Jp β}{k:Node->P β}(hm:ms=(P.done nd fr >>= k) s1)(ho:ms≠.error lT){Q:aS->Nat->Hp->Prop}
  (k1:∀ nd' v' n2 h2,ms=k nd' s1->EN nd' v'->n1<=n2->aE n2 h2->St n h o pm im lv cv X s1 n2 h2 cv1->Q (.returned v') n2 h2):aG Tryz.prog Gl Gm Kp 145 [.ref o 0,v,.int .i64 fr] n1 h1 (fun t=>t=a) Q:=by
 obtain⟨_,hb,hc⟩:=T.hold (a,x) sm;have M:=T.ord;rw[List.pairwise_cons]at M;refine(vN S T.rep hv (fun b Y=>by cases Y;exact hb) fr (fun hc=>ho (hm.trans (P.err_bind hc))) fun nd' e v' n2 h2 ev U O hk R2=>?_).mono (fun t _ ht=>by cases ht;rfl) fun _ _ _ _ _ _ h=>h;refine k1 nd' v' n2 h2 (hm.trans (P.ok_bind e)) ev U O ⟨⟨Nat.le_trans T.le U,O,R2,fun t ht hn=>?_,T.post.own⟩,T.on,fun q hq=>?_,M.2⟩
 .have:=T.le;simp only at hc;rw[hk t om (fun e=>by cases e;omega)];exact T.post.keep t ht hn
 .obtain⟨u,v,w⟩:=T.hold q (List.mem_cons_of_mem _ hq);have h3:=M.1 q hq;have h4:=T.below _ (List.mem_cons_of_mem _ hq);simp only at h3;exact⟨(hk q.1 h4 (fun e=>by cases e;omega)).trans u,v,w⟩
theorem qCq (S:Seat Gm Kp){β:Type}{nd:Node}{v:AV}{fr:Int}(T:St n h o pm im lv cv X s1 n1 h1 cv1)(hv:EN nd v){ms:Jp β}{k:Node->P β}(hm:ms=(P.done nd fr >>= k) s1)(ho:ms≠.error lT){Q:aS->Nat->Hp->Prop}
  (k1:∀ nd' v' n2 h2,ms=k nd' s1->EN nd' v'->n1<=n2->aE n2 h2->St n h o pm im lv cv X s1 n2 h2 cv1->Q (.returned v') n2 h2):aG Tryz.prog Gl Gm Kp 145 [.ref o 0,v,.int .i64 fr] n1 h1 (fun _=>False) Q:=
 (vN S T.rep hv.enh (fun b U=>by cases U) fr (fun hc=>ho (hm.trans (P.err_bind hc))) fun nd' e v' n2 h2 ev O M hk _=>k1 nd' v' n2 h2 (hm.trans (P.ok_bind e)) ev O M (T.quiet O M fun t Y=>hk t Y (fun e=>by cases e))).mono (fun t _ Y=>by cases Y) fun _ _ _ _ _ _ h=>h
end
end
section
variable {Gl:qC6}{Gm:qC7}{Kp:qC8}(S:Seat Gm Kp)
include S
theorem KE {o pm im:Nat}{lv:AV}(f:Nat)(hf:f<1000000000)(Me:∀ k,k<=f->aL Gl Gm Kp 76 [.ref o 0] o pm im lv (cS k) EN):aL Gl Gm Kp 335 [.ref o 0] o pm im lv (P.step 1 >>= fun _=>mX f []) EN:=by
 refine aL.st fun n h cv s T0 ho=>qB6 S 60 [.cell 2 32] Tryz.func335 fun _ _=>?_;have ce:=congrFun ((rfl:(P.step 1 >>= fun _=>mX f [])=(P.step 1 >>= fun _=>mX f []))) s;obtain⟨_,_,_,_⟩:=T0.hd;refine zz ?_;obtain⟨cy,cf⟩:=cJ (fun hc=>ho (ce.trans hc));have cw:=ce.trans (P.ok_bind cf);refine z2 T0.obj @aQ ?_;refine qCQ (E0:=[(0,.ref o 0),(2,.ref n 0),(3,.ref (n+1) 0)]) (fun k E nn hh=>∃(L:LS) (l:List Node) (s2:PS) (cv2:AV),E=[(0,.ref o 0),(2,.ref n 0),(3,.ref (n+1) 0)]/\(P.step 1 >>= fun _=>mX f []) s=mX k l s2/\EV l L.xs/\(L=.nil\/∃ b xs,L=.arr b xs xs.length/\xs≠[])/\l.length+k=f/\n+2<=nn/\
   (aE nn hh->St n h o pm im lv cv (L.objs++[(n+1,.cells (bC 43 0 [] L.val)),(n,.cells cC)]) s2 nn hh cv2)) f ?_ ?_ ?_
 .exact sb
 .exact⟨.nil,[],_,cv,rfl,cw,.nil,.inl rfl,by simp,by omega,fun _=>((T0.cell (.cells cC)).pos cy).newc _ (.cells (bC 43 0 [] .sl0))⟩
 .rintro k E nn hh hlk hBk ⟨L,l,s5,cv5,rfl,hm5,ev5,hL,hlen5,hnn,T5⟩;cases k with
  |zero=>exact absurd hm5 (fun hc=>ho hc)
  |succ k=>
   have T5:=T5 hlk;have d3:=T5.le;have d0:=T5.rep.len;rw[mX.eq_2]at hm5;refine zz ?_;refine qCK (qBx (iK S) T5 fun n6 _ _ T6=>?_);have b6:=hm5.trans (P.ok_bind (x:=P.begin) rfl);rcases hL with rfl | ⟨b,xs,rfl,hxs⟩
   .simp only[LS.objs,LS.val,LS.xs,List.nil_append]at T6 ev5;cases ev5;simp only[List.isEmpty_nil,if_true]at b6;rw[qCn]at b6;have ax:=b6;replace ax:=nf ax;have a3:=aM 1 104 dc dc;refine z2 T6.g1 @qCE ?_;refine aP.stx (fun U=>(T6.newc _ (.cells (bC 44 0 [] .sl0))).nx om U) fun h7 T7=>?_;have ar:=aM (1) 104 om om;refine qCP [(1,3)] [] kr ?_;refine z2 T7.g1 @qCE ?_;refine qBv (Me k om) T7 ax ho T7.o1 ?_;intro a8 s8 v8 n8 h8 c6 ay bv bi cd T8 cx ct;obtain⟨ao,rfl,c5,bz,cu,cz,E8⟩:=bv.sh;refine z1 T7.o1 ?_;refine qCJ om ?_;refine z6 c5 bz @aB ar T8.g1 @qCE ?_;refine qCT fun cB ch ci=>?_;refine zz ?_;refine aA.stx (fun U=>(((T8.cell (.arr 8 [AV.agg ao])).set2 (.cells (bC 44 0 [] (.sl n8 0 1))))).nx om U) fun h9 T9=>?_;refine qBt (bL S [45,62]) T9 ay ho ?_;intro u s10 Dg n10 c7 b9 ak bb b2 a2 bj bc;refine zz ?_;refine qCP [(1,3)] [] kr ?_;refine z2 a2.g2 @qCE ?_;refine qBv (Me k om) a2 ak ho a2.o2 ?_;intro b1 cn OT n11 c8 ba al ad b3 b5 aa bk bd;obtain⟨a5,rfl,ai,ag,be,bl,az⟩:=ad.sh;have ap:=aM 2 104 dc dc;refine g8 a2.o2 ai ag @aB ap aa.g2 aa.g1 @qCE ?_;refine qCT fun br cg ck=>?_;refine zz ?_;refine aP.stx (fun U=>((aa.del1.cell (.arr 8 [AV.agg ao,AV.agg a5])).set2 (.cells (bC 44 0 [] (.sl n11 0 2)))).nx om U) fun c9 a1=>?_;have ab:EV [a8,b1] [AV.agg ao,AV.agg a5]:=.cons E8 (.cons az .nil);refine qCP [(1,5)] [] kr ?_;refine z3 a1.g3 a1.g2 @qCE ?_;refine qCN (fun t=>t=n11) (fun t _ h=>by subst h;exact .inl (a1.l1.2)) (qCp S a1 (.mk rfl rfl (qCc ab a1.g1)) al ho fun a7 co n13 cb an ae b4 bh O=>?_);obtain⟨Y,rfl,aj,ah,bg,bm,a9⟩:=ae.sh;refine g7 aj ah @aB a3 O.g1 O.g2 @qCE ?_;refine qCT fun bu bp bq=>?_;refine z3 O.g1 O.g2 @qCE ?_;refine aA.stx (fun U=>((O.cell (.arr 8 [AV.agg Y])).set3 (.cells (bC 43 0 [] (.sl n13 0 1)))).nx om U) fun cq b0=>?_;refine qCK (St.take S b0 an ?_ ?_)
    .intro b7 n15 bw ac M aw a4;replace M:=nt M;refine z1 @Bool.not_true ?_;refine aU.mq k ⟨.arr n13 ([AV.agg Y]) (1),[a7],b7,ac,rfl,M,(EV.cons a9 .nil),.inr ⟨n13,[AV.agg Y],by simp,by simp⟩,by(try simp at hlen5);simp;omega,by omega,fun U=>a4.drop2.nx om U⟩
    .intro b7 n15 bw ac M aw a4;replace M:=nf M;refine z1 @Bool.not_false ?_;have ee:EV ([a7]) (List.take 1 (List.drop 0 ([AV.agg Y]))):=(by rw[List.drop_zero,List.take_of_length_le sm];exact(EV.cons a9 .nil));refine z5 a4.g1 a4.g3 a4.g4 @qCE @qCD ?_;have a6:=((EV.cons a9 .nil)).frozen;refine qCJ (by first | exact fun x hx=>a6 x hx | exact fun x hx=>a6 x (List.mem_of_mem_take hx) | exact⟨by simp,fun x hx=>a6 x (List.mem_of_mem_take hx)⟩) ?_;refine zz ?_;exact qC9<|((a4.set4 _).del1).ends (M) (.mk rfl rfl (.vec ee))
   .simp only[LS.objs,LS.val,LS.xs,List.cons_append,List.nil_append]at T6 ev5;have d1:b<n6/\n<=b:=T6.l1;have d2:n+1<b/\n<=n+1:=T6.l2;have cj:=ev5.length;have a3:=aM (xs.length+1) 104 om om;have cA:xs.length≠0:=fun h=>hxs (List.length_eq_zero_iff.1 h);have cc:l.isEmpty=false:=by
     cases l with
     |nil=>simp at cj;exact absurd (List.length_eq_zero_iff.2 cj) cA
     |cons _ _=>rfl
    simp only[cc,Bool.false_eq_true,if_false]at b6;refine z2 T6.g2 @qCE ?_;refine aA.st (T6.newc _ (.cells (bC 44 0 [] .sl0))) fun h7 cp=>?_;refine qCK (St.take S cp b6 ?_ ?_)
    .intro s8 n8 h8 c6 ay bi T8;replace ay:=nt ay;refine z2 T8.g1 @qCE ?_;refine aA.st (T8.set1 (.cells (bC 44 1 [] .sl0))) fun h9 T9=>?_;refine qBt (bL S [45,62]) T9 ay ho ?_;intro u s10 Dg n10 c7 b9 ak bb b2 a2 bj bc;refine zz ?_;have au:=a3;have a3:=aM 1 104 dc dc;have b8:=aM (1) 104 om om;refine qCP [(1,3)] [] kr ?_;refine z2 a2.g1 @qCE ?_;refine qBv (Me k om) a2 ak ho a2.o1 ?_;intro b1 cn OT n11 c8 ba al ad b3 b5 aa bk bd;obtain⟨a5,rfl,ai,ag,be,bl,az⟩:=ad.sh;refine z1 a2.o1 ?_;refine qCJ om ?_;refine z6 ai ag @aB b8 aa.g1 @qCE ?_;refine qCT fun br _ _=>?_;refine zz ?_;refine aP.stx (fun U=>(((aa.cell (.arr 8 [AV.agg a5])).set2 (.cells (bC 44 1 [] (.sl n11 0 1))))).nx om U) fun c9 a1=>?_;have ab:EV [b1] [AV.agg a5]:=.cons az .nil;have a3:=au;refine qCP [(1,5)] [] kr ?_;refine z3 a1.g4 a1.g2 @qCE ?_;refine qCN (fun t=>t=n11) (fun t _ h=>by subst h;exact .inl (a1.l1.2)) (qCp S a1 (.mk rfl rfl (qCc ab a1.g1)) al ho fun a7 co n13 cb an ae b4 bh O=>?_);obtain⟨Y,rfl,aj,ah,bg,bm,a9⟩:=ae.sh;refine g8 aj ah @aB a3 O.g1 O.g2 O.g3 @qCE ?_;refine qCT fun bu bp bq=>?_;refine z4 O.g1 O.g2 O.g3 @qCE ?_;have b0:=(O.del2.cell (.arr 8 (xs++[AV.agg Y]))).set3 (.cells (bC 43 0 [] (.sl n13 0 (xs.length+1))));have ee:EV (l++[a7]) (List.take (xs.length+1) (List.drop 0 (xs++[AV.agg Y]))):=(by rw[List.drop_zero,List.take_of_length_le sm];exact(ev5.append (.cons a9 .nil)));refine z3 O.g4 @qCE @qCD ?_;have a6:=((ev5.append (.cons a9 .nil))).frozen;refine qCJ (by first | exact fun x hx=>a6 x hx | exact fun x hx=>a6 x (List.mem_of_mem_take hx) | exact⟨by simp,fun x hx=>a6 x (List.mem_of_mem_take hx)⟩) ?_;refine zz ?_;exact qC9<|((b0.set4 _).del1).ends (an) (.mk rfl rfl (.vec ee))
    .intro _ n7 h7 _ ax _ T7;replace ax:=nf ax;refine zz ?_;have au:=a3;have a3:=au;have ar:=aM (1) 104 om om;refine qCP [(1,3)] [] kr ?_;refine z2 T7.g1 @qCE ?_;refine qBv (Me k om) T7 ax ho T7.o1 ?_;intro a8 s8 v8 n8 h8 c6 ay bv bi cd T8 cx ct;obtain⟨ao,rfl,c5,bz,cu,cz,E8⟩:=bv.sh;refine z1 T7.o1 ?_;refine qCJ om ?_;refine z6 c5 bz @aB ar T8.g1 @qCE ?_;refine qCT fun cB ch ci=>?_;refine zz ?_;refine aA.stx (fun U=>(((T8.cell (.arr 8 [AV.agg ao])).set2 (.cells (bC 44 0 [] (.sl n8 0 1))))).nx om U) fun h9 T9=>?_;refine qBt (bL S [45,62]) T9 ay ho ?_;intro u s10 Dg n10 c7 b9 ak bb b2 a2 bj bc;refine zz ?_;refine qCP [(1,3)] [] kr ?_;refine z2 a2.g2 @qCE ?_;refine qBv (Me k om) a2 ak ho a2.o2 ?_;intro b1 cn OT n11 c8 ba al ad b3 b5 aa bk bd;obtain⟨a5,rfl,ai,ag,be,bl,az⟩:=ad.sh;have ap:=aM 2 104 dc dc;refine g8 a2.o2 ai ag @aB ap aa.g2 aa.g1 @qCE ?_;refine qCT fun br cg ck=>?_;refine zz ?_;refine aP.stx (fun U=>((aa.del1.cell (.arr 8 [AV.agg ao,AV.agg a5])).set2 (.cells (bC 44 0 [] (.sl n11 0 2)))).nx om U) fun c9 a1=>?_;have ab:EV [a8,b1] [AV.agg ao,AV.agg a5]:=.cons E8 (.cons az .nil);refine qCP [(1,5)] [] kr ?_;refine z3 a1.g4 a1.g2 @qCE ?_;refine qCN (fun t=>t=n11) (fun t _ h=>by subst h;exact .inl (a1.l1.2)) (qCp S a1 (.mk rfl rfl (qCc ab a1.g1)) al ho fun a7 co n13 cb an ae b4 bh O=>?_);obtain⟨Y,rfl,aj,ah,bg,bm,a9⟩:=ae.sh;refine g8 aj ah @aB a3 O.g1 O.g2 O.g3 @qCE ?_;refine qCT fun bu bp bq=>?_;refine z4 O.g1 O.g2 O.g3 @qCE ?_;refine aA.stx (fun U=>((O.del2.cell (.arr 8 (xs++[AV.agg Y]))).set3 (.cells (bC 43 0 [] (.sl n13 0 (xs.length+1))))).nx om U) fun cq b0=>?_;refine qCK (St.take S b0 an ?_ ?_)
     .intro b7 n15 bw ac M aw a4;replace M:=nt M;refine z1 @Bool.not_true ?_;refine aU.mq k ⟨.arr n13 (xs++[AV.agg Y]) ((xs.length+1)),l++[a7],b7,ac,rfl,M,(ev5.append (.cons a9 .nil)),.inr ⟨n13,xs++[AV.agg Y],by simp,by simp⟩,by(try simp at hlen5);simp;omega,by omega,fun U=>a4.drop2.nx om U⟩
     .intro b7 n15 bw ac M aw a4;replace M:=nf M;refine z1 @Bool.not_false ?_;have ee:EV (l++[a7]) (List.take (xs.length+1) (List.drop 0 (xs++[AV.agg Y]))):=(by rw[List.drop_zero,List.take_of_length_le sm];exact(ev5.append (.cons a9 .nil)));refine z5 a4.g1 a4.g3 a4.g4 @qCE @qCD ?_;have a6:=((ev5.append (.cons a9 .nil))).frozen;refine qCJ (by first | exact fun x hx=>a6 x hx | exact fun x hx=>a6 x (List.mem_of_mem_take hx) | exact⟨by simp,fun x hx=>a6 x (List.mem_of_mem_take hx)⟩) ?_;refine zz ?_;exact qC9<|((a4.set4 _).del1).ends (M) (.mk rfl rfl (.vec ee))
theorem IA (hk:Kp 146=(true,false)){o pm im:Nat}{lv:AV}(f:Nat)(hf:f<1000000000)(Me:∀ k,k<=f->aL Gl Gm Kp 76 [.ref o 0] o pm im lv (cS k) EN):aL Gl Gm Kp 369 [.ref o 0] o pm im lv (pG (f+1)) EN:=by
 refine aL.st fun n h cv s T0 ho=>qB6 S 61 [.cell 2 32] Tryz.func369 fun _ _=>?_;have cj:=congrFun (pG.eq_2 f) s;obtain⟨_,_,_,_⟩:=T0.hd;refine zz ?_;refine aA.st (T0.cell (.cells cC)) fun _ T1=>?_;refine qCK (qBx (iK S) T1 fun n2 h2 _ T2=>?_);have ck:=cj.trans (P.ok_bind (x:=P.begin) rfl);refine zz ?_;refine qBt (bL S [33]) T2 ck ho ?_;intro u s3 v3 n3 _ _ cn _ _ T3 _ _;refine zz ?_;refine qCQ (E0:=[(0,.ref o 0),(2,.ref n 0),(3,.int .i64 (s.token 0).at'),(4,.ref n3 0)]) (fun k E nn hh=>∃(L:LS) (l:List Node) (s2:PS) (cv2:AV),E=[(0,.ref o 0),(2,.ref n 0),(3,.int .i64 (s.token 0).at'),(4,.ref n3 0)]/\pG (f+1) s=(Dq k l >>= fun l=>P.need [61] >>= fun _=>cS f >>= fun e=>P.done (nd 36 [] (l++[e])) (s.token 0).at') s2/\EV l L.xs/\(L=.nil\/∃ b xs,L=.arr b xs xs.length/\xs≠[])/\l.length+k=f/\n3+1<=nn/\
   (aE nn hh->St n h o pm im lv cv (L.objs++[(n3,.cells (bC 36 0 [] L.val)),(n,.cells cC)]) s2 nn hh cv2)) f ?_ ?_ ?_
 .exact sb
 .exact⟨.nil,[],_,_,rfl,cn,.nil,.inl rfl,by simp,by omega,fun _=>T3.newc _ (.cells (bC 36 0 [] .sl0))⟩
 .rintro k E nn hh hlk hBk ⟨L,l,s5,cv5,rfl,hm5,ev5,hL,hlen5,hnn,T5⟩;cases k with
  |zero=>exact absurd hm5 (fun hc=>ho hc)
  |succ k=>
   have T5:=T5 hlk;have cw:=T5.le;have cq:=T5.rep.len;rw[Dq.eq_2,qCk]at hm5;rcases hL with rfl | ⟨b,xs,rfl,hxs⟩
   .simp only[LS.objs,LS.val,LS.xs,List.nil_append]at T5 ev5;cases ev5;simp only[List.isEmpty_nil,if_true]at hm5;rw[qCn]at hm5;have ac:=hm5;replace ac:=nf ac;have ag:=aM 1 104 dc dc;refine z2 T5.g1 @qCE ?_;rw[qCk]at ac;refine qCK (qBx (iK S) T5 fun n7 h7 bi T7=>?_);have b0:=ac.trans (P.ok_bind (x:=P.begin) rfl);rw[qCk]at b0;refine zz ?_;refine aA.st (T7.newc _ (.cells (bC 37 0 [] .sl0))) fun h8 T8=>?_;refine qCK (St.take S T8 b0 ?_ ?_)
    .intro s9 n9 h9 bk a1 bb T9;replace a1:=nt a1;rw[qCk]at a1;refine zz ?_;refine qBt (iG S 1 dc) T9 a1 ho ?_;intro bj s10 Dg n10 bl b3 a6 al ax ak bc b9;obtain⟨rfl,ci,be⟩:=al;rw[qCk]at a6;refine z5 @qBz @qB0 be ak.g1 @qCE ?_;refine aP.stx (fun a5=>(ak.set1 (.cells (bC 37 0 bj.s .sl0))).nx om a5) fun b7 U=>?_;refine qCP [(1,5)] [] kr ?_;refine z3 U.g2 U.g1 @qCE ?_;refine qCN (fun _=>False) (fun _ _ h=>h.elim) (qCq S U (.mk rfl rfl .nil) a6 ho fun ab bg n13 b8 a9 a2 ah ao O=>?_);obtain⟨M,rfl,a4,a3,an,ap,ad⟩:=a2.sh;refine g7 a4 a3 @aB ag O.g1 O.g2 @qCE ?_;refine qCT fun aw ar au=>?_;refine zz ?_;refine qCR k [(0,.ref o 0),(2,.ref n 0),(3,.int .i64 (s.token 0).at'),(4,.ref n3 0)] om sb ⟨.arr n13 ([AV.agg M]) (1),[ab],_,_,rfl,a9,(EV.cons ad .nil),.inr ⟨n13,[AV.agg M],by simp,by simp⟩,by(try simp at hlen5);simp;omega,by omega,fun a5=>((O.cell (.arr 8 [AV.agg M])).set3 (.cells (bC 36 0 [] (.sl n13 0 1)))).drop2.nx om a5⟩
    .intro s9 n9 h9 bk a1 bb T9;replace a1:=nf a1;rw[qCk]at a1;refine zz ?_;refine qBt (bL S [91]) T9 a1 ho ?_;intro u s10 Dg n10 bl b3 a6 al ax ak bc b9;rw[qCk]at a6;refine zz ?_;refine qCK (St.listed S hk (Z:=[]) (a:=[.ref o 0]) (c:=[]) ((Me k om).x []) (fun _=>rfl) k om ak Holds.nil a6 ho ?_ ?_ fun e he n2 h2 _ _=>by(refine zz ?_);exact qC9<|.err he)
     .intro bq br ai n11 b7 b4 a7 ae ay b1 U;rw[qCk]at a7;refine z2 U.g1 @qCE ?_;refine aA.st (U.set1 (.cells (bC 37 0 [] (.vec ai 8 true)))) fun bh aj=>?_;refine qBt (bL S [93]) aj a7 ho ?_;intro u bu bv n14 bm b5 aa b6 az Y bd ba;rw[qCk]at aa;refine zz ?_;refine qCP [(1,5)] [] kr ?_;refine z3 Y.g2 Y.g1 @qCE ?_;refine qCN (fun _=>False) (fun _ _ h=>h.elim) (qCq S Y (.mk rfl rfl (.vec ae)) aa ho fun ab bg n13 b8 a9 a2 ah ao O=>?_);obtain⟨M,rfl,a4,a3,an,ap,ad⟩:=a2.sh;refine g7 a4 a3 @aB ag O.g1 O.g2 @qCE ?_;refine qCT fun aw ar au=>?_;refine zz ?_;refine qCR k [(0,.ref o 0),(2,.ref n 0),(3,.int .i64 (s.token 0).at'),(4,.ref n3 0)] om sb ⟨.arr n13 ([AV.agg M]) (1),[ab],_,_,rfl,a9,(EV.cons ad .nil),.inr ⟨n13,[AV.agg M],by simp,by simp⟩,by(try simp at hlen5);simp;omega,by omega,fun a5=>((O.cell (.arr 8 [AV.agg M])).set3 (.cells (bC 36 0 [] (.sl n13 0 1)))).drop2.nx om a5⟩
     .intro bq br ai b2 n11 b7 b4 a7 ae ay b1 c5 U;rw[qCk]at a7;refine z2 U.g2 @qCE ?_;refine aA.st (U.set2 (.cells (bC 37 0 [] (.sl b2 0 ai.length)))) fun bh aj=>?_;refine qBt (bL S [93]) aj a7 ho ?_;intro u bu bv n14 bm b5 aa b6 az Y bd ba;rw[qCk]at aa;refine zz ?_;refine qCP [(1,5)] [] kr ?_;refine z3 Y.g3 Y.g2 @qCE ?_;refine qCN (fun t=>t=b2) (fun t _ h=>by subst h;exact .inl (Y.l1.2)) (qCp S Y (.mk rfl rfl (qCc ae Y.g1)) aa ho fun ab bg n13 b8 a9 a2 ah ao O=>?_);obtain⟨M,rfl,a4,a3,an,ap,ad⟩:=a2.sh;refine g7 a4 a3 @aB ag O.g1 O.g2 @qCE ?_;refine qCT fun aw ar au=>?_;refine zz ?_;refine qCR k [(0,.ref o 0),(2,.ref n 0),(3,.int .i64 (s.token 0).at'),(4,.ref n3 0)] om sb ⟨.arr n13 ([AV.agg M]) (1),[ab],_,_,rfl,a9,(EV.cons ad .nil),.inr ⟨n13,[AV.agg M],by simp,by simp⟩,by(try simp at hlen5);simp;omega,by omega,fun a5=>((O.cell (.arr 8 [AV.agg M])).set3 (.cells (bC 36 0 [] (.sl n13 0 1)))).drop2.nx om a5⟩
   .simp only[LS.objs,LS.val,LS.xs,List.cons_append,List.nil_append]at T5 ev5;have ct:b<nn/\n<=b:=T5.l1;have cu:n3<b/\n<=n3:=T5.l2;have cc:=ev5.length;have ag:=aM (xs.length+1) 104 om om;have cp:xs.length≠0:=fun h=>hxs (List.length_eq_zero_iff.1 h);have c8:l.isEmpty=false:=by
     cases l with
     |nil=>simp at cc;exact absurd (List.length_eq_zero_iff.2 cc) cp
     |cons _ _=>rfl
    simp only[c8,Bool.false_eq_true,if_false]at hm5;refine z2 T5.g2 @qCE ?_;refine qCK (qBx (sI S 0 dc [61]) T5 fun n6 _ _ T6=>?_);have ac:=hm5.trans (P.ok_bind (x:=P.is 0 [61]) rfl);cases hi:s5.isSign 0 [61] with
    |false=>
     rw[hi]at ac;replace ac:=nf ac;refine z2 hi @Bool.not_false ?_;rw[qCk]at ac;refine qCK (qBx (iK S) T6 fun n7 h7 bi T7=>?_);have b0:=ac.trans (P.ok_bind (x:=P.begin) rfl);rw[qCk]at b0;refine zz ?_;refine aA.st (T7.newc _ (.cells (bC 37 0 [] .sl0))) fun h8 T8=>?_;refine qCK (St.take S T8 b0 ?_ ?_)
     .intro s9 n9 h9 bk a1 bb T9;replace a1:=nt a1;rw[qCk]at a1;refine zz ?_;refine qBt (iG S 1 dc) T9 a1 ho ?_;intro bj s10 Dg n10 bl b3 a6 al ax ak bc b9;obtain⟨rfl,ci,be⟩:=al;rw[qCk]at a6;refine z5 @qBz @qB0 be ak.g1 @qCE ?_;refine aP.stx (fun a5=>(ak.set1 (.cells (bC 37 0 bj.s .sl0))).nx om a5) fun b7 U=>?_;refine qCP [(1,5)] [] kr ?_;refine z3 U.g3 U.g1 @qCE ?_;refine qCN (fun _=>False) (fun _ _ h=>h.elim) (qCq S U (.mk rfl rfl .nil) a6 ho fun ab bg n13 b8 a9 a2 ah ao O=>?_);obtain⟨M,rfl,a4,a3,an,ap,ad⟩:=a2.sh;refine g8 a4 a3 @aB ag O.g1 O.g2 O.g3 @qCE ?_;refine qCT fun aw ar au=>?_;refine zz ?_;refine qCR k [(0,.ref o 0),(2,.ref n 0),(3,.int .i64 (s.token 0).at'),(4,.ref n3 0)] om sb ⟨.arr n13 (xs++[AV.agg M]) ((xs.length+1)),l++[ab],_,_,rfl,a9,(ev5.append (.cons ad .nil)),.inr ⟨n13,xs++[AV.agg M],by simp,by simp⟩,by(try simp at hlen5);simp;omega,by omega,fun a5=>((O.del2.cell (.arr 8 (xs++[AV.agg M]))).set3 (.cells (bC 36 0 [] (.sl n13 0 (xs.length+1))))).drop2.nx om a5⟩
     .intro s9 n9 h9 bk a1 bb T9;replace a1:=nf a1;rw[qCk]at a1;refine zz ?_;refine qBt (bL S [91]) T9 a1 ho ?_;intro u s10 Dg n10 bl b3 a6 al ax ak bc b9;rw[qCk]at a6;refine zz ?_;refine qCK (St.listed S hk (Z:=[]) (a:=[.ref o 0]) (c:=[]) ((Me k om).x []) (fun _=>rfl) k om ak Holds.nil a6 ho ?_ ?_ fun e he n2 h2 _ _=>by(refine zz ?_);exact qC9<|.err he)
      .intro bq br ai n11 b7 b4 a7 ae ay b1 U;rw[qCk]at a7;refine z2 U.g1 @qCE ?_;refine aA.st (U.set1 (.cells (bC 37 0 [] (.vec ai 8 true)))) fun bh aj=>?_;refine qBt (bL S [93]) aj a7 ho ?_;intro u bu bv n14 bm b5 aa b6 az Y bd ba;rw[qCk]at aa;refine zz ?_;refine qCP [(1,5)] [] kr ?_;refine z3 Y.g3 Y.g1 @qCE ?_;refine qCN (fun _=>False) (fun _ _ h=>h.elim) (qCq S Y (.mk rfl rfl (.vec ae)) aa ho fun ab bg n13 b8 a9 a2 ah ao O=>?_);obtain⟨M,rfl,a4,a3,an,ap,ad⟩:=a2.sh;refine g8 a4 a3 @aB ag O.g1 O.g2 O.g3 @qCE ?_;refine qCT fun aw ar au=>?_;refine zz ?_;refine qCR k [(0,.ref o 0),(2,.ref n 0),(3,.int .i64 (s.token 0).at'),(4,.ref n3 0)] om sb ⟨.arr n13 (xs++[AV.agg M]) ((xs.length+1)),l++[ab],_,_,rfl,a9,(ev5.append (.cons ad .nil)),.inr ⟨n13,xs++[AV.agg M],by simp,by simp⟩,by(try simp at hlen5);simp;omega,by omega,fun a5=>((O.del2.cell (.arr 8 (xs++[AV.agg M]))).set3 (.cells (bC 36 0 [] (.sl n13 0 (xs.length+1))))).drop2.nx om a5⟩
      .intro bq br ai b2 n11 b7 b4 a7 ae ay b1 c5 U;rw[qCk]at a7;refine z2 U.g2 @qCE ?_;refine aA.st (U.set2 (.cells (bC 37 0 [] (.sl b2 0 ai.length)))) fun bh aj=>?_;refine qBt (bL S [93]) aj a7 ho ?_;intro u bu bv n14 bm b5 aa b6 az Y bd ba;rw[qCk]at aa;refine zz ?_;refine qCP [(1,5)] [] kr ?_;refine z3 Y.g4 Y.g2 @qCE ?_;refine qCN (fun t=>t=b2) (fun t _ h=>by subst h;exact .inl (Y.l1.2)) (qCp S Y (.mk rfl rfl (qCc ae Y.g1)) aa ho fun ab bg n13 b8 a9 a2 ah ao O=>?_);obtain⟨M,rfl,a4,a3,an,ap,ad⟩:=a2.sh;refine g8 a4 a3 @aB ag O.g1 O.g2 O.g3 @qCE ?_;refine qCT fun aw ar au=>?_;refine zz ?_;refine qCR k [(0,.ref o 0),(2,.ref n 0),(3,.int .i64 (s.token 0).at'),(4,.ref n3 0)] om sb ⟨.arr n13 (xs++[AV.agg M]) ((xs.length+1)),l++[ab],_,_,rfl,a9,(ev5.append (.cons ad .nil)),.inr ⟨n13,xs++[AV.agg M],by simp,by simp⟩,by(try simp at hlen5);simp;omega,by omega,fun a5=>((O.del2.cell (.arr 8 (xs++[AV.agg M]))).set3 (.cells (bC 36 0 [] (.sl n13 0 (xs.length+1))))).drop2.nx om a5⟩
    |true=>
     rw[hi]at ac;replace ac:=nt ac;rw[qCn]at ac;refine z2 hi @Bool.not_true ?_;refine qBt (bL S [61]) T6 ac ho ?_;intro u _ v7 n7 h7 _ b0 _ bi T7 _ _;refine zz ?_;have bp:=aM (xs.length+1) 104 om om;refine qCP [(1,3)] [] kr ?_;refine z2 T7.g2 @qCE ?_;refine qBv (Me f (Nat.le_refl _)) T7 b0 ho T7.o2 ?_;intro _ _ v8 n8 h8 _ co cf _ _ T8 _ _;obtain⟨ce,rfl,ch,cg,_,_,E8⟩:=cf.sh;refine z1 T7.o2 ?_;refine qCJ om ?_;refine z7 ch cg @aB bp T8.g2 T8.g1 @qCE ?_;refine qCT fun _ _ _=>?_;refine zz ?_;refine aA.stx (fun a5=>(((T8.del1.cell (.arr 8 (xs++[AV.agg ce]))).set2 (.cells (bC 36 0 [] (.sl n8 0 (xs.length+1)))))).nx om a5) fun h9 T9=>?_;refine qCK (qBu S (k:=P.pure) T9 (.mk rfl rfl (EV.app ev5 E8 T9.g1)) (co.trans (congrFun (P.bind_pure _).symm _)) ho fun _ _ n12 bh c9 bw _ aj=>?_);obtain⟨_,rfl,c6,bz,c7,cb,cd⟩:=bw.sh;refine z7 aj.g2 @qCD c6 bz cb c7 @aD ?_;exact qC9<|(aj.set2 _).ends (c9) (cd)
theorem RV {o pm im:Nat}{lv:AV}:Reads Gl Gm Kp 368 [.ref o 0] o pm im lv fun s=>.bool (eW (s.l.drop s.pos) 1):=by
 refine Reads.fin fun n h cv s R _=>qB6 S 48 [.tmp 2] Tryz.func368 fun _ _=>?_;have hp:=R.obj;have a8:=R.len;have a3:=R.pos;refine zz ?_;refine qCP [] [] kr ?_;rcases R.toks with⟨rfl,hz⟩ | ⟨fl0,rfl⟩
 .have a7:s.pos=0:=(by rw[hz]at a3;simpa using a3);rw[a7]at hp;refine g1 hp ?_;refine qCQ (E0:=[(15,.int .i64 0),(16,.int .i64 0)]) (fun m E nn hh=>E=[(15,.int .i64 0),(16,.int .i64 0)]) 1 sb rfl ?_;rintro m E nn hh hlk hBk rfl;refine zz ?_;exact qCI fun _ _ _=>by rw[hz,List.drop_nil];rfl
 .have hv:List.take (s.l.length-s.pos) (List.drop s.pos (s.l.map Tok.av))=(s.l.drop s.pos).map Tok.av:=(by rw[List.take_of_length_le sm,List.map_drop]);have a6:((s.l.drop s.pos).map Tok.av).length=(s.l.drop s.pos).length:=List.length_map _;have a9:(s.l.drop s.pos).length<1000000000:=(by simp;omega);have a4:∀ t ∈ s.l.drop s.pos,eE t.d=true/\AV.one t.d=true:=fun t ht=>R.flat t (List.mem_of_mem_drop ht);refine u3 hp hv a6 ?_;generalize s.l.drop s.pos=TL at *;refine qCu (fun k E nn hh=>∃ i op:Nat,i+k=TL.length/\1<=op/\op<=i+1/\E=[(14,.vec (TL.map Tok.av) 8 fl0),(15,.int .i64 TL.length),(16,.int .i64 i),(3,.int .i64 op)]/\eW TL 1=eW (TL.drop i) op/\n<=nn/\∀ t,t<n->hh.get t=h.get t) TL.length ⟨0,1,by omega,by omega,by omega,rfl,by rw[List.drop_zero],Nat.le_refl _,fun _ _=>rfl⟩ ?_
  .rintro k E nn hh hlk hBk ⟨i,op,hik,hop1,hop2,rfl,hmg,hnn,hkk⟩;by_cases a5:i<TL.length
   .have O:(TL.map Tok.av)[i]?=some TL[i].av:=(by simp[a5]);have M:=List.drop_eq_getElem_cons a5;obtain⟨_,U⟩:=a4 TL[i] (List.getElem_mem a5);generalize TL[i]=t at *;by_cases k5:t.kind=5
    .have Y:decide (t.kind=5)=true:=decide_eq_true k5;by_cases e0:t.s=[40]
     .have b0:(t.s==[40])=true:=(by rw[e0];rfl);refine u8 O @qBz @qB0 U Y @Bool.not_true @Bool.not_false b0 ?_;refine aU.mq (k-1) ⟨i+1,op+1,by omega,by omega,by omega,rfl,by rw[hmg,M];simp[eW,k5,e0],by omega,fun t ht=>?_⟩;have h9:=hkk t ht;rw[qCf,if_neg om,aX _ _ _ _ om];exact h9
     .have b0:(t.s==[40])=false:=(by simpa using e0);by_cases e1:t.s=[91]
      .have b1:(t.s==[91])=true:=(by rw[e1];rfl);refine u9 O @qBz @qB0 U Y @Bool.not_true @Bool.not_false b0 b1 ?_;refine aU.mq (k-1) ⟨i+1,op+1,by omega,by omega,by omega,rfl,by rw[hmg,M];simp[eW,k5,e1],by omega,fun t ht=>?_⟩;have h9:=hkk t ht;rw[qCf,if_neg om,aX _ _ _ _ om];exact h9
      .have b1:(t.s==[91])=false:=(by simpa using e1);by_cases e2:t.s=[123]
       .have b2:(t.s==[123])=true:=(by rw[e2];rfl);refine u10 O @qBz @qB0 U Y @Bool.not_true @Bool.not_false b0 b1 b2 ?_;refine aU.mq (k-1) ⟨i+1,op+1,by omega,by omega,by omega,rfl,by rw[hmg,M];simp[eW,k5,e2],by omega,fun t ht=>?_⟩;have h9:=hkk t ht;rw[qCf,if_neg om,aX _ _ _ _ om];exact h9
       .have b2:(t.s==[123])=false:=(by simpa using e2);by_cases e3:t.s=[60,60]
        .have b3:(t.s==[60,60])=true:=(by rw[e3];rfl);refine zJ O @qBz @qB0 U Y @Bool.not_true @Bool.not_false b0 b1 b2 b3 ?_;refine aU.mq (k-1) ⟨i+1,op+1,by omega,by omega,by omega,rfl,by rw[hmg,M];simp[eW,k5,e3],by omega,fun t ht=>?_⟩;have h9:=hkk t ht;rw[qCf,if_neg om,aX _ _ _ _ om];exact h9
        .have b3:(t.s==[60,60])=false:=(by simpa using e3);by_cases e4:t.s=[41]
         .have b4:(t.s==[41])=true:=(by rw[e4];rfl);by_cases h1:op=1
          .subst h1;refine rP O @qBz @qB0 U Y @Bool.not_true @Bool.not_false b0 b1 b2 b3 b4 ?_;exact qCI fun _ _ _=>by rw[hmg,M];simp[eW,k5,e4]
          .refine rP O @qBz @qB0 U Y @Bool.not_true @Bool.not_false b0 b1 b2 b3 b4 ?_;refine aU.mq (k-1) ⟨i+1,op-1,by omega,by omega,by omega,rfl,by rw[hmg,M];simp[eW,k5,e4,h1],by omega,fun t ht=>?_⟩;have h9:=hkk t ht;rw[qCf,if_neg om,aX _ _ _ _ om];exact h9
         .have b4:(t.s==[41])=false:=(by simpa using e4);by_cases e5:t.s=[93]
          .have b5:(t.s==[93])=true:=(by rw[e5];rfl);by_cases h1:op=1
           .subst h1;refine rP O @qBz @qB0 U Y @Bool.not_true @Bool.not_false b0 b1 b2 b3 (And.intro b4 b5) ?_;exact qCI fun _ _ _=>by rw[hmg,M];simp[eW,k5,e5]
           .refine rP O @qBz @qB0 U Y @Bool.not_true @Bool.not_false b0 b1 b2 b3 (And.intro b4 b5) ?_;refine aU.mq (k-1) ⟨i+1,op-1,by omega,by omega,by omega,rfl,by rw[hmg,M];simp[eW,k5,e5,h1],by omega,fun t ht=>?_⟩;have h9:=hkk t ht;rw[qCf,if_neg om,aX _ _ _ _ om];exact h9
          .have b5:(t.s==[93])=false:=(by simpa using e5);by_cases e6:t.s=[93,95]
           .have b6:(t.s==[93,95])=true:=(by rw[e6];rfl);by_cases h1:op=1
            .subst h1;refine rP O @qBz @qB0 U Y @Bool.not_true @Bool.not_false b0 b1 b2 b3 (And.intro b4 (And.intro b5 b6)) ?_;exact qCI fun _ _ _=>by rw[hmg,M];simp[eW,k5,e6]
            .refine rP O @qBz @qB0 U Y @Bool.not_true @Bool.not_false b0 b1 b2 b3 (And.intro b4 (And.intro b5 b6)) ?_;refine aU.mq (k-1) ⟨i+1,op-1,by omega,by omega,by omega,rfl,by rw[hmg,M];simp[eW,k5,e6,h1],by omega,fun t ht=>?_⟩;have h9:=hkk t ht;rw[qCf,if_neg om,aX _ _ _ _ om];exact h9
           .have b6:(t.s==[93,95])=false:=(by simpa using e6);by_cases e7:t.s=[125]
            .have b7:(t.s==[125])=true:=(by rw[e7];rfl);by_cases h1:op=1
             .subst h1;refine rP O @qBz @qB0 U Y @Bool.not_true @Bool.not_false b0 b1 b2 b3 (And.intro b4 (And.intro b5 (And.intro b6 b7))) ?_;exact qCI fun _ _ _=>by rw[hmg,M];simp[eW,k5,e7]
             .refine rP O @qBz @qB0 U Y @Bool.not_true @Bool.not_false b0 b1 b2 b3 (And.intro b4 (And.intro b5 (And.intro b6 b7))) ?_;refine aU.mq (k-1) ⟨i+1,op-1,by omega,by omega,by omega,rfl,by rw[hmg,M];simp[eW,k5,e7,h1],by omega,fun t ht=>?_⟩;have h9:=hkk t ht;rw[qCf,if_neg om,aX _ _ _ _ om];exact h9
            .have b7:(t.s==[125])=false:=(by simpa using e7);by_cases e8:t.s=[62,62]
             .have b8:(t.s==[62,62])=true:=(by rw[e8];rfl);by_cases h1:op=1
              .subst h1;refine rP O @qBz @qB0 U Y @Bool.not_true @Bool.not_false b0 b1 b2 b3 (And.intro b4 (And.intro b5 (And.intro b6 (And.intro b7 b8)))) ?_;exact qCI fun _ _ _=>by rw[hmg,M];simp[eW,k5,e8]
              .refine rP O @qBz @qB0 U Y @Bool.not_true @Bool.not_false b0 b1 b2 b3 (And.intro b4 (And.intro b5 (And.intro b6 (And.intro b7 b8)))) ?_;refine aU.mq (k-1) ⟨i+1,op-1,by omega,by omega,by omega,rfl,by rw[hmg,M];simp[eW,k5,e8,h1],by omega,fun t ht=>?_⟩;have h9:=hkk t ht;rw[qCf,if_neg om,aX _ _ _ _ om];exact h9
             .have b8:(t.s==[62,62])=false:=(by simpa using e8);by_cases e9:t.s=[62,62,95]
              .have b9:(t.s==[62,62,95])=true:=(by rw[e9];rfl);by_cases h1:op=1
               .subst h1;refine rP O @qBz @qB0 U Y @Bool.not_true @Bool.not_false b0 b1 b2 b3 (And.intro b4 (And.intro b5 (And.intro b6 (And.intro b7 (And.intro b8 b9))))) ?_;exact qCI fun _ _ _=>by rw[hmg,M];simp[eW,k5,e9]
               .refine rP O @qBz @qB0 U Y @Bool.not_true @Bool.not_false b0 b1 b2 b3 (And.intro b4 (And.intro b5 (And.intro b6 (And.intro b7 (And.intro b8 b9))))) ?_;refine aU.mq (k-1) ⟨i+1,op-1,by omega,by omega,by omega,rfl,by rw[hmg,M];simp[eW,k5,e9,h1],by omega,fun t ht=>?_⟩;have h9:=hkk t ht;rw[qCf,if_neg om,aX _ _ _ _ om];exact h9
              .have b9:(t.s==[62,62,95])=false:=(by simpa using e9);by_cases a1:t.s=[124,45,62]
               .have a2:(t.s==[124,45,62])=true:=(by rw[a1];rfl);by_cases h1:op=1
                .subst h1;refine rP O @qBz @qB0 U Y @Bool.not_true @Bool.not_false b0 b1 b2 b3 (And.intro b4 (And.intro b5 (And.intro b6 (And.intro b7 (And.intro b8 (And.intro b9 a2)))))) ?_;exact qCI fun _ _ _=>by rw[hmg,M];simp[eW,k5,a1]
                .refine rP O @qBz @qB0 U Y @Bool.not_true @Bool.not_false b0 b1 b2 b3 (And.intro b4 (And.intro b5 (And.intro b6 (And.intro b7 (And.intro b8 (And.intro b9 a2)))))) ?_;refine aU.mq (k-1) ⟨i+1,op,by omega,by omega,by omega,rfl,by rw[hmg,M];simp[eW,k5,a1,h1],by omega,fun t ht=>?_⟩;have h9:=hkk t ht;rw[qCf,if_neg om,aX _ _ _ _ om];exact h9
               .have a2:(t.s==[124,45,62])=false:=(by simpa using a1);refine rP O @qBz @qB0 U Y @Bool.not_true @Bool.not_false b0 b1 b2 b3 (And.intro b4 (And.intro b5 (And.intro b6 (And.intro b7 (And.intro b8 (And.intro b9 a2)))))) ?_;refine aU.mq (k-1) ⟨i+1,op,by omega,by omega,by omega,rfl,by rw[hmg,M];simp[eW,k5,e0,e1,e2,e3,e4,e5,e6,e7,e8,e9,a1],by omega,fun t ht=>?_⟩;have h9:=hkk t ht;rw[qCf,if_neg om,aX _ _ _ _ om];exact h9
    .have Y:decide (t.kind=5)=false:=decide_eq_false k5;refine u7 O @qBz @qB0 U Y @Bool.not_true @Bool.not_false ?_;refine aU.mq (k-1) ⟨i+1,op,by omega,by omega,by omega,rfl,by rw[hmg,M];simp[eW,k5,k5],by omega,fun t ht=>?_⟩;have h9:=hkk t ht;rw[qCf,if_neg om,aX _ _ _ _ om];exact h9
   .refine zz ?_;have hi:i=TL.length:=om;exact qCI fun _ _ _=>by rw[hmg,List.drop_of_length_le om];rfl
theorem MC {o pm im:Nat}{lv:AV}{pc rc:Nat}{w:List UInt8}{kd:Int}(f:Nat)(Me:aL Gl Gm Kp 76 [.ref o 0] o pm im lv (cS f) EN):iL Gl Gm Kp [(pc,[.ref o 0]),(rc,[.str w,.int .i64 kd])] 367 ([]++[.ref pc 0,.ref rc 0]) o pm im lv (tC (f+1) w) EN:=by
 refine iL.st fun n h cv s T0 H hl ho=>qB6 S 20 [.cell 2 32] Tryz.func367 fun _ _=>?_;have ak:=congrFun (tC.eq_2 w f) s;have b0:=T0.on;have ax:=T0.lt;have aj:=T0.rep.len;have a9:=H.head;have au:=H.tail.head;have b1:=aN hl a9;have b3:=aN hl au;have ar:=(H _ (List.mem_cons_self ..)).2;have b4:=(H _ (List.mem_cons_of_mem _ (List.mem_singleton.2 rfl))).2;refine z1 a9 ?_;refine aA.st (T0.cell (.cells cC)) fun _ T1=>?_;refine qBt (iG S 1 dc) T1 ak ho ?_;intro a2 s2 v2 n2 h2 cv2 al ad _ T2 _ _;obtain⟨rfl,_,a8⟩:=ad;have H2:=T2.outer H T0.rep hl;have ap:=H2.head;have aw:=H2.tail.head;refine z5 @qBz @qB0 a8 ap aw ?_;refine aA.st (T2.newc _ (.cells a2.cells)) fun _ T3=>?_;refine qBt (bL S w) T3 al ho ?_;intro u _ v4 n4 _ ac an _ _ M _ _;have H4:=M.outer H T0.rep hl;have aa:=H4.head;have b2:=H4.tail.head;have Y:Own o ac pc=False:=eq_false (M.rep.other aa ar);refine zz ?_;refine qCP [(0,4),(2,4),(4,8)] [ (4,7),(4,8)] kr ?_;refine z3 aa M.g1 @qB0 ?_;refine qCN (Own o _) M.bound (qCo (Me) M an ho ?_ fun e he _ hE _ _ ai=>by(refine fC (by(repeat (first | (refine qCJ om ?_) | (refine z2 M.o1 Y ?_) | exact True.intro))) ?_);(repeat (refine fW rfl ?_));(repeat (first | (refine qCJ om ?_) | (refine z4 M.o1 Y (M.k1 ai) @qB0 ?_) | exact True.intro));unfold gN;intro nx h' _ _ _;(refine zz ?_);exact qC9<|.err he);intro a5 _ v5 n5 _ _ ao ae _ _ T5;have az:=T5.le;have ay:=T5.rep.len;obtain⟨_,rfl,ah,ag,_,_,E5⟩:=ae.sh;refine g7 M.o1 Y ah ag @aB T5.g1 @qB0 ?_;refine qCN (fun _=>False) (fun _ _ h=>h.elim) (qCq S (k:=P.pure) T5 (nd:=nd 34 a2.s [a5]) (.mk rfl rfl (.vec (.cons E5 .nil))) (ao.trans (congrFun (P.bind_pure _).symm _)) ho fun _ _ n13 _ a7 a3 _ _ a1=>?_);obtain⟨_,rfl,a6,a4,O,U,ab⟩:=a3.sh;refine g6 a6 a4 U O a1.g2 @qCD ?_;refine qCT fun _ _ _=>?_;refine z3 @aD O U ?_;exact qC9<|(a1.set2 _).ends (a7) (ab)
end
end Go.Proofs.Pa

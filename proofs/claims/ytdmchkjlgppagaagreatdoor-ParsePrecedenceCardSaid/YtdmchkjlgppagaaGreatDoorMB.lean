/- Part 2 of a proof of ParsePrecedence (for all texts p, q): what it rests on. -/
import Derived.Test.YtdmchkjlgppagaaGreatDoorMA
import Derived.LaidLaws
import Derived.ChangeSame
set_option linter.all false
namespace Go.Ez
section
variable {P:Program}{Gl:qC6}{w0:Base}{B:Nat}{Gm:qC7}{Kp:qC8}{fuel:Nat}{K:cG}{G:Gh}{w:World}{n:Nat}{h:Hp}
theorem Wc (ops:Array Oper)(a:bE)(hl:aE n h):CX P Gl w0 B ops [] a n h {val:=(.normal,a),nx:=n,hi:=n,hp:=h,rd:=0,wr:=0}:=
 ⟨Fr.ret _ hl,fun K G w ro ca st O Q U is M=>by
  have:is=[]:=(by simpa using M);subst this;simp only[wpOpsIn];exact U G .normal ca w (eU.refl _ _ _) (by rw[gV];exact st.rel) rfl O⟩
theorem GO (ih:pL P Gl w0 B Gm Kp fuel)(ops:Array Oper)(l:List Oper)(a:bE)(n:Nat)(h:Hp)(out:Out (mQ×bE))
  (e:eS P Gl Gm Kp (fuel+1) ops l a n h=some out) (hl:aE n h):CX P Gl w0 B ops l a n h out:=by
 cases l with
 |nil=>unfold eS at e;cases e;exact Wc ops a hl
 |cons o r=>
  unfold eS at e;cases hg:cI ops a o with
  |false=>rw[hg]at e;cases e
  |true=>
   rw[hg]at e;simp only[cond_true]at e;cases hw:dY ops a o with
   |false=>
    rw[hw]at e;simp only[cond_false]at e;obtain⟨f1,k1⟩:=ih.ops _ _ _ _ _ _ e hl;refine⟨f1,fun K G w ro ca st O Q hq is M=>?_⟩;cases is with
    |nil=>simp at M
    |cons i is=>
     simp only[List.map_cons,List.cons.injEq]at M;simp only[wpOpsIn,M.1,dO O.tmps hg,hw];exact⟨fun _ _=>trivial,k1 K G w ro _ st (O.put o.dst (by simp only[aF])) Q hq is M.2⟩
   |true=>
    rw[hw]at e;simp only[cond_true]at e;obtain⟨m,p,e1,U,rfl⟩:=C.bind_some e;obtain⟨f1,k1⟩:=ih.op _ _ _ _ _ e1 hl;cases hv:m.val with
    |put x=>
     rw[hv]at U;obtain⟨f2,k2⟩:=ih.ops _ _ _ _ _ _ U f1.lt;refine⟨f1.seq f2,fun K G w ro ca st O Q hq is M=>?_⟩;cases is with
     |nil=>simp at M
     |cons i is=>
      simp only[List.map_cons,List.cons.injEq]at M;simp only[wpOpsIn,M.1,dO O.tmps hg,hw,if_true];refine⟨fun _ _=>trivial,k1 K G w ro ca st.left O _ _ fun G1 w1 g1 g2=>?_⟩;rw[hv];exact fun v hx=>k2 _ G1 w1 ro _ (st.right f1 g1 g2) ((O.mono g1.le).put o.dst hx) Q (fun G2 U Y w2 a1 a2 a3 a4=>
       hq G2 U Y w2 (eU.seq f1 f2 g1 a1) (by rw[<- cO f2];exact a2) a3 a4) is M.2
    |dfr d=>
     rw[hv]at U;obtain⟨f2,k2⟩:=ih.ops _ _ _ _ _ _ U f1.lt;refine⟨f1.seq f2,fun K G w ro ca st O Q hq is M=>?_⟩;cases is with
     |nil=>simp at M
     |cons i is=>
      simp only[List.map_cons,List.cons.injEq]at M;simp only[wpOpsIn,M.1,dO O.tmps hg,hw,if_true];refine⟨fun _ _=>trivial,k1 K G w ro ca st.left O _ _ fun G1 w1 g1 g2=>?_⟩;rw[hv];intro dd hx;have a5:=O.mono g1.le;have a6:eT G1 ro {a with defers:=d::a.defers} {ca with defers:=dd::ca.defers}:=⟨a5.tmps,⟨dd,_,rfl,hx,a5.defers⟩,a5.rnd⟩;exact k2 _ G1 w1 ro _ (st.right f1 g1 g2) (a6.put o.dst (by simp only[aF])) Q (fun G2 U Y w2 a1 a2 a3 a4=>
       hq G2 U Y w2 (eU.seq f1 f2 g1 a1) (by rw[<- cO f2];exact a2) a3 a4) is M.2
    |pan x=>
     rw[hv]at U;simp only[C.ret,Option.some.injEq]at U;subst U;rw[qCh m _ f1];refine⟨f1.val _,fun K G w ro ca st O Q hq is M=>?_⟩;cases is with
     |nil=>simp at M
     |cons i is=>
      simp only[List.map_cons,List.cons.injEq]at M;simp only[wpOpsIn,M.1,dO O.tmps hg,hw,if_true];refine⟨fun _ _=>trivial,k1 K G w ro ca st O _ _ fun G1 w1 g1 g2=>?_⟩;rw[hv];exact fun v hx=>hq G1 _ ca w1 g1 g2 ⟨v,rfl,hx⟩ (O.mono g1.le)
theorem Gk {ops:Array Oper}:(List.range ops.size).map (fun i=>ops[i]?)=ops.toList.map some:=by
 apply List.ext_getElem?;intro i;simp only[List.getElem?_map];by_cases hi:i<ops.size
 .simp[List.getElem?_range hi,hi]
 .have h1:(List.range ops.size)[i]?=none:=List.getElem?_eq_none (by simpa using hi);have h2:ops.toList[i]?=none:=List.getElem?_eq_none (by simpa using hi);simp only[h1,h2,Option.map_none]
theorem sB {c:Code}{a:bE}{x:mQ}(hl:aE n h)(e:Exit)(hx:∀ G,fN G x e)(hw:∀(ro:Option Nat) (Q:Exit->Act->World->Prop) (ca:Act) (w:World),Q e ca w->c.wpIn (Fw ro) 0 P Q ca w) :
  rU P Gl w0 B c a n h {val:=(x,a),nx:=n,hi:=n,hp:=h,rd:=0,wr:=0}:=
 ⟨Fr.ret _ hl,fun K G w ro ca st M Q O=>hw ro Q ca w (O G e ca w (eU.refl _ _ _) (by rw[gV];exact st.rel) (hx G) M)⟩
theorem kT {b:Frame}{a:Act}{k:List Item}{cs:List Frame}{c:Code}:step P (lone (b.atR a (.code (.scope c)::k)) cs w)=.next (lone (b.atR a (.code c::.inScope c::k)) cs w):=
 step_lone_go (by simp[stepG,stepG.exec,Frame.atR])
theorem Eu {b:Frame}{a:Act}{k:List Item}{cs:List Frame}{c:Code}:step P (lone (b.atR a (.inScope c::k)) cs w)=.next (lone (b.atR a k) cs w):=
 step_lone_go (by simp[stepG,stepG.exec,Frame.atR])
theorem Vd {F:Fence}{n:Nat}{Q:Exit->Act->World->Prop}{a:Act}{c:Code}(h:c.wpIn F n P (Exit.noGoto Q) a w):(Code.scope c).wpIn F n P Q a w:=by
 intro b k cs a2 hb hr;have h0:(lone (b.atR a (.code (.scope c)::k)) cs w).fenced P F:=fenced_calm hb hr rfl;obtain⟨e,U,Y,O,M⟩:=h b (.inScope c::k) cs a2 hb hr;cases e with
 |normal=>exact⟨.normal,U,Y,O,.head h0 kT (StepsIn.trans M (.one (fenced_calm hb hr rfl) Eu))⟩
 |exit id=>
  have hx:exitTo id (.inScope c::k)=exitTo id k:=(by simp[exitTo]);exact⟨.exit id,U,Y,O,fun k' hk=>.head h0 kT (M.1 k' (by rw[hx];exact hk)),fun a1 hk=>let ⟨k₁,h1,h2⟩:=M.2 a1 (by rw[hx];exact hk);⟨k₁,h1,.head h0 kT h2⟩⟩
 |goto l=>exact O.elim
 |ret=>exact⟨_,U,Y,O,.of_steps (.one h0 kT) M⟩
 |panic ch=>exact⟨_,U,Y,O,.of_steps (.one h0 kT) M⟩
 |outgrown=>exact⟨_,U,Y,O,.of_steps (.one h0 kT) M⟩
theorem Tl {G:Gh}{x:mQ}{e:Exit}{K:Act->World->Prop}{Q:Exit->Act->World->Prop}{ca:Act}(hx:x≠.normal)(r:fN G x e)(h:Q e ca w):Exit.then K Q e ca w:=by
 cases x<;>simp only[fN]at r
 .exact absurd rfl hx
 .subst r;exact h
 .subst r;exact h
 .subst r;exact h
 .obtain⟨v,rfl,_⟩:=r;exact h
theorem Gn {x:Code}{a:bE}{m:Out (mQ×bE)}{f:mQ×bE->C (mQ×bE)}{out:Out (mQ×bE)}
  (hm:rU P Gl w0 B x a n h m) (e:f m.val m.nx m.hp=some out)
  (ho:∀ x' a',x'≠.normal->f (x',a')=C.ret (x',a'))
  (T:Option Nat->(Exit->Act->World->Prop)->Act->World->Prop)
  (hn:∀ a',m.val=(.normal,a')->Fr m.nx m.hp out/\∀(K:cG) (G:Gh) (w:World) (ro:Option Nat) (ca:Act),St w0 B Gl K G w m.nx out.hi m.hp (out.rd|||out.wr)->eT G ro a' ca->
   ∀ Q:Exit->Act->World->Prop,(∀ G' e ca' w',eU G G' m.nx out.nx->eO w0 B (K.merge out) G' w'->fN G' out.val.1 e->eT G' ro out.val.2 ca'->Q e ca' w')->T ro Q ca w) :
  Fr n h (m.seq out)/\∀(K:cG) (G:Gh) (w:World) (ro:Option Nat) (ca:Act),St w0 B Gl K G w n (m.seq out).hi h ((m.seq out).rd|||(m.seq out).wr)->eT G ro a ca->
   ∀ Q:Exit->Act->World->Prop,(∀ G' e ca' w',eU G G' n (m.seq out).nx->eO w0 B (K.merge (m.seq out)) G' w'->fN G' (m.seq out).val.1 e->eT G' ro (m.seq out).val.2 ca'->Q e ca' w')->
    x.wpIn (Fw ro) 0 P (Exit.then (T ro Q) Q) ca w:=by
 obtain⟨f1,k1⟩:=hm;by_cases O:m.val.1=.normal
 .obtain⟨f2,k2⟩:=hn m.val.2 (by rw[<- O]);refine⟨f1.seq f2,fun K G w ro ca st Y Q hq=>k1 K G w ro ca st.left Y _ fun G1 e1 M w1 g1 g2 g3 g4=>?_⟩;rw[O]at g3;simp only[fN]at g3;subst g3;exact k2 _ G1 w1 ro M (st.right f1 g1 g2) g4 Q fun G2 e2 U w2 a1 a2 a3 a4=>hq G2 e2 U w2 (eU.seq f1 f2 g1 a1) (by rw[<- cO f2];exact a2) a3 a4
 .rw[show m.val=(m.val.1,m.val.2) from rfl,ho _ _ O]at e;simp only[C.ret,Option.some.injEq]at e;subst e;rw[qCh m _ f1];refine⟨f1.val _,fun K G w ro ca st Y Q hq=>k1 K G w ro ca st Y _ fun G1 e1 M w1 g1 g2 g3 g4=>?_⟩;exact Tl O g3 (hq G1 e1 M w1 g1 g2 g3 g4)
theorem Gb (ih:pL P Gl w0 B Gm Kp fuel)(c:Code)(a:bE)(n:Nat)(h:Hp)(out:Out (mQ×bE))
  (e:bD P Gl Gm Kp (fuel+1) (.loop c) a n h=some out) (hl:aE n h):CW P Gl w0 B (fuel+1) c a n h out:=by
 unfold bD at e;simp only at e;obtain⟨m,p,U,M,rfl⟩:=C.bind_some e;have O:=ih.code _ _ _ _ _ U hl;have:=Gn (P:=P) (f:=fun | (.normal,a')=>bD P Gl Gm Kp fuel (.loop c) a' | r=>C.ret r) (T:=fun ro Q=>Code.roundsIn (Fw ro) 0 P c Q fuel) O M (fun x' a' hx=>by cases x'<;>first | rfl | exact absurd rfl hx)
  (fun a' Y=>by
   rw[Y]at M;exact ih.loop _ _ _ _ _ M O.1.lt)
 exact this
theorem Kv {a:bE}{ca:Act}{ps:Array Tmp}{asg body:Code}{fn:FuncId}{m:Out (Nat×Nat)}{hh:Nat}
  (e:C.am (.new .dfr fun r=>.new (.loop .ready none 0 a.tmps ps.toList asg body r) fun l=>.ret (r,l)) n h=some m) (hl:aE n h)
  (st:St w0 B Gl K G w n m.hi h (m.rd|||m.wr)) (hA:eT G none a ca) :
  ∃ G1 w1 R L,(Instr.enterLoop fn ca.tmps ps asg body none).run P w=.ok (L.blk,[{target:=.collected R.blk,args:=#[]}]) w1/\eU G G1 n m.nx/\eO w0 B (K.merge m) G1 w1/\
   G1.nm m.val.1=some R/\G1.nm m.val.2=some L:=by
 obtain⟨f1,_,k1⟩:=jB e hl;have hk:=k1 K st.agree;simp only[AM.runK,Option.some.injEq,Prod.mk.injEq]at hk;obtain⟨hv,Y,hK⟩:=hk;have M:∀ t,n<=t->t<n+1+1->G.nm t=none:=fun t h1 h2=>st.fresh t h1 (by have:=f1.hi;omega)
 let R:lR:={blk:=w.heap.size,dl:=0,ln:=0,es:=0,bs:=0}
 obtain⟨x1,x2⟩:=st.rel.make (n:=n) (y:=.dfr) (ob:=.deferred (some [])) R rfl (M n om om) (by simp only[cK])
 let L:lR:={blk:=w.heap.size+1,dl:=0,ln:=0,es:=0,bs:=0}
 have U:({G with nm:=fun o=>if o=n then some R else G.nm o}:Gh).nm (n+1)=none:=by
  show (if n+1=n then some R else G.nm (n+1))=none;rw[if_neg om];exact M _ om om
 have O:Gh.le {G with nm:=fun o=>if o=n then some R else G.nm o} {nm:=fun o=>if o=n+1 then some L else (if o=n then some R else G.nm o),S:=G.S}:=by
  refine⟨fun t I ht=>?_,fun _ _ _ h=>h⟩;simp only;rw[if_neg]
  .exact ht
  .rintro rfl;rw[U]at ht;cases ht
 obtain⟨y1,y2⟩:=x2.make (n:=n+1) (y:=.loop .ready none 0 a.tmps ps.toList asg body n)
  (ob:=.loop {state:=.ready,pending:=none,fn,tmps:=ca.tmps,params:=ps,assign:=asg,body,defers:=w.heap.size}) L (by simp[L]) U (by
   simp only[cK];refine⟨trivial,trivial,(hA.tmps.mono x1.le _ _).mono O _ _,trivial,trivial,trivial,R,?_,rfl⟩;simp)
 refine⟨{nm:=fun o=>if o=n+1 then some L else (if o=n then some R else G.nm o),S:=G.S},{w with heap:=(w.heap.push (.deferred (some []))).push (.loop {state:=.ready,pending:=none,fn:=fn,tmps:=ca.tmps,params:=ps,assign:=asg,body:=body,defers:=w.heap.size})},R,L,?_,?_,?_,?_,?_⟩
 rotate_left
 .have:=eU.trans (x1.wide (Nat.le_refl n) (show n+1<=n+1+1 by omega)) (y1.wide (show n<=n+1 by omega) (Nat.le_refl _));rw[<- Y];exact this
 .rw[<- hK];exact y2
 .rw[<- hv];simp
 .rw[<- hv];simp
 .simp[Instr.enterLoop,L,R];rfl
theorem oW {l:Nat}{L:Loop}(h:w.heap[l]?=some (.loop L)):(Instr.getLoop l).run P w=.ok L w:=by
 simp[Instr.getLoop,getObj,Sem.run,h]
theorem uV {l:Nat}{L:Loop}{ob:Obj}(h:w.heap[l]?=some (.loop L)):(setObj l ob).run P w=.ok () {w with heap:=w.heap.setIfInBounds l ob}:=by
 unfold setObj Sem.run;simp only[h]
 rfl
theorem Nc {l:Nat}{c:Option (List Deferred)}{ob:Obj}(h:w.heap[l]?=some (.deferred c)):(setObj l ob).run P w=.ok () {w with heap:=w.heap.setIfInBounds l ob}:=by
 unfold setObj Sem.run;simp only[h]
 rfl
theorem Lb {l:Nat}{c:Option (List Deferred)}(h:w.heap[l]?=some (.deferred c)):(getObj l).run P w=.ok (.deferred c) w:=by
 simp[getObj,Sem.run,h]
theorem wE {l:Nat}{I:lR}{st:LoopState}{p:Option Code}{fn:FuncId}{ts:List AV}{ps:List Tmp}{ag b:Code}{d:Nat}(hR:eO w0 B K G w)
  (hK:K l=some (.loop st p fn ts ps ag b d)) (hI:G.nm l=some I) :
  ∃ L:Loop,w.heap[I.blk]?=some (.loop L)/\L.state=st/\L.pending=p/\aI G ts L.tmps.toList/\L.params.toList=ps/\L.assign=ag/\L.body=b/\
   ∀ st' p',eO w0 B (K.upd l (some (.loop st' p' fn ts ps ag b d))) G {w with heap:=w.heap.setIfInBounds I.blk (.loop {L with state:=st',pending:=p'})}:=by
 obtain⟨I',ob,e1,_,U,M⟩:=hR.obj l _ hK;obtain rfl:I'=I:=Option.some.inj (e1.symm.trans hI);have O:=(Array.getElem?_eq_some_iff.1 U).1;cases ob with
 |loop L=>
  simp only[cK]at M;obtain⟨h1,h2,Y,h4,h5,h6,h7⟩:=M;refine⟨L,U,h1,h2,Y,h4,h5,h6,fun st' p'=>?_⟩;refine hR.write hK hI (ob':=.loop {L with state:=st',pending:=p'}) (by simp only[cK];exact⟨trivial,trivial,Y,h4,h5,h6,h7⟩) ?_ ?_ ?_ rfl rfl rfl
  .simp[O]
  .intro b hb;simp[Array.getElem?_setIfInBounds_ne (Ne.symm hb)]
  .simp
 |_=>simp only[cK]at M
theorem Dz {l:Nat}{I:lR}{m:Out (Option Code)}(e:C.am (.get l fun
   |.loop st p fn ts pr ag b d=>match st with
    |.busy=>.fail
    |_=>.set l (.loop .exhausted p fn ts pr ag b d) (.ret p)
   |_=>.fail) n h=some m) (hl:aE n h) (hA:Agree K h (m.rd|||m.wr)) (hR:eO w0 B K G w) (hI:G.nm l=some I) :
  m.nx=n/\∃ w',(Instr.endLoop I.blk).run P w=.ok m.val w'/\eO w0 B (K.merge m) G w':=by
 obtain⟨f1,_,k1⟩:=jB e hl;have M:=k1 K hA;simp only[AM.runK]at M;cases hK:K l with
 |none=>rw[hK]at M;cases M
 |some x=>
  rw[hK]at M;cases x with
  |loop st p fn ts ps ag b d=>
   obtain⟨L,h1,h2,h3,_,_,_,_,h8⟩:=wE hR hK hI;have O:st≠.busy:=(by rintro rfl;simp[AM.runK]at M);have U:(AM.set l (.loop .exhausted p fn ts ps ag b d) (.ret p)).runK n K=some (m.val,m.nx,K.merge m):=by
    cases st<;>first | exact M | exact absurd rfl O
   simp only[AM.runK,hK,Option.some.injEq,Prod.mk.injEq]at U;obtain⟨a1,a2,a3⟩:=U;refine⟨a2.symm,_,?_,by rw[<- a3];exact h8 .exhausted p⟩;have hb:(L.state==LoopState.busy)=false:=(by rw[h2];cases st<;>first | rfl | exact absurd rfl O);have Y:¬L.state=.busy:=(by rw[h2];exact O);subst h3;simp[Instr.endLoop,oW h1,hb,Y,uV h1,a1]
  |_=>simp[AM.runK]at M
theorem eO.drop {w':World}(hr:eO w0 B K G w){o:Nat}{x:aK}{I:lR}(hx:K o=some x)(hI:G.nm o=some I)
  (hoth:∀ b,b≠I.blk->w'.heap[b]?=w.heap[b]?) (hsz:w'.heap.size=w.heap.size) (ho:w'.os=w.os) (hu:w'.output=w.output) (ht:w'.tape=w.tape) :
  eO w0 B (K.upd o none) G w':=by
 obtain⟨O,_,e1,_,_,_⟩:=hr.obj o x hx;obtain rfl:O=I:=Option.some.inj (e1.symm.trans hI);have old:∀ p z,(K.upd o none) p=some z->p≠o/\K p=some z:=by
  intro p z M;unfold cG.upd at M;by_cases e:p=o
  .simp[e]at M
  .simp only[e,if_false]at M;exact⟨e,M⟩
 refine⟨ho.trans hr.os,hu.trans hr.out,ht.trans hr.tape,hsz ▸ hr.size,fun b hb=>(hoth b om).trans (hr.old b hb),fun b i v Y=>?_,fun p z M=>?_,fun p q z z' J J' M a1=>?_,fun p z J M=>?_,hr.low,fun b hb=>⟨(hoth b (fun e=>hr.apart o x O hx hI (e ▸ hb))).trans (hr.stay b hb).1,hsz ▸ (hr.stay b hb).2⟩,fun p z J M hJ=>hr.apart p z J (old p z M).2 hJ⟩
 .have U:b≠O.blk:=by
   rintro rfl;rw[hr.sep o x O hx hI i]at Y;cases Y
  have:=hr.S b i v Y;unfold World.cell? at this ⊢;simp only at this ⊢;rw[hoth b U];exact this
 .obtain⟨e,M⟩:=old p z M;obtain⟨J,ob,h1,h2,h3,h4⟩:=hr.obj p z M;refine⟨J,ob,h1,h2,?_,h4⟩;rw[hoth J.blk fun ee=>e (hr.inj p o z x J O M hx h1 hI ee)];exact h3
 .exact hr.inj p q z z' J J' (old p z M).2 (old q z' a1).2
 .exact hr.sep p z J (old p z M).2
theorem Tk {o:Nat}{I:lR}{m:Out Unit}(e:C.am (.get o fun
    |.dfr=>.del o (.ret ())
    |_=>.fail) n h=some m) (hl:aE n h) (hA:Agree K h (m.rd|||m.wr)) (hR:eO w0 B K G w) (hI:G.nm o=some I) :
  m.nx=n/\∃ w',(Instr.takeDeferred I.blk).run P w=.ok [] w'/\eO w0 B (K.merge m) G w':=by
 obtain⟨f1,_,k1⟩:=jB e hl;have M:=k1 K hA;simp only[AM.runK]at M;cases hK:K o with
 |none=>rw[hK]at M;cases M
 |some x=>
  rw[hK]at M;cases x with
  |dfr=>
   obtain⟨I',ob,e1,_,O,U⟩:=hR.obj o _ hK;obtain rfl:I'=I:=Option.some.inj (e1.symm.trans hI);have a4:=(Array.getElem?_eq_some_iff.1 O).1;simp only[AM.runK,hK,Option.some.injEq,Prod.mk.injEq]at M;obtain⟨_,Y,a3⟩:=M;cases ob with
   |deferred c=>
    simp only[cK]at U;subst U;refine⟨Y.symm,{w with heap:=w.heap.setIfInBounds I'.blk (.deferred none)},?_,?_⟩
    .simp[Instr.takeDeferred,Lb O,Nc O]
    .rw[<- a3];refine hR.drop hK hI ?_ ?_ rfl rfl rfl
     .intro b hb;simp[Array.getElem?_setIfInBounds_ne (Ne.symm hb)]
     .simp
   |_=>simp only[cK]at U
  |_=>simp[AM.runK]at M
theorem Fr.fresh {α:Type}{out:Out α}(f:Fr n h out):n<=out.hi:=Nat.le_trans f.le f.hi
theorem zH (ih:pL P Gl w0 B Gm Kp fuel){f:Operand}{ps:Array Tmp}{asg body:Code}{a:bE}{n:Nat}{h:Hp}{out:Out (mQ×bE)}
  (e:bD P Gl Gm Kp (fuel+1) (.rangeFunc f ps asg body) a n h=some out) (hl:aE n h):rU P Gl w0 B (.rangeFunc f ps asg body) a n h out:=by
 unfold bD at e;simp only at e;cases hrn:a.rnd with
 |some l=>rw[hrn]at e;cases e
 |none=>
  rw[hrn]at e;cases hev:a.eval f with
  |fn fv first cap=>
   rw[hev]at e;cases fv with
   |func g=>
    simp only at e;obtain⟨m,_,e1,e2,rfl⟩:=C.bind_some e;obtain⟨c,p2,e3,e4,rfl⟩:=C.bind_some e2;obtain⟨q,p,e5,e6,rfl⟩:=C.bind_some e4;obtain⟨f1,_,k1⟩:=jB e1 hl;obtain⟨f2,_,k2⟩:=jB e3 f1.lt;obtain⟨f3,k3⟩:=ih.call _ _ _ _ _ e5 f2.lt;have f4:Fr q.nx q.hp p:=by
     cases hq:q.val with
     |panicked v=>rw[hq]at e6;cases e6;exact Fr.ret _ f3.lt
     |returned v=>
      rw[hq]at e6;obtain⟨t,p3,e7,e8,rfl⟩:=C.bind_some e6;obtain⟨f5,_,_⟩:=jB e7 f3.lt;cases ht:t.val with
      |none=>rw[ht]at e8;cases e8;exact f5.seq (Fr.ret _ f5.lt)
      |some j=>rw[ht]at e8;exact f5.seq (ih.code _ _ _ _ _ e8 f5.lt).1
    refine⟨f1.seq (f2.seq (f3.seq f4)),fun K G w ro ca st hA Q hq=>?_⟩;have ab:ro=none:=(by have:=hA.rnd;rw[hrn]at this;exact this);subst ab;refine wpIn_rangeFunc fun fn _=>?_;obtain⟨G1,w1,R,L,a1,a2,a3,a4,a5⟩:=Kv (hh:=0) (ps:=ps) (asg:=asg) (body:=body) (fn:=fn) (P:=P) e1 hl st.left hA;have a8:=hA.eval f;rw[hev]at a8;simp only[aF]at a8;obtain⟨_,M,U,b1,b2,b3,b4⟩:=a8;simp only[oR]at b2;subst b2;have st1:=st.right f1 a2 a3;have Y:aI G1 (first++[.fn (.yield m.val.2) [] []]++cap) ((M++#[Value.func (.yield L.blk) #[] #[]])++U).toList:=by
     rw[Array.toList_append,Array.toList_append];refine aI.append (aI.append (b3.mono a2.le _ _) (aI.cons ?_ aI.nil)) (b4.mono a2.le _ _);simp only[aF,oR];exact⟨_,#[],#[],rfl,⟨L,a5,rfl⟩,aI.nil,aI.nil⟩
    obtain⟨_,_,⟨c1,c2⟩,c3⟩:=rY (w:=w1) Y (k2 _ st1.left.agree);have st2:=st1.right f2 (eU.refl _ _ _) (by rw[c2];exact st1.rel);refine⟨L.blk,_,w1,{target:=.fn (.func g) U,args:=M++#[Value.func (.yield L.blk) #[] #[]]},w1,g,(M++#[Value.func (.yield L.blk) #[] #[]])++U,w1,a1,?_,fun _ _=>trivial,?_,fun h=>by simp[Fw,Fence.wide]at h,?_⟩
    .show (Deferred.ofValue (ca.eval f) (#[Operand.const (Value.func (.yield L.blk) #[] #[])].map ca.eval)).run P w1=_;rw[b1];simp[Deferred.ofValue,Act.eval]
    .simp only[invoke];exact c3
    .refine k3 _ G1 w1 _ st2.left Y _ fun G2 en w2 d1 d2 d3=>?_;have a9:=st2.right f3 d1 d2;have O:eT G2 none {tmps:=a.tmps,defers:=.collected m.val.1::a.defers,rnd:=none} {ca with defers:=[{target:=.collected R.blk,args:=#[]}]++ca.defers}:=by
      have O:=hA.mono (Gh.le_trans a2.le d1.le);exact⟨O.tmps,⟨_,_,rfl,⟨R,d1.le.1 _ _ a4,rfl⟩,O.defers⟩,rfl⟩
     have a6:∀ G3,eU G2 G3 q.nx p.nx->eU G G3 n (m.seq (c.seq (q.seq p))).nx:=fun G3 d=>
      eU.seq f1 (f2.seq (f3.seq f4)) a2 (eU.seq f2 (f3.seq f4) (eU.refl _ _ _) (eU.seq f3 f4 d1 d))
     have a7:∀ K3:cG,K3=(((K.merge m).merge c).merge q).merge p->K3=K.merge (m.seq (c.seq (q.seq p))):=fun K3 d=>by
      rw[d,<- cO (f2.seq (f3.seq f4)),<- cO (f3.seq f4),<- cO f4]
     cases hqv:q.val with
     |panicked v=>
      rw[hqv]at e6 d3;cases e6;obtain⟨v',rfl,d4⟩:=d3;refine hq G2 _ _ w2 (a6 G2 (eU.refl _ _ _)) ?_ ⟨v',rfl,d4⟩ O;rw[<- a7 _ rfl,gV];exact d2
     |returned v=>
      rw[hqv]at e6 d3;obtain⟨t,p3,e7,e8,rfl⟩:=C.bind_some e6;obtain⟨f5,_,_⟩:=jB e7 f3.lt;obtain⟨v',rfl,d4⟩:=d3;obtain⟨g1,w4,g2,g3⟩:=Dz (P:=P) e7 f3.lt a9.left.agree a9.rel (d1.le.1 _ _ a5);refine⟨t.val,w4,g2,?_⟩;have ac:=a9.right f5 (eU.refl _ _ _) g3;cases htv:t.val with
      |none=>
       rw[htv]at e8;cases e8;refine hq G2 _ _ w4 (a6 G2 (eU.refl _ _ _)) ?_ rfl O;rw[<- a7 _ rfl,<- cO (Fr.ret _ f5.lt),gV];exact g3
      |some j=>
       rw[htv]at e8;obtain⟨f6,k6⟩:=ih.code _ _ _ _ _ e8 f5.lt;refine k6 _ G2 w4 none _ ac O Q fun G3 e3 aa w3 x1 x2 x3 x4=>?_;refine hq G3 e3 aa w3 (a6 G3 (eU.seq f5 f6 (eU.refl _ _ _) x1)) ?_ x3 x4;rw[<- a7 _ rfl,<- cO f6];exact x2
   |_=>cases e
  |_=>rw[hev]at e;cases e
theorem Yb (ih:pL P Gl w0 B Gm Kp fuel)(c:Code)(a:bE)(n:Nat)(h:Hp)(out:Out (mQ×bE))
  (e:bD P Gl Gm Kp (fuel+1) c a n h=some out) (hl:aE n h):rU P Gl w0 B c a n h out:=by
 cases c with
 |rangeFunc f ps asg body=>exact zH ih e hl
 |loop x=>
  obtain⟨f,k⟩:=Gb ih x a n h out e hl;exact⟨f,fun K G w ro ca st O Q U=>wpIn_loop_rounds (fuel+1) (k K G w ro ca st O Q U)⟩
 |skip=>unfold bD at e;cases e;exact sB hl .normal (fun _=>rfl) fun _ _ _ _ h=>wpIn_skip h
 |label l=>unfold bD at e;cases e;exact sB hl .normal (fun _=>rfl) fun _ _ _ _ h=>wpIn_label h
 |exit id=>unfold bD at e;cases e;exact sB hl (.exit id) (fun _=>rfl) fun _ _ _ _ h=>wpIn_exit h
 |goto l=>unfold bD at e;cases e;exact sB hl (.goto l) (fun _=>rfl) fun _ _ _ _ h=>wpIn_goto h
 |ret=>unfold bD at e;cases e;exact sB hl .ret (fun _=>rfl) fun _ _ _ _ h=>wpIn_ret h
 |refuse s=>unfold bD at e;cases e
 |seq x y=>
  unfold bD at e;simp only at e;obtain⟨m,p,e1,M,rfl⟩:=C.bind_some e;have hm:=ih.code _ _ _ _ _ e1 hl;obtain⟨g1,g2⟩:=Gn (P:=P) (f:=fun | (.normal,a')=>bD P Gl Gm Kp fuel y a' | r=>C.ret r) (T:=fun ro Q=>y.wpIn (Fw ro) 0 P Q) hm M
   (fun x' a' hx=>by cases x'<;>first | rfl | exact absurd rfl hx)
   (fun a' hv=>by
    rw[hv]at M;exact ih.code _ _ _ _ _ M hm.1.lt)
  exact⟨g1,fun K G w ro ca st O Q U=>wpIn_seq (g2 K G w ro ca st O Q U)⟩
 |cond cc x y=>
  unfold bD at e;simp only at e;cases hv:a.eval cc with
  |bool b=>
   rw[hv]at e;cases b with
   |true=>
    obtain⟨f1,k1⟩:=ih.code _ _ _ _ _ e hl;exact⟨f1,fun K G w ro ca st O Q U=>wpIn_cond_true (by have:=O.eval cc;rw[hv]at this;simpa only[aF]using this) (k1 K G w ro ca st O Q U)⟩
   |false=>
    obtain⟨f1,k1⟩:=ih.code _ _ _ _ _ e hl;exact⟨f1,fun K G w ro ca st O Q U=>wpIn_cond_false (by have:=O.eval cc;rw[hv]at this;simpa only[aF]using this) (k1 K G w ro ca st O Q U)⟩
  |_=>rw[hv]at e;cases e
 |block id x=>
  unfold bD at e;simp only at e;obtain⟨m,p,e1,M,rfl⟩:=C.bind_some e;obtain⟨f1,k1⟩:=ih.code _ _ _ _ _ e1 hl;have hp:∃ y,p={val:=(y,m.val.2),nx:=m.nx,hi:=m.nx,hp:=m.hp,rd:=0,wr:=0}/\
    ∀(G:Gh) (ex:Exit) (Q:Exit->Act->World->Prop) (ca:Act) (w:World),fN G m.val.1 ex->(∀ a1,fN G y a1->Q a1 ca w)->Exit.inBlock id Q ex ca w:=by
   obtain⟨⟨ev,a2⟩,nx,hi,hp,rd,wr⟩:=m;cases ev with
   |exit id'=>
    simp only at M;cases hid:(id'==id) with
    |true=>
     rw[hid]at M;cases M;have:id'=id:=(by simpa using hid);subst this;refine⟨.normal,rfl,fun G ex Q ca w r k=>?_⟩;simp only[fN]at r;subst r;simp only[Exit.inBlock,if_true];exact k .normal rfl
    |false=>
     rw[hid]at M;cases M;have:id'≠id:=(by simpa using hid);refine⟨.exit id',rfl,fun G ex Q ca w r k=>?_⟩;simp only[fN]at r;subst r;simp only[Exit.inBlock,this,if_false];exact k _ rfl
   |normal=>cases M;exact⟨_,rfl,fun G ex Q ca w r k=>by simp only[fN]at r;subst r;exact k _ rfl⟩
   |goto l=>cases M;exact⟨_,rfl,fun G ex Q ca w r k=>by simp only[fN]at r;subst r;exact k _ rfl⟩
   |ret=>cases M;exact⟨_,rfl,fun G ex Q ca w r k=>by simp only[fN]at r;subst r;exact k _ rfl⟩
   |pan v=>cases M;exact⟨_,rfl,fun G ex Q ca w r k=>by obtain⟨u,rfl,r⟩:=r;exact k _ ⟨u,rfl,r⟩⟩
  obtain⟨y,rfl,hy⟩:=hp;rw[qCh m _ f1];exact⟨f1.val _,fun K G w ro ca st O Q U=>wpIn_block (k1 K G w ro ca st O _ fun G1 ex Y w1 g1 g2 g3 g4=>hy G1 ex Q Y w1 g3 fun a1 r=>U G1 a1 Y w1 g1 g2 r g4)⟩
 |scope x=>
  unfold bD at e;simp only at e;obtain⟨m,p,e1,M,rfl⟩:=C.bind_some e;obtain⟨f1,k1⟩:=ih.code _ _ _ _ _ e1 hl;have hp:p={val:=m.val,nx:=m.nx,hi:=m.nx,hp:=m.hp,rd:=0,wr:=0}/\∀ l,m.val.1≠.goto l:=by
   obtain⟨⟨ev,a2⟩,nx,hi,hp,rd,wr⟩:=m;cases ev<;>first | (cases M;done) | (cases M;exact⟨rfl,fun l h=>by cases h⟩)
  obtain⟨rfl,a3⟩:=hp;rw[qCh m _ f1];refine⟨f1.val _,fun K G w ro ca st O Q U=>Vd (k1 K G w ro ca st O _ fun G1 ex Y w1 g1 g2 g3 g4=>?_)⟩;have:=U G1 ex Y w1 g1 g2 g3 g4;cases hx:m.val.1 with
  |goto l=>exact absurd hx (a3 l)
  |normal=>rw[hx]at g3;simp only[fN]at g3;subst g3;exact this
  |exit id=>rw[hx]at g3;simp only[fN]at g3;subst g3;exact this
  |ret=>rw[hx]at g3;simp only[fN]at g3;subst g3;exact this
  |pan v=>rw[hx]at g3;obtain⟨u,rfl,_⟩:=g3;exact this
 |region id ops dr=>
  unfold bD at e;cases dr with
  |false=>
   simp only at e;obtain⟨f1,k1⟩:=ih.ops _ _ _ _ _ _ e hl;exact⟨f1,fun K G w ro ca st O Q U=>wpIn_region (k1 K G w ro ca st O Q U _ Gk)⟩
  |true=>
   simp only at e;cases hap:kD ops (jS ops) with
   |false=>rw[hap]at e;cases e
   |true=>rw[hap]at e;exact ih.draw id ops a n h out hap e hl
theorem kZ.ne_run {m:Option AV}{u:FrameMode}(r:kZ G m u):u≠.run:=by
 cases m with
 |none=>simp only[kZ]at r;subst r;simp
 |some x=>obtain⟨v,rfl,_⟩:=r;simp
theorem Rv (ih:pL P Gl w0 B Gm Kp fuel)(fn:Func)(top:Bool)(a:bE)(mode:Option AV)(n:Nat)(h:Hp)(out:Out aS)
  (e:dV P Gl Gm Kp (fuel+1) fn top a mode n h=some out) (hl:aE n h):Vh P Gl w0 B fn a mode n h out:=by
 unfold dV at e;cases hd:a.defers with
 |nil=>
  rw[hd]at e;cases mode with
  |some v=>
   cases e;refine⟨Fr.ret _ hl,fun K G w ca u st O U R Y=>?_⟩;have M:=O.defers;rw[hd]at M;simp only[tU]at M;rw[M];obtain⟨v',rfl,h2⟩:=U;exact Y G _ w (eU.refl _ _ _) (by rw[gV];exact st.rel) ⟨v',rfl,h2⟩
  |none=>
   simp only at e;obtain⟨m,p,e1,e2,rfl⟩:=C.bind_some e;obtain⟨f1,a4,k1⟩:=jB e1 hl;obtain⟨q,e3,rfl⟩:=qCb e2 fun q Y=>(pI (w0:=w0) (B:=B) _ _ _ _ _ Y f1.lt []).1;have f2:=(pI (w0:=w0) (B:=B) _ _ _ _ _ e3 f1.lt []).1;refine⟨f1.seq (f2.val _),fun K G w ca u st O U R Y=>?_⟩;have M:=O.defers;rw[hd]at M;simp only[tU]at M;rw[M];simp only[kZ]at U;subst U;obtain⟨⟨c1,c2⟩,cvs,c3,c4⟩:=wM st.rel st.gl O.tmps _ _ _ _ _ (k1 _ st.left.agree);have st2:=st.right f1 (eU.refl _ _ _) (by rw[c2];exact st.rel);obtain⟨G',g1,g2,g3,g4⟩:=(pI (w0:=w0) (B:=B) _ _ _ _ _ e3 f1.lt cvs).2 _ G w st2.agree st2.rel st2.fresh c3;refine⟨_,tZ c4,Y G' _ w (eU.seq f1 (f2.val _) (eU.refl _ _ _) g1) ?_ ⟨_,rfl,Iv g4⟩⟩;rw[<- cO (f2.val _)];exact g2
 |cons d ds=>
  rw[hd]at e;cases d with
  |collected o=>
   simp only at e;obtain⟨m,p,e1,e2,rfl⟩:=C.bind_some e;obtain⟨f1,a4,k1⟩:=jB e1 hl;obtain⟨f2,k2⟩:=ih.leave _ _ _ _ _ _ _ e2 f1.lt;refine⟨f1.seq f2,fun K G w ca u st O U R Y=>?_⟩;have M:=O.defers;rw[hd]at M;obtain⟨de,es,h1,⟨I,h2,h3⟩,h4⟩:=M;obtain⟨g1,w1,g2,g3⟩:=Tk (P:=P) e1 hl st.left.agree st.rel h2;rw[h1];refine⟨U.ne_run,.inl ⟨I.blk,w1,h3,g2,?_⟩⟩;refine k2 _ G w1 {tmps:=ca.tmps,defers:=es} u (st.right f1 (eU.refl _ _ _) g3) ⟨O.tmps,h4,O.rnd⟩ U R fun G' en w' a1 a2 a3=>?_;exact Y G' en w' (eU.seq f1 f2 (eU.refl _ _ _) a1) (by rw[<- cO f2];exact a2) a3
  |call fv args=>
   cases fv with
   |func f=>
    simp only at e;obtain⟨m,_,e1,e2,rfl⟩:=C.bind_some e;obtain⟨q,p,e3,e4,rfl⟩:=C.bind_some e2;obtain⟨f1,a4,k1⟩:=jB e1 hl;obtain⟨f2,k2⟩:=ih.dfr _ _ _ _ _ _ e3 f1.lt;obtain⟨f3,k3⟩:=ih.leave _ _ _ _ _ _ _ e4 f2.lt;refine⟨f1.seq (f2.seq f3),fun K G w ca u st O U R Y=>?_⟩;have M:=O.defers;rw[hd]at M;obtain⟨de,es,h1,⟨cap,h2,h3⟩,h4⟩:=M;obtain⟨_,_,⟨c1,c2⟩,c3⟩:=rY (w:=w) h3 (k1 _ st.left.agree);have st2:=st.right f1 (eU.refl _ _ _) (by rw[c2];exact st.rel);rw[h1];refine⟨U.ne_run,.inr ⟨fun h=>by simp[Fw,Fence.wide]at h,.func f,cap,f,de.args++cap,h2,?_,fun _ _=>trivial,?_⟩⟩
    .rw[h2];simp only[invoke];exact c3
    .refine k2 _ G w _ u st2.left h3 U _ fun G' v u' w' a1 a2 a3=>?_;refine k3 _ G' w' {tmps:=ca.tmps,defers:=es} (settle u') (st2.right f2 a1 a2) ⟨O.tmps.mono a1.le _ _,tU.mono a1.le h4,(O.mono a1.le).rnd⟩ a3.settle R fun G2 en w2 b1 b2 b3=>?_;exact Y G2 en w2 (eU.seq f1 (f2.seq f3) (eU.refl _ _ _) (eU.seq f2 f3 a1 b1)) (by rw[<- cO (f2.seq f3),<- cO f3];exact b2) b3
   |_=>cases e
theorem xF {args:List AV}{cargs:Array Value}{nt:Nat}(hv:aI G args cargs.toList) :
  eT G none {tmps:=args++List.replicate (nt-args.length) .undef,defers:=[],rnd:=none} {tmps:=cargs++Array.replicate (nt-cargs.size) Go.undef,defers:=[]}:=by
 refine⟨?_,rfl,rfl⟩;have M:args.length=cargs.size:=(by simpa using hv.length);rw[Array.toList_append,Array.toList_replicate,M];exact aI.append hv (aI.replicate (by simp only[aF]) _)
theorem ER (ih:pL P Gl w0 B Gm Kp fuel)(f:FuncId)(args:List AV)(mode:Option AV)(n:Nat)(h:Hp)(out:Out (Option AV))
  (e:fP P Gl Gm Kp (fuel+1) f args mode n h=some out) (hl:aE n h):OD P Gl w0 B f args mode n h out:=by
 unfold fP at e;cases hf:P.funcs[f]? with
 |none=>rw[hf]at e;cases e
 |some fn=>
  rw[hf]at e;simp only at e;cases hb:fn.body with
  |none=>rw[hb]at e;cases e
  |some c=>
   rw[hb]at e;simp only at e;obtain⟨m,p,e1,M,rfl⟩:=C.bind_some e;obtain⟨f1,k1⟩:=ih.dcode _ _ _ _ _ _ e1 hl;have hp:(m.val.1=.normal\/m.val.1=.ret)/\m.val.2.1.defers=[]/\fn.results.toList=[]/\p={val:=m.val.2.2,nx:=m.nx,hi:=m.nx,hp:=m.hp,rd:=0,wr:=0}:=by
    obtain⟨⟨ev,a2,_⟩,nx,hi,hp,rd,wr⟩:=m;cases ev with
    |normal=>
     simp only at M;cases hd:a2.defers with
     |nil=>cases Y:fn.results.toList with
      |nil=>rw[hd,Y]at M;cases M;exact⟨.inl rfl,rfl,rfl,rfl⟩
      |cons _ _=>rw[hd,Y]at M;cases M
     |cons _ _=>rw[hd]at M;cases M
    |ret=>
     simp only at M;cases hd:a2.defers with
     |nil=>cases Y:fn.results.toList with
      |nil=>rw[hd,Y]at M;cases M;exact⟨.inr rfl,rfl,rfl,rfl⟩
      |cons _ _=>rw[hd,Y]at M;cases M
     |cons _ _=>rw[hd]at M;cases M
    |exit _=>cases M
    |goto _=>cases M
    |pan _=>cases M
   obtain⟨hx,hd,Y,rfl⟩:=hp;rw[qCh m _ f1];refine⟨f1.val _,fun K G w cargs u st hv hM R hq=>callsDIn_of_wpSIn hf hb trivial fun c₀ cs hu=>?_⟩;have a7:({c₀ with mode:=u}:Frame)=c₀:=(by subst hu;rfl);have:=k1 K G w _ c₀ cs u st (xF (nt:=fn.ntmps) hv) hM.mr (bodyPostS P fn c₀ cs R) fun G' ex O u' w' a1 a2 a3 a4 a5=>?_
   .rw[a7]at this;exact this
   .have U:=a4.defers;rw[hd]at U;simp only[tU]at U;have a6:(results fn O.tmps).run P w'=.ok (.tuple #[]) w':=by
     have:=tZ (P:=P) (w:=w') (fn:=fn) (tmps:=O.tmps) (cvs:=[]) (by rw[Y];simp);simpa using this
    have fin:O.defers=[]/\∃ u'',({c₀ with mode:=u'}:Frame)::cs={c₀ with mode:=u''}::cs/\∃ v,(results fn O.tmps).run P w'=.ok v w'/\R (.returned v) u'' w':=
     ⟨U,u',rfl,_,a6,hq G' _ u' w' a1 a2 a5⟩
    rcases hx with hx | hx
    .rw[hx]at a3;simp only[fN]at a3;subst a3;exact fin
    .rw[hx]at a3;simp only[fN]at a3;subst a3;exact fin
theorem Ku (ops:Array Oper)(a:bE)(mode:Option AV)(hl:aE n h):Pf P Gl w0 B ops [] a mode n h {val:=(.normal,a,mode),nx:=n,hi:=n,hp:=h,rd:=0,wr:=0}:=
 ⟨Fr.ret _ hl,fun K G w ca _ cs u st O U Q Y is M=>by
  have:is=[]:=(by simpa using M);subst this;simp only[wpOpsSIn];exact Y G .normal ca u w (eU.refl _ _ _) (by rw[gV];exact st.rel) rfl O U⟩
theorem sP {a:bE}{ca:Act}{o:Oper}(hR:eO w0 B K G w)(hG:Pg G Gl)(hA:eT G none a ca)(h:isRecover o.op=true):(execOp ca.eval o).run P w=.ok .recover w:=by
 have M:(fF P Gl a.eval o).runK 0 K=some (.rcv,0,K):=by
  unfold fF;cases ho:o.op<;>simp only[ho,isRecover]at h<;>try (cases h;done)
  rename_i c;simp only;cases hc:c.callee with
  |builtin b=>
   rw[hc]at h;cases b<;>simp at h
   have:c.args=#[]:=h;simp[this,AM.runK]
  |_=>rw[hc]at h;simp at h
 obtain⟨_,h2⟩:=nN hR (fun t h1 h2=>by omega) hG hA M;exact h2
theorem Yd (ih:pL P Gl w0 B Gm Kp fuel)(ops:Array Oper)(l:List Oper)(a:bE)(mode:Option AV)(n:Nat)(h:Hp)(out:Out (mQ×bE×Option AV))
  (e:fJ P Gl Gm Kp (fuel+1) ops l a mode n h=some out) (hl:aE n h):Pf P Gl w0 B ops l a mode n h out:=by
 cases l with
 |nil=>unfold fJ at e;cases e;exact Ku ops a mode hl
 |cons o r=>
  unfold fJ at e;cases hg:cI ops a o with
  |false=>rw[hg]at e;cases e
  |true=>
   rw[hg]at e;simp only[cond_true]at e;cases hw:dY ops a o with
   |false=>
    rw[hw]at e;simp only[cond_false]at e;obtain⟨f1,k1⟩:=ih.dops _ _ _ _ _ _ _ e hl;refine⟨f1,fun K G w ca c₀ cs u st O Y Q hq is M=>?_⟩;cases is with
    |nil=>simp at M
    |cons i is=>
     simp only[List.map_cons,List.cons.injEq]at M;simp only[wpOpsSIn,M.1,dO O.tmps hg,hw];exact⟨fun _ _=>trivial,k1 K G w _ c₀ cs u st (O.put o.dst (by simp only[aF])) Y Q hq is M.2⟩
   |true=>
    rw[hw]at e;simp only[cond_true]at e;cases hrec:isRecover o.op with
    |true=>
     rw[hrec]at e;simp only[cond_true]at e;cases mode with
     |some v=>
      simp only at e;obtain⟨f1,k1⟩:=ih.dops _ _ _ _ _ _ _ e hl;refine⟨f1,fun K G w ca c₀ cs u st O Y Q hq is M=>?_⟩;cases is with
      |nil=>simp at M
      |cons i is=>
       simp only[List.map_cons,List.cons.injEq]at M;obtain⟨v',rfl,hv⟩:=Y;simp only[wpOpsSIn,M.1,dO O.tmps hg,hw,if_true,sP st.rel st.gl O hrec,recoverD];exact⟨fun _ _=>trivial,k1 K G w _ c₀ cs _ st (O.put o.dst hv) (.inr ⟨v',rfl⟩) Q hq is M.2⟩
     |none=>
      simp only at e;obtain⟨f1,k1⟩:=ih.dops _ _ _ _ _ _ _ e hl;refine⟨f1,fun K G w ca c₀ cs u st O Y Q hq is M=>?_⟩;cases is with
      |nil=>simp at M
      |cons i is=>
       simp only[List.map_cons,List.cons.injEq]at M;have a9:=Y;rcases Y with rfl | ⟨v',rfl⟩
       .simp only[wpOpsSIn,M.1,dO O.tmps hg,hw,if_true,sP st.rel st.gl O hrec,recoverD];exact⟨fun _ _=>trivial,k1 K G w _ c₀ cs _ st (O.put o.dst (by simp only[aF])) a9 Q hq is M.2⟩
       .simp only[wpOpsSIn,M.1,dO O.tmps hg,hw,if_true,sP st.rel st.gl O hrec,recoverD];exact⟨fun _ _=>trivial,k1 K G w _ c₀ cs _ st (O.put o.dst (by simp only[aF])) a9 Q hq is M.2⟩
    |false=>
     rw[hrec]at e;simp only[cond_false]at e;obtain⟨m,p,e1,U,rfl⟩:=C.bind_some e;obtain⟨f1,aa,k1⟩:=jB e1 hl;have a6:∀{K:cG}{G:Gh}{w:World}{ca:Act},St w0 B Gl K G w n (m.seq p).hi h ((m.seq p).rd|||(m.seq p).wr)->eT G none a ca->
       fB P w0 B w n m.nx K (K.merge m) G (execOp ca.eval o) m.val:=fun st O=>
      nN st.rel (by have:=st.left.fresh;rw[aa]at this;exact this) st.gl O (k1 _ st.left.agree)
     cases hv:m.val with
     |val x=>
      rw[hv]at U;obtain⟨f2,k2⟩:=ih.dops _ _ _ _ _ _ _ U f1.lt;refine⟨f1.seq f2,fun K G w ca c₀ cs u st O Y Q hq is M=>?_⟩;cases is with
      |nil=>simp at M
      |cons i is=>
       simp only[List.map_cons,List.cons.injEq]at M;have:=a6 st O;rw[hv]at this;obtain⟨G1,v,w1,r1,r2,r3,r4⟩:=this;simp only[wpOpsSIn,M.1,dO O.tmps hg,hw,if_true,r1];exact⟨fun _ _=>trivial,k2 _ G1 w1 _ c₀ cs u (st.right f1 r2 r3) ((O.mono r2.le).put o.dst r4) (Y.mono r2.le) Q (fun G2 a8 a7 u2 w2 a1 a2 a3 a4 a5=>
        hq G2 a8 a7 u2 w2 (eU.seq f1 f2 r2 a1) (by rw[<- cO f2];exact a2) a3 a4 a5) is M.2⟩
     |skip=>
      rw[hv]at U;obtain⟨f2,k2⟩:=ih.dops _ _ _ _ _ _ _ U f1.lt;refine⟨f1.seq f2,fun K G w ca c₀ cs u st O Y Q hq is M=>?_⟩;cases is with
      |nil=>simp at M
      |cons i is=>
       simp only[List.map_cons,List.cons.injEq]at M;have:=a6 st O;rw[hv]at this;obtain⟨G1,w1,r1,r2,r3⟩:=this;simp only[wpOpsSIn,M.1,dO O.tmps hg,hw,if_true,r1];exact⟨fun _ _=>trivial,k2 _ G1 w1 _ c₀ cs u (st.right f1 r2 r3) ((O.mono r2.le).put o.dst (by simp only[aF])) (Y.mono r2.le) Q (fun G2 a8 a7 u2 w2 a1 a2 a3 a4 a5=>
        hq G2 a8 a7 u2 w2 (eU.seq f1 f2 r2 a1) (by rw[<- cO f2];exact a2) a3 a4 a5) is M.2⟩
     |pan x=>
      rw[hv]at U;simp only[C.ret,Option.some.injEq]at U;subst U;rw[qCh m _ f1];refine⟨f1.val _,fun K G w ca c₀ cs u st O Y Q hq is M=>?_⟩;cases is with
      |nil=>simp at M
      |cons i is=>
       simp only[List.map_cons,List.cons.injEq]at M;have:=nN st.rel (by have:=st.fresh;rw[show m.hi=m.nx from aa]at this;exact this) st.gl O (k1 _ st.agree);rw[hv]at this;obtain⟨⟨_,hK⟩,v,r1,r4⟩:=this;simp only[wpOpsSIn,M.1,dO O.tmps hg,hw,if_true,r1];exact⟨fun _ _=>trivial,hq G _ ca u w (eU.refl _ _ _) (show eO w0 B (K.merge m) G w by rw[hK];exact st.rel) ⟨v,rfl,r4⟩ O Y⟩
     |enter f args=>rw[hv]at U;cases U
     |round l args=>rw[hv]at U;cases U
     |dfr d=>rw[hv]at U;cases U
     |rcv=>rw[hv]at U;cases U
theorem Nn {G:Gh}{x:mQ}{e:Exit}{K:Act->List Frame->World->Prop}{Q:Exit->Act->List Frame->World->Prop}{ca:Act}{cs:List Frame}(hx:x≠.normal)(r:fN G x e)(h:Q e ca cs w) :
  Exit.thenS K Q e ca cs w:=by
 cases x<;>simp only[fN]at r
 .exact absurd rfl hx
 .subst r;exact h
 .subst r;exact h
 .subst r;exact h
 .obtain⟨v,rfl,_⟩:=r;exact h
theorem Qj (ih:pL P Gl w0 B Gm Kp fuel)(c:Code)(a:bE)(mode:Option AV)(n:Nat)(h:Hp)(out:Out (mQ×bE×Option AV))
  (e:zP P Gl Gm Kp (fuel+1) c a mode n h=some out) (hl:aE n h):Gy P Gl w0 B c a mode n h out:=by
 have gen:∀ c:Code,C.bind (bD P Gl Gm Kp fuel c a) (fun r=>C.ret (r.1,r.2,mode)) n h=some out->Gy P Gl w0 B c a mode n h out:=by
  intro c e;obtain⟨m,e1,rfl⟩:=qCb e fun o ho=>(ih.code _ _ _ _ _ ho hl).1;obtain⟨f1,k1⟩:=ih.code _ _ _ _ _ e1 hl;exact⟨f1.val _,fun K G w ca c₀ cs u st hA hM Q hq=>wpSIn_of_wpIn rfl (k1 K G w none ca st hA _ fun G' ex a7 w' O U M a4=>hq G' ex a7 u w' O U M a4 (hM.mono O.le))⟩
 cases c with
 |seq x y=>
  unfold zP at e;simp only at e;obtain⟨m,p,e1,e2,rfl⟩:=C.bind_some e;obtain⟨f1,k1⟩:=ih.dcode _ _ _ _ _ _ e1 hl;by_cases hx:m.val.1=.normal
  .have a6:zP P Gl Gm Kp fuel y m.val.2.1 m.val.2.2 m.nx m.hp=some p:=by
    obtain⟨⟨ev,U,m2⟩,nx,hi,hp,rd,wr⟩:=m;simp only at hx;subst hx;exact e2
   obtain⟨f2,k2⟩:=ih.dcode _ _ _ _ _ _ a6 f1.lt;refine⟨f1.seq f2,fun K G w ca c₀ cs u st hA hM Q hq=>wpSIn_seq (k1 K G w ca c₀ cs u st.left hA hM _ fun G1 ex Y u1 w1 O U M a4 a5=>?_)⟩;rw[hx]at M;simp only[fN]at M;subst M;exact k2 _ G1 w1 Y c₀ cs u1 (st.right f1 O U) a4 a5 Q fun G2 e2 a8 u2 w2 b1 b2 b3 b4 b5=>hq G2 e2 a8 u2 w2 (eU.seq f1 f2 O b1) (by rw[<- cO f2];exact b2) b3 b4 b5
  .have a6:p={val:=m.val,nx:=m.nx,hi:=m.nx,hp:=m.hp,rd:=0,wr:=0}:=by
    obtain⟨⟨ev,U,m2⟩,nx,hi,hp,rd,wr⟩:=m;cases ev<;>first | exact absurd rfl hx | (cases e2;rfl)
   subst a6;rw[qCh m _ f1];exact⟨f1.val _,fun K G w ca c₀ cs u st hA hM Q hq=>wpSIn_seq (k1 K G w ca c₀ cs u st hA hM _ fun G1 ex Y u1 w1 O U M a4 a5=>
    Nn hx M (hq G1 ex Y u1 w1 O U M a4 a5))⟩
 |region id ops dr=>
  cases dr with
  |false=>
   unfold zP at e;simp only at e;obtain⟨f1,k1⟩:=ih.dops _ _ _ _ _ _ _ e hl;exact⟨f1,fun K G w ca c₀ cs u st hA hM Q hq=>wpSIn_region (k1 K G w ca c₀ cs u st hA hM Q hq _ Gk)⟩
  |true=>unfold zP at e;exact gen _ e
 |_=>unfold zP at e;exact gen _ e
theorem uB:∀(ps:List Tmp) (args:List AV) (ts:List AV) (tmps:Array Value) (cargs:List Value),aI G ts tmps.toList->aI G args cargs->
  aI G (jJ ts ps args) ((ps.zip cargs).foldl (fun (tmps:Array Value) (q:Tmp×Value)=>tmps.setIfInBounds q.1 q.2) tmps).toList
 |[],_,ts,tmps,cargs,h,k=>by simpa [jJ]using h
 |p::ps,[],ts,tmps,cargs,h,k=>by
  simp only[aI]at k;subst k;simpa [jJ]using h
 |p::ps,v::vs,ts,tmps,cargs,h,k=>by
  simp only[aI]at k;obtain⟨u,us,rfl,k1,k2⟩:=k;simp only[jJ,List.zip_cons_cons,List.foldl_cons];exact uB ps vs _ _ us (by simpa using h.set p k1) k2
theorem CS {l:Nat}{L:Loop}{cargs:Array Value}(h:w.heap[l]?=some (.loop L))(hs:cargs.size=L.params.size) :
  (Instr.yield l cargs).run P w=.ok (.round l L.fn ((L.params.toList.zip cargs.toList).foldl (fun (tmps:Array Value) (q:Tmp×Value)=>tmps.setIfInBounds q.1 q.2) L.tmps) L.assign L.body) w:=by
 have:(L.params.zip cargs).foldl (fun (tmps:Array Value) (q:Tmp×Value)=>tmps.setIfInBounds q.1 q.2) L.tmps =
   (L.params.toList.zip cargs.toList).foldl (fun (tmps:Array Value) (q:Tmp×Value)=>tmps.setIfInBounds q.1 q.2) L.tmps:=by
  rw[<- Array.foldl_toList];simp
 have M:L.params.size=(L.params.zip cargs).size:=(by simp[hs]);simp[Instr.yield,oW h,hs];rw[M];exact this
theorem xI {l:Nat}{I:lR}{m:Out Unit}(e:C.am (.get l fun
     |.loop .ready p fn ts ps ag b d=>.set l (.loop .busy p fn ts ps ag b d) (.ret ())
     |_=>.fail) n h=some m) (hl:aE n h) (hA:Agree K h (m.rd|||m.wr)) (hR:eO w0 B K G w) (hI:G.nm l=some I) :
  m.nx=n/\∃ w',(Instr.beginRound I.blk).run P w=.ok () w'/\eO w0 B (K.merge m) G w':=by
 obtain⟨f1,_,k1⟩:=jB e hl;have M:=k1 K hA;simp only[AM.runK]at M;cases hK:K l with
 |none=>rw[hK]at M;cases M
 |some x=>
  rw[hK]at M;cases x with
  |loop st p fn ts ps ag b d=>
   obtain⟨L,h1,h2,Y,_,_,_,_,h8⟩:=wE hR hK hI;cases st with
   |ready=>
    simp only[AM.runK,hK,Option.some.injEq,Prod.mk.injEq]at M;obtain⟨_,O,U⟩:=M;refine⟨O.symm,_,?_,by rw[<- U];exact h8 .busy p⟩;subst Y;simp[Instr.beginRound,oW h1,uV h1,h2]
   |_=>simp[AM.runK]at M
  |_=>simp[AM.runK]at M
def PX (l:Nat)(e:mQ):AM aS:=.get l fun
      |.loop _ _ fn ts ps ag b d=>match e with
       |.normal=>.set l (.loop .ready none fn ts ps ag b d) (.ret (.returned (.bool true)))
       |.ret=>.set l (.loop .done (some .ret) fn ts ps ag b d) (.ret (.returned (.bool false)))
       |.exit id=>.set l (.loop .done (some (.exit id)) fn ts ps ag b d) (.ret (.returned (.bool false)))
       |.goto t=>.set l (.loop .done (some (.goto t)) fn ts ps ag b d) (.ret (.returned (.bool false)))
       |.pan _=>.fail
      |_=>.fail
def RQ:mQ->Option Code
 |.normal=>none
 |.ret=>some .ret
 |.exit id=>some (.exit id)
 |.goto t=>some (.goto t)
 |.pan _=>none
theorem Au {l:Nat}{I:lR}{m:Out aS}{x:mQ}(e:C.am (PX l x) n h=some m)(hl:aE n h)(hA:Agree K h (m.rd|||m.wr))(hR:eO w0 B K G w)(hI:G.nm l=some I) :
  m.nx=n/\∃ v w',(Instr.endRound I.blk (RQ x)).run P w=.ok v w'/\eO w0 B (K.merge m) G w'/\rV G m.val (.returned v):=by
 obtain⟨f1,_,k1⟩:=jB e hl;have M:=k1 K hA;simp only[PX,AM.runK]at M;cases hK:K l with
 |none=>rw[hK]at M;cases M
 |some y=>
  rw[hK]at M;cases y with
  |loop st p fn ts ps ag b d=>
   obtain⟨L,h1,h2,_,_,_,_,_,h8⟩:=wE hR hK hI;have fin:∀(j:Option Code),.returned (.bool j.isNone)=m.val->n=m.nx->K.upd l (some (.loop (if j.isNone then .ready else .done) j fn ts ps ag b d))=K.merge m->
     m.nx=n/\∃ v w',(Instr.endRound I.blk j).run P w=.ok v w'/\eO w0 B (K.merge m) G w'/\rV G m.val (.returned v):=by
    intro j O U Y;refine⟨U.symm,.bool j.isNone,_,?_,by rw[<- Y];exact h8 _ j,?_⟩
    .simp[Instr.endRound,oW h1,uV h1]
    .rw[<- O];exact⟨_,rfl,by simp only[aF]⟩
   cases x with
   |pan _=>simp[AM.runK]at M
   |normal=>
    simp only[AM.runK,hK,Option.some.injEq,Prod.mk.injEq]at M;exact fin none M.1 M.2.1 M.2.2
   |ret=>
    simp only[AM.runK,hK,Option.some.injEq,Prod.mk.injEq]at M;exact fin (some .ret) M.1 M.2.1 M.2.2
   |exit id=>
    simp only[AM.runK,hK,Option.some.injEq,Prod.mk.injEq]at M;exact fin (some (.exit id)) M.1 M.2.1 M.2.2
   |goto t=>
    simp only[AM.runK,hK,Option.some.injEq,Prod.mk.injEq]at M;exact fin (some (.goto t)) M.1 M.2.1 M.2.2
  |_=>simp[AM.runK]at M
theorem Tc (ih:pL P Gl w0 B Gm Kp fuel)(l:Nat)(args:List AV)(n:Nat)(h:Hp)(out:Out aS)
  (e:jV P Gl Gm Kp (fuel+1) l args n h=some out) (hl:aE n h):Vj P Gl w0 B l args n h out:=by
 unfold jV at e;obtain⟨m,_,e1,e2,rfl⟩:=C.bind_some e;obtain⟨⟨_,_,_⟩,_,_,_,_,_⟩:=m;obtain⟨f1,_,k1⟩:=jB e1 hl;simp only at e2;obtain⟨q,p2,e3,e4,rfl⟩:=C.bind_some e2;obtain⟨f2,k2⟩:=ih.code _ _ _ _ _ e3 f1.lt;obtain⟨⟨qx,_⟩,_,_,_,_,_⟩:=q;cases qx with
 |normal=>
  simp only at e4;obtain⟨c,p3,e5,e6,rfl⟩:=C.bind_some e4;obtain⟨f3,_,k3⟩:=jB e5 f2.lt;obtain⟨d,p,e7,Y,rfl⟩:=C.bind_some e6;obtain⟨f4,k4⟩:=ih.code _ _ _ _ _ e7 f3.lt;have a7:C.am (PX l d.val.1) d.nx d.hp=some p/\(∀ v,d.val.1≠.pan v):=by
   obtain⟨⟨ev,a2⟩,nx,hi,hp,rd,wr⟩:=d;cases ev<;>first | (cases Y;done) | exact⟨Y,fun v h=>by cases h⟩
  obtain⟨Y,a8⟩:=a7;obtain⟨f5,_,k5⟩:=jB Y f4.lt;refine⟨f1.seq (f2.seq (f3.seq (f4.seq f5))),fun K G w ro I cargs st hI hv R hq=>?_⟩;have O:=k1 K st.left.agree;simp only[AM.runK]at O;cases hK:K l with
  |none=>rw[hK]at O;cases O
  |some x=>
   rw[hK]at O;cases x with
   |loop s0 p0 fn ts ps ag b d0=>
    obtain⟨L,h1,h2,_,h4,h5,h6,h7,_⟩:=wE st.rel hK hI;simp only at O;cases hps:(ps.length==args.length) with
    |false=>rw[hps]at O;simp[AM.runK]at O
    |true=>
     rw[hps]at O;simp only[cond_true,AM.runK,Option.some.injEq,Prod.mk.injEq]at O;obtain⟨⟨rfl,rfl,rfl⟩,a2,a3⟩:=O;have a1:cargs.size=L.params.size:=by
      have b1:ps.length=args.length:=(by simpa using hps);have b2:=hv.length;rw[<- h5]at b1;simp at b1 b2;omega
     have a9:aI G (jJ ts ps args) ((L.params.toList.zip cargs.toList).foldl (fun (tmps:Array Value) (q:Tmp×Value)=>tmps.setIfInBounds q.1 q.2) L.tmps).toList:=by
      rw[h5];exact uB ps args ts L.tmps cargs.toList h4 hv
     refine⟨L.fn,_,L.assign,L.body,CS h1 a1,?_⟩;rw[h6,h7];have st2:=st.right f1 (eU.refl _ _ _) (by rw[<- a3];exact st.rel);refine roundIn_of_wpIn trivial (k2 _ G w (some I.blk) {tmps:=_,defers:=[]} st2.left ⟨a9,rfl,⟨I,hI,rfl⟩⟩ _ fun G1 ex a6 w1 g1 g2 g3 g4=>?_);simp only[fN]at g3;subst g3;have U:=st2.right f2 g1 g2;obtain⟨n1,w2,n2,n3⟩:=xI (P:=P) e5 f2.lt U.left.agree U.rel (g1.le.1 _ _ hI);have a4:=U.right f3 (eU.refl _ _ _) n3;refine⟨w2,n2,k4 _ G1 w2 (some I.blk) a6 a4.left g4 _ fun G2 _ _ w3 t1 t2 M _=>?_⟩;have a5:=a4.right f4 t1 t2;obtain⟨n4,v,w4,n5,n6,n7⟩:=Au (P:=P) Y f4.lt a5.agree a5.rel (t1.le.1 _ _ (g1.le.1 _ _ hI));have fin:R (.returned v) w4:=by
      refine hq G2 _ w4 (eU.seq f1 (f2.seq (f3.seq (f4.seq f5))) (eU.refl _ _ _) (eU.seq f2 (f3.seq (f4.seq f5)) g1 (eU.seq f3 (f4.seq f5) (eU.refl _ _ _) (eU.seq f4 f5 t1 (eU.refl _ _ _))))) ?_ n7;rw[<- cO (f2.seq (f3.seq (f4.seq f5))),<- cO (f3.seq (f4.seq f5)),<- cO (f4.seq f5),<- cO f5];exact n6
     cases hdv:d.val.1 with
     |normal=>rw[hdv]at M n5;simp only[fN]at M;subst M;exact⟨v,w4,n5,fin⟩
     |ret=>rw[hdv]at M n5;simp only[fN]at M;subst M;exact⟨v,w4,n5,fin⟩
     |exit id=>rw[hdv]at M n5;simp only[fN]at M;subst M;exact⟨v,w4,n5,fin⟩
     |goto t=>rw[hdv]at M n5;simp only[fN]at M;subst M;exact⟨v,w4,n5,fin⟩
     |pan u=>exact absurd hdv (a8 u)
   |_=>simp[AM.runK]at O
 |_=>cases e4
theorem Xo (hfree:mR Gl)(ih:∀(w0:Base) (B:Nat),pL P Gl w0 B Gm Kp fuel)(hGm:∀ f g,Gm f=some g->∀ args n h out,g args n h=some out->aE n h->nR P Gl w0 B f args n h out)
  (f:FuncId) (args:List AV) (n:Nat) (h:Hp) (out:Out aS) (e:fT P Gl Gm Kp (fuel+1) f args n h=some out) (hl:aE n h):nR P Gl w0 B f args n h out:=by
 unfold fT at e;cases hg:Gm f with
 |some g=>rw[hg]at e;exact hGm f g hg _ _ _ _ e hl
 |none=>
  rw[hg]at e;simp only at e;cases hf:P.funcs[f]? with
  |none=>rw[hf]at e;cases e
  |some fn=>
   rw[hf]at e;simp only at e;cases hb:fn.body with
   |none=>rw[hb]at e;cases e
   |some c=>
    rw[hb]at e;simp only at e;refine DN (fun w0 B n h out e hl=>?_) w0 B n h out e hl;have ih:=ih w0 B;obtain⟨m,p,e1,Y,rfl⟩:=C.bind_some e;obtain⟨f1,k1⟩:=ih.code _ _ _ _ _ e1 hl;have U:∃ mode,dV P Gl Gm Kp fuel fn (Kp f).1 m.val.2 mode m.nx m.hp=some p/\
      ((mode=none/\(m.val.1=.normal\/m.val.1=.ret))\/∃ v,mode=some v/\m.val.1=.pan v):=by
     obtain⟨⟨ev,_⟩,nx,hi,hp,rd,wr⟩:=m;cases ev with
     |normal=>exact⟨none,Y,.inl ⟨rfl,.inl rfl⟩⟩
     |ret=>exact⟨none,Y,.inl ⟨rfl,.inr rfl⟩⟩
     |pan v=>exact⟨some v,Y,.inr ⟨v,rfl,rfl⟩⟩
     |exit _=>cases Y
     |goto _=>cases Y
    obtain⟨mode,e3,O⟩:=U;obtain⟨f2,k2⟩:=ih.leave _ _ _ _ _ _ _ e3 f1.lt;refine⟨f1.seq f2,fun K G w cargs st hv R hq=>callsIn_of_wp_marks hf hb trivial ?_⟩;refine k1 K G w none _ st.left (xF (nt:=fn.ntmps) hv) _ fun G1 ex M w1 g1 g2 g3 g4=>?_;have fin:∀ u,kZ G1 mode u->LeavesInM (Fw none) 0 P fn M.tmps R M.defers u w1:=fun u hu=>
     k2 _ G1 w1 M u (st.right f1 g1 g2) g4 hu R fun G2 en w2 t1 t2 t3=>hq G2 en w2 (eU.seq f1 f2 g1 t1) (by rw[<- cO f2];exact t2) t3
    rcases O with⟨rfl,U | U⟩ | ⟨v,rfl,U⟩
    .rw[U]at g3;simp only[fN]at g3;subst g3;exact fin _ rfl
    .rw[U]at g3;simp only[fN]at g3;subst g3;exact fin _ rfl
    .rw[U]at g3;obtain⟨v',rfl,g5⟩:=g3;exact fin _ ⟨v',rfl,g5⟩
end
section
variable {P:Program}{Gl:qC6}{Gm:qC7}{Kp:qC8}
theorem Wy {ρ ρ':Operand->AV}(o:Oper)(h:∀ x ∈ o.op.operands,ρ x=ρ' x):fF P Gl ρ o=fF P Gl ρ' o:=by
 obtain⟨dst,op,type,pos,after,guard⟩:=o;have O:∀ ps:Array (Nat×Operand),(∀ x ∈ ps.map (·.2),ρ x=ρ' x)->
   (ps.toList.map fun (i,x)=>(i,ρ x))=(ps.toList.map fun (i,x)=>(i,ρ' x)):=fun ps hp=>
  List.map_congr_left fun p hm=>by
   obtain⟨i,x⟩:=p;simp only[hp x (Array.mem_map.2 ⟨(i,x),by simpa using hm,rfl⟩)]
 have args:∀ ps:Array Operand,(∀ x ∈ ps,ρ x=ρ' x)->ps.toList.map ρ=ps.toList.map ρ':=fun ps hp=>
  List.map_congr_left fun p hm=>hp p (by simpa using hm)
 cases op<;>simp only[Op.operands]at h<;>simp only[fF]
 case build t ps=>rw[O ps fun x M=>h x (by simpa using M)]
 case buildSlice t n ps=>rw[O ps fun x M=>h x (by simpa using M)]
 case makeFunc fn first captured=>rw[args first fun x M=>h x (by simp[M]),args captured fun x M=>h x (by simp[M])]
 case call c=>
  have U:=args c.args fun x M=>h x (by simp[Call.operands,M]);cases hc:c.callee with
  |value f=>have Y:ρ f=ρ' f:=h f (by simp[Call.operands,hc]);simp only[Y,U]
  |invoke r m=>rfl
  |builtin b=>simp only[U]
 case defer c=>
  have U:=args c.args fun x M=>h x (by simp[Call.operands,M]);cases hc:c.callee with
  |value f=>have Y:ρ f=ρ' f:=h f (by simp[Call.operands,hc]);simp only[Y,U]
  |invoke r m=>rfl
  |builtin b=>rfl
 case makeMap t r=>
  cases r with
  |none=>rfl
  |some x=>
   have M:ρ x=ρ' x:=h x sm;cases P.underlying t with
   |none=>rfl
   |some d=>cases d<;>first | rfl | simp only[M]
 case slice t x lo hi mx=>cases lo<;>cases hi<;>cases mx<;>simp_all
 all_goals (first | rfl | (simp_all;done))
structure Same (ops:Array Oper)(o:Oper)(a a':bE):Prop where
 rnd:a.rnd=a'.rnd
 tmps:∀ t ∈ o.looksAt ops,a.tmps[t]?=a'.tmps[t]?
theorem Same.refl (ops:Array Oper)(o:Oper)(a:bE):Same ops o a a:=⟨rfl,fun _ _=>rfl⟩
theorem Same.symm {ops:Array Oper}{o:Oper}{a a':bE}(h:Same ops o a a'):Same ops o a' a:=⟨h.rnd.symm,fun t M=>(h.tmps t M).symm⟩
theorem Same.trans {ops:Array Oper}{o:Oper}{a b c:bE}(h:Same ops o a b)(k:Same ops o b c):Same ops o a c:=⟨h.rnd.trans k.rnd,fun t M=>(h.tmps t M).trans (k.tmps t M)⟩
theorem Same.eval {ops:Array Oper}{o:Oper}{a a':bE}(h:Same ops o a a'):∀ x ∈ o.op.operands,a.eval x=a'.eval x:=by
 intro x M;cases x with
 |tmp t=>
  have:=h.tmps t (List.mem_append_left _ (List.mem_filterMap.2 ⟨.tmp t,by simpa using M,rfl⟩));simp only[bE.eval,List.getD_eq_getElem?_getD,this]
 |_=>rfl
theorem Same.yielded {ops:Array Oper}{o:Oper}{a a':bE}(h:Same ops o a a'){j:Nat}{want:Bool}(hg:o.guard=some (j,want)){d:Tmp}(hd:(ops[j]?).bind (·.dst)=some d) :
  a.tmps[d]?=a'.tmps[d]?:=h.tmps d (List.mem_append_right _ (by simp[hg,hd]))
theorem Same.guard {ops:Array Oper}{o:Oper}{a a':bE}(h:Same ops o a a'):cI ops a o=cI ops a' o:=by
 unfold cI;cases hg:o.guard with
 |none=>rfl
 |some q=>
  obtain⟨j,_⟩:=q;simp only;cases hd:(ops[j]?).bind (·.dst) with
  |none=>rfl
  |some d=>simp only[h.yielded hg hd]
theorem Same.wanted {ops:Array Oper}{o:Oper}{a a':bE}(h:Same ops o a a'):dY ops a o=dY ops a' o:=by
 unfold dY;cases hg:o.guard with
 |none=>rfl
 |some q=>
  obtain⟨j,_⟩:=q;simp only[xC];cases hd:(ops[j]?).bind (·.dst) with
  |none=>rfl
  |some d=>simp only[h.yielded hg hd]
theorem Same.evOp {ops:Array Oper}{o:Oper}{a a':bE}(h:Same ops o a a')(fuel:Nat):jU P Gl Gm Kp fuel o a=jU P Gl Gm Kp fuel o a':=by
 cases fuel with
 |zero=>rfl
 |succ fuel=>
  unfold Go.Ez.jU;rw[Wy o h.eval,h.rnd]
theorem yN (acc:List Nat):∀(es:List Edge) (s k:Nat),(xK acc es s).testBit k=true->
  s.testBit k=true\/∃ e ∈ es,Region.binds .any e=true/\(e.on=k\/(acc.getD e.on 0).testBit k=true)
 |[],s,k,h=>.inl h
 |e::r,s,k,h=>by
  simp only[xK]at h;rcases yN acc r _ k h with h1 | ⟨e',h1,h2,h3⟩
  .cases hb:Region.binds .any e with
   |false=>rw[hb]at h1;exact .inl h1
   |true=>
    rw[hb]at h1;simp only[cond_true,Nat.testBit_or,cY,Bool.or_eq_true,decide_eq_true_eq]at h1;rcases h1 with(h1 | h1) | h1
    .exact .inl h1
    .exact .inr ⟨e,by simp,hb,.inl h1⟩
    .exact .inr ⟨e,by simp,hb,.inr h1⟩
  .exact .inr ⟨e',by simp[h1],h2,h3⟩
theorem xJ:∀(l:List Oper) (acc:List Nat) (k:Nat),k<acc.length->(Ke l acc).getD k 0=acc.getD k 0
 |[],_,_,_=>rfl
 |o::r,acc,k,h=>by
  rw[Ke,xJ r _ k (by simp<;>omega)];simp[List.getD,List.getElem?_append_left h]
theorem Fg:∀(l:List Oper) (acc:List Nat) (i k:Nat) (o:Oper),l[i]?=some o->((Ke l acc).getD (acc.length+i) 0).testBit k=true->
  ∃ e ∈ o.after.toList,Region.binds .any e=true/\(e.on=k\/(e.on<acc.length+i/\((Ke l acc).getD e.on 0).testBit k=true))
 |[],_,i,_,o,h,_=>by simp at h
 |o'::r,acc,0,k,o,h,hk=>by
  simp at h;subst h;simp only[Ke]at hk ⊢;rw[xJ r _ _ sm]at hk;simp at hk;rcases yN acc _ _ _ hk with h1 | ⟨e,h1,h2,M⟩
  .simp at h1
  .refine⟨e,h1,h2,M.imp id fun M=>?_⟩;have O:e.on<acc.length:=by
    rcases Nat.lt_or_ge e.on acc.length with h | h
    .exact h
    .simp[List.getD,List.getElem?_eq_none h]at M
   refine⟨by omega,?_⟩;rw[xJ r _ _ (by simp<;>omega)];simpa [List.getD,List.getElem?_append_left O]using M
 |o'::r,acc,i+1,k,o,h,hk=>by
  simp at h;simp only[Ke]at hk ⊢;have:=Fg r (acc++[xK acc o'.after.toList 0]) i k o h (by rw[show (acc++[xK acc o'.after.toList 0]).length+i=acc.length+(i+1) by simp<;>omega];exact hk);obtain⟨e,h1,h2,M⟩:=this;refine⟨e,h1,h2,M.imp id fun M=>⟨?_,M.2⟩⟩;have:=M.1;simp at this;omega
theorem Aj {ops:Array Oper}{i k:Nat}{o:Oper}(ho:ops[i]?=some o)(h:((jS ops).getD i 0).testBit k=true) :
  ∃ e ∈ o.after,Region.binds .any e=true/\(e.on=k\/(e.on<i/\((jS ops).getD e.on 0).testBit k=true)):=by
 have:=Fg ops.toList [] i k o (by simpa using ho) (by simpa [jS]using h);obtain⟨e,h1,h2,M⟩:=this;exact⟨e,by simpa using h1,h2,by simpa [jS]using M⟩
theorem vO:∀{l:List Oper}{b:Nat},zO l b=true->∀(i:Nat) (o:Oper),l[i]?=some o->∀ e ∈ o.after,Region.binds .any e=true->e.on<b+i
 |[],_,_,i,o,ho=>by simp at ho
 |x::r,b,h,i,o,ho=>by
  simp only[zO,Bool.and_eq_true]at h;intro e M hb;cases i with
  |zero=>
   simp at ho;subst ho;have:=List.all_eq_true.1 h.1 e (by simpa using M);rw[hb]at this;exact kG.1 (by simpa using this)
  |succ i=>
   have:=vO h.2 i o (by simpa using ho) e M hb;omega
theorem Aq {ops:Array Oper}{D:Nat->Bool}(hD:∀ i o,ops[i]?=some o->D i=true->∀ e ∈ o.after,Region.binds .any e=true->D e.on=true)(hs:∀ i,D i=true->i<ops.size) :
  ∀(i k:Nat),D i=true->((jS ops).getD i 0).testBit k=true->D k=true:=by
 intro i
 induction i using Nat.strongRecOn with
 |_ i ih=>
  intro k hi U;have O:ops[i]?=some (ops[i]'(hs i hi)):=(by simp[hs i hi]);obtain⟨e,h1,h2,M⟩:=Aj O U;have:=hD i _ O hi e h1 h2;rcases M with rfl | ⟨M,h4⟩
  .exact this
  .exact ih _ M k this h4
theorem BA {ops:Array Oper}{D:Nat->Bool}(hD:∀ i o,ops[i]?=some o->D i=true->∀ e ∈ o.after,Region.binds .any e=true->D e.on=true)(hs:∀ i,D i=true->i<ops.size)
  {i k:Nat}{o:Oper} (ho:ops[i]?=some o) (hr:∀ e ∈ o.after,Region.binds .any e=true->D e.on=true) (hk:((jS ops).getD i 0).testBit k=true):D k=true:=by
 obtain⟨e,h1,h2,M⟩:=Aj ho hk;rcases M with rfl | ⟨_,h4⟩
 .exact hr e h1 h2
 .exact Aq hD hs _ _ (hr e h1 h2) h4
theorem apart_spec {ops:Array Oper}(h:kD ops (jS ops)=true):(∀ i o,ops[i]?=some o->∀ e ∈ o.after,Region.binds .any e=true->e.on<i)/\
  ∀ i j x y,j<i->ops[i]?=some x->ops[j]?=some y->((jS ops).getD i 0).testBit j=true\/Oper.apart ops x y=true:=by
 unfold kD at h;rw[Bool.and_eq_true]at h;refine⟨fun i o Y e U hb=>by simpa using vO h.1 i o (by simpa using Y) e U hb,fun i j x y M O hy=>?_⟩;have hi:=(Array.getElem?_eq_some_iff.1 O).1;have:=List.all_eq_true.1 (List.all_eq_true.1 h.2 i (by simpa using hi)) j (by simpa using M);rw[O,hy]at this;simpa using this
end
structure Rc where
 i:Nat
 o:Oper
 n:Nat
 out:Out rR
def xT (n0:Nat):List Rc->Nat
 |[]=>n0
 |r::_=>r.out.hi
def qK (h0:Hp):List Rc->Hp
 |[]=>h0
 |r::_=>r.out.hp
def tT:List Rc->Nat
 |[]=>0
 |r::rs=>tT rs|||r.out.rd
def mW:List Rc->Nat
 |[]=>0
 |r::rs=>mW rs|||r.out.wr
def KD (K0:cG)(D:Nat->Bool):List Rc->cG
 |[]=>K0
 |r::rs=>fun t=>if D r.i=true/\r.out.wr.testBit t=true then r.out.hp.get t else KD K0 D rs t
def AD (a0:bE)(D:Nat->Bool):List Rc->bE
 |[]=>a0
 |r::rs=>match D r.i,r.out.val with
  |true,.put v=>(AD a0 D rs).put r.o.dst v
  |_,_=>AD a0 D rs
def hU (n:Nat)(h:Hp):Out rR:={val:=.put .undef,nx:=n,hi:=n,hp:=h,rd:=0,wr:=0}
section
variable (P:Program)(Gl:qC6)(w0:Base)(B:Nat)(ops:Array Oper)(a0:bE)(n0:Nat)(h0:Hp)
structure CZ (r:Rc)(rs:List Rc):Prop where
 lt:∀ q ∈ rs,q.i<r.i
 op:ops[r.i]?=some r.o
 nn:r.n=xT n0 rs
 fr:Fr r.n (qK h0 rs) r.out
 clear:∀ q ∈ rs,((jS ops).getD r.i 0).testBit q.i=true\/(∀ t,r.out.wr.testBit t=true->(q.out.rd|||q.out.wr).testBit t=false)/\(∀ t,r.out.rd.testBit t=true->q.out.wr.testBit t=false)
 run:∀ a',Same ops r.o a' (AD a0 (fun _=>true) rs)->cI ops a' r.o=true/\
  ((dY ops a' r.o=true/\Jt P Gl w0 B r.o a' r.n (qK h0 rs) r.out)\/(dY ops a' r.o=false/\r.out=hU r.n (qK h0 rs)))
 ndfr:∀ d,r.out.val≠.dfr d
def Good:List Rc->Prop
 |[]=>True
 |r::rs=>CZ P Gl w0 B ops a0 n0 h0 r rs/\Good rs
end
section
variable {P:Program}{Gl:qC6}{w0:Base}{B:Nat}{ops:Array Oper}{a0:bE}{n0:Nat}{h0:Hp}{K0:cG}{D D':Nat->Bool}{T rs t1:List Rc}{r:Rc}
theorem Good.tail (h:Good P Gl w0 B ops a0 n0 h0 (t1++rs)):Good P Gl w0 B ops a0 n0 h0 rs:=by
 induction t1 with
 |nil=>exact h
 |cons q t1 ih=>exact ih h.2
theorem Good.at (h:Good P Gl w0 B ops a0 n0 h0 (t1++r::rs)):CZ P Gl w0 B ops a0 n0 h0 r rs:=h.tail.1
theorem Good.later (h:Good P Gl w0 B ops a0 n0 h0 (t1++r::rs)):∀ q ∈ t1,∃ qs,CZ P Gl w0 B ops a0 n0 h0 q qs/\r ∈ qs:=by
 induction t1 with
 |nil=>simp
 |cons q t1 ih=>
  intro O M;simp at M;rcases M with rfl | M
  .exact⟨_,h.1,by simp⟩
  .exact ih h.2 O M
theorem qBO:∀{T:List Rc},Good P Gl w0 B ops a0 n0 h0 T->n0<=xT n0 T/\∀ r ∈ T,n0<=r.n/\r.n<=r.out.nx/\r.out.nx<=r.out.hi/\r.out.hi<=xT n0 T
 |[],_=>⟨Nat.le_refl _,by simp⟩
 |r::rs,h=>by
  obtain⟨_,O⟩:=qBO h.2;have h1:=h.1.fr.le;have h2:=h.1.fr.hi;have U:=h.1.nn;refine⟨by show n0<=r.out.hi;omega,fun q M=>?_⟩;show _/\_/\_/\q.out.hi<=r.out.hi;simp at M;rcases M with rfl | M
  .exact⟨by omega,h1,h2,Nat.le_refl _⟩
  .have:=O q M;exact⟨this.1,this.2.1,this.2.2.1,by omega⟩
theorem Good.before (h:Good P Gl w0 B ops a0 n0 h0 (t1++r::rs)):∀ q ∈ rs,q.out.hi<=r.n/\q.i<r.i:=fun q M=>by
 have:=(qBO h.tail.2).2 q M;rw[h.at.nn];exact⟨this.2.2.2,h.at.lt q M⟩
theorem Good.behind (h:Good P Gl w0 B ops a0 n0 h0 (t1++r::rs)):∀ q ∈ t1,r.out.hi<=q.n/\r.i<q.i:=by
 intro q M;obtain⟨u1,u2,rfl⟩:=List.append_of_mem M;rw[List.append_assoc,List.cons_append]at h;exact h.before r sm
theorem Good.hplt (hl:aE n0 h0):∀{T:List Rc},Good P Gl w0 B ops a0 n0 h0 T->aE (xT n0 T) (qK h0 T)
 |[],_=>hl
 |r::rs,h=>fun t M=>h.1.fr.lt t (Nat.le_trans h.1.fr.hi M)
theorem Good.keep:∀{T:List Rc},Good P Gl w0 B ops a0 n0 h0 T->∀ t,(mW T).testBit t=false->(qK h0 T).get t=h0.get t
 |[],_,_,_=>rfl
 |r::rs,h,t,ht=>by
  simp only[mW,Nat.testBit_or,Bool.or_eq_false_iff]at ht;exact(h.1.fr.keep t ht.2).trans (Good.keep h.2 t ht.1)
theorem Good.low:∀{T:List Rc},Good P Gl w0 B ops a0 n0 h0 T->∀ t,(tT T|||mW T).testBit t=true->t<xT n0 T
 |[],_,t,ht=>by simp[tT,mW]at ht
 |r::rs,h,t,ht=>by
  show t<r.out.hi;simp only[tT,mW,Nat.testBit_or,Bool.or_eq_true]at ht;have h1:=h.1.fr.low t;have h2:=Good.low h.2 t;simp only[Nat.testBit_or,Bool.or_eq_true]at h1 h2;have M:=h.1.fr.le;have O:=h.1.fr.hi;have U:=h.1.nn;rcases ht with(c | c) | (c | c)
  .have:=h2 (.inl c);omega
  .exact h1 (.inl c)
  .have:=h2 (.inr c);omega
  .exact h1 (.inr c)
theorem tB {t:Nat}:∀{T:List Rc},(mW T).testBit t=true↔∃ q ∈ T,q.out.wr.testBit t=true
 |[]=>by simp[mW]
 |r::rs=>by
  simp only[mW,Nat.testBit_or,Bool.or_eq_true,tB (T:=rs),List.mem_cons,exists_eq_or_imp];exact Or.comm
theorem Na {t:Nat}:∀{T:List Rc},(tT T).testBit t=true↔∃ q ∈ T,q.out.rd.testBit t=true
 |[]=>by simp[tT]
 |r::rs=>by
  simp only[tT,Nat.testBit_or,Bool.or_eq_true,Na (T:=rs),List.mem_cons,exists_eq_or_imp];exact Or.comm
theorem Bm (h:∀ r ∈ T,D r.i=D' r.i):KD K0 D T=KD K0 D' T:=by
 induction T with
 |nil=>rfl
 |cons r rs ih=>
  funext t
  simp only[KD,h r sm,ih fun q M=>h q (by simp[M])]
theorem zU {t:Nat}(h:∀ q ∈ t1,D q.i=true->q.out.wr.testBit t=false):KD K0 D (t1++rs) t=KD K0 D rs t:=by
 induction t1 with
 |nil=>rfl
 |cons q t1 ih=>
  simp only[List.cons_append,KD];rw[if_neg]
  .exact ih fun O M=>h O (by simp[M])
  .rintro ⟨h1,h2⟩;rw[h q sm h1]at h2;cases h2
theorem Hu:∀{rs:List Rc},Good P Gl w0 B ops a0 n0 h0 rs->∀{t:Nat},(∀ q ∈ rs,q.out.wr.testBit t=true->D q.i=true)->K0 t=h0.get t->KD K0 D rs t=(qK h0 rs).get t
 |[],_,_,_,h=>h
 |r::rs,hg,t,hw,hk=>by
  simp only[KD,qK];by_cases M:r.out.wr.testBit t=true
  .rw[if_pos ⟨hw r sm M,M⟩]
  .rw[if_neg (fun h=>M h.2),Hu hg.2 (fun q O=>hw q (by simp[O])) hk];exact(hg.1.fr.keep t (by simpa using M)).symm
theorem Good.writers (h:Good P Gl w0 B ops a0 n0 h0 (t1++r::rs)){t:Nat}(ht:(r.out.rd|||r.out.wr).testBit t=true) :
  ∀ q ∈ rs,q.out.wr.testBit t=true->((jS ops).getD r.i 0).testBit q.i=true:=fun q O M=>by
 rcases h.at.clear q O with c | ⟨c1,c2⟩
 .exact c
 .simp only[Nat.testBit_or,Bool.or_eq_true]at ht;rcases ht with ht | ht
  .rw[c2 t ht]at M;cases M
  .have:=c1 t ht;simp[M]at this
theorem Good.untouched (h:Good P Gl w0 B ops a0 n0 h0 (t1++r::rs))(hDC:∀ i k,D i=true->((jS ops).getD i 0).testBit k=true->D k=true)(hr:D r.i=false){t:Nat}
  (ht:(r.out.rd|||r.out.wr).testBit t=true):∀ q ∈ t1,D q.i=true->q.out.wr.testBit t=false:=fun q U hd=>by
 obtain⟨_,M,O⟩:=h.later q U;cases hw:q.out.wr.testBit t with
 |false=>rfl
 |true=>
  rcases M.clear r O with c | ⟨c1,_⟩
  .rw[hDC _ _ hd c]at hr;cases hr
  .rw[c1 t hw]at ht;cases ht
theorem YE (h:Good P Gl w0 B ops a0 n0 h0 (t1++r::rs))(hDC:∀ i k,D i=true->((jS ops).getD i 0).testBit k=true->D k=true)(hr:D r.i=false)
  (hanc:∀ k,((jS ops).getD r.i 0).testBit k=true->D k=true) {t:Nat} (ht:(r.out.rd|||r.out.wr).testBit t=true) (hk:K0 t=h0.get t) :
  KD K0 D (t1++r::rs) t=(qK h0 rs).get t:=by
 rw[zU (h.untouched hDC hr ht)];simp only[KD,hr];rw[if_neg sm];exact Hu h.tail.2 (fun q M O=>hanc _ (h.writers ht q M O)) hk
theorem RR (h:Good P Gl w0 B ops a0 n0 h0 (t1++r::rs))(hDC:∀ i k,D i=true->((jS ops).getD i 0).testBit k=true->D k=true)(hr:D r.i=false)
  (hD':∀ k,D' k=(decide (k=r.i) || D k)):KD K0 D' (t1++r::rs)=(KD K0 D (t1++r::rs)).merge r.out:=by
 have a2:∀ q ∈ rs,D' q.i=D q.i:=fun q O=>by
  have:=(h.before q O).2;rw[hD',decide_eq_false om];rfl
 have M:∀ q ∈ t1,D' q.i=D q.i:=fun q O=>by
  have:=(h.behind q O).2;rw[hD',decide_eq_false om];rfl
 have a1:D' r.i=true:=by rw[hD'];simp
 funext t
 unfold cG.merge;by_cases U:r.out.wr.testBit t=true
 .rw[if_pos U];have hu:=h.untouched hDC hr (t:=t) (by simp[U]);rw[zU fun q O hd=>hu q O (by rw[<- M q O];exact hd)];simp only[KD];rw[if_pos ⟨a1,U⟩]
 .rw[if_neg U];clear h
  induction t1 with
  |nil=>
   simp only[List.nil_append,KD];rw[if_neg (fun c=>U c.2),if_neg (fun c=>U c.2),Bm a2]
  |cons q t1 ih=>
   simp only[List.cons_append,KD];rw[M q sm,ih fun q' Y=>M q' (by simp[Y])]
theorem qU (a:bE)(dst:Option Tmp)(v:AV)(t:Nat):(a.put dst v).tmps[t]?=if dst=some t then (a.tmps[t]?).map (fun _=>v) else a.tmps[t]?:=by
 cases dst with
 |none=>simp[bE.put]
 |some d=>
  simp only[bE.put,List.getElem?_set,Option.some.injEq];by_cases e:d=t
  .subst e;simp only[if_true];by_cases M:d<a.tmps.length
   .simp[M]
   .simp[M]
  .simp[e]
theorem DI:(AD a0 D T).rnd=a0.rnd/\(AD a0 D T).defers=a0.defers:=by
 induction T with
 |nil=>exact⟨rfl,rfl⟩
 |cons r rs ih=>
  simp only[AD];split
  .cases hd:r.o.dst<;>simpa [bE.put]using ih
  .exact ih
theorem Ab (h:∀ r ∈ T,D r.i=D' r.i):AD a0 D T=AD a0 D' T:=by
 induction T with
 |nil=>rfl
 |cons r rs ih=>simp only[AD,h r sm,ih fun q M=>h q (by simp[M])]
theorem IV {t:Nat}(h:∀ q ∈ t1,D q.i=true->q.o.dst≠some t):(AD a0 D (t1++rs)).tmps[t]?=(AD a0 D rs).tmps[t]?:=by
 induction t1 with
 |nil=>rfl
 |cons q t1 ih=>
  simp only[List.cons_append,AD];split
  .rename_i hd hv;rw[qU,if_neg (h q sm hd)];exact ih fun O M=>h O (by simp[M])
  .exact ih fun O M=>h O (by simp[M])
theorem IT {t:Nat}(h:∀ q ∈ rs,q.o.dst=some t->D q.i=true):(AD a0 D rs).tmps[t]?=(AD a0 (fun _=>true) rs).tmps[t]?:=by
 induction rs with
 |nil=>rfl
 |cons q rs M=>
  have M:=M fun U O=>h U (by simp[O]);by_cases hd:q.o.dst=some t
  .have:=h q sm hd;simp only[AD,this];split
   .rw[qU,qU,M]
   .exact M
  .simp only[AD];split
   .rename_i hq hv;rw[qU,if_neg hd];split
    .rw[qU,if_neg hd];exact M
    .exact M
   .split
    .rw[qU,if_neg hd];exact M
    .exact M
theorem TJ (h:Good P Gl w0 B ops a0 n0 h0 (t1++r::rs))(hap:∀ i j x y,j<i->ops[i]?=some x->ops[j]?=some y->((jS ops).getD i 0).testBit j=true\/Oper.apart ops x y=true)
  (hDC:∀ i k,D i=true->((jS ops).getD i 0).testBit k=true->D k=true) (hr:D r.i=false)
  (hanc:∀ k,((jS ops).getD r.i 0).testBit k=true->D k=true) (hg:∀ q ∈ t1++r::rs,ops[q.i]?=some q.o):Same ops r.o (AD a0 D (t1++r::rs)) (AD a0 (fun _=>true) rs):=by
 refine⟨DI.1.trans DI.1.symm,fun t O=>?_⟩;rw[IV fun q M hd e=>?_]
 .have:(AD a0 D (r::rs))=AD a0 D rs:=(by simp only[AD,hr]);rw[this];refine IT fun q M hd=>?_;rcases hap r.i q.i r.o q.o (h.before q M).2 h.at.op (hg q (by simp[M])) with c | c
  .exact hanc _ c
  .exact absurd O ((Oper.apart_spec c).2.2 t hd)
 .rcases hap q.i r.i q.o r.o (h.behind q M).2 (hg q (by simp[M])) h.at.op with c | c
  .rw[hDC _ _ hd c]at hr;cases hr
  .exact absurd O ((Oper.apart_spec c).1 t e)
theorem put_comm (a:bE){x y:Option Tmp}(v u:AV)(h:∀ d,x=some d->y≠some d):(a.put x v).put y u=(a.put y u).put x v:=by
 cases x with
 |none=>rfl
 |some d=>
  cases y with
  |none=>rfl
  |some e=>
   have M:d≠e:=fun O=>h d rfl (O ▸ rfl);simp only[bE.put,bE.mk.injEq,and_true];exact List.set_comm _ _ M
theorem OX (h:Good P Gl w0 B ops a0 n0 h0 (t1++r::rs))(hap:∀ i j x y,j<i->ops[i]?=some x->ops[j]?=some y->((jS ops).getD i 0).testBit j=true\/Oper.apart ops x y=true)
  (hDC:∀ i k,D i=true->((jS ops).getD i 0).testBit k=true->D k=true) (hr:D r.i=false) (hg:∀ q ∈ t1++r::rs,ops[q.i]?=some q.o)
  (hD':∀ k,D' k=(decide (k=r.i) || D k)) {v:AV} (hv:r.out.val=.put v):AD a0 D' (t1++r::rs)=(AD a0 D (t1++r::rs)).put r.o.dst v:=by
 have a3:∀ q ∈ rs,D' q.i=D q.i:=fun q O=>by
  have:=(h.before q O).2;rw[hD',decide_eq_false om];rfl
 have a1:∀ q ∈ t1,D' q.i=D q.i:=fun q O=>by
  have:=(h.behind q O).2;rw[hD',decide_eq_false om];rfl
 have a2:D' r.i=true:=(by rw[hD'];simp);have M:∀ q ∈ t1,D q.i=true->∀ d,q.o.dst=some d->r.o.dst≠some d:=fun q O hd d e=>by
  rcases hap q.i r.i q.o r.o (h.behind q O).2 (hg q (by simp[O])) h.at.op with c | c
  .rw[hDC _ _ hd c]at hr;cases hr
  .exact(Oper.apart_spec c).2.1 d e
 clear h hg
 induction t1 with
 |nil=>
  simp only[List.nil_append,AD,hr,a2,hv];rw[Ab a3]
 |cons q t1 Y=>
  have Y:=Y (fun q' U=>a1 q' (by simp[U])) (fun q' U=>M q' (by simp[U]));have e1:=a1 q sm;simp only[List.cons_append,AD,e1];cases O:D q.i with
  |false=>exact Y
  |true=>
   cases hqv:q.out.val with
   |put u=>
    simp only;rw[Y];exact(put_comm _ u v fun d e=>M q sm O d e).symm
   |dfr _=>exact Y
   |pan _=>exact Y
end
theorem Fl {p q:Nat->Bool}(h:∀ x,q x=true->p x=true):∀{l:List Nat}{i:Nat},i ∈ l->p i=true->q i=false->l.countP q<l.countP p
 |[],_,hi,_,_=>by simp at hi
 |x::l,i,hi,h1,h2=>by
  have mono:∀ l:List Nat,l.countP q<=l.countP p:=fun l=>List.countP_mono_left fun x _ O=>h x O;simp only[List.countP_cons];by_cases e:i=x
  .subst e;have:=mono l;simp only[h1,h2];simp<;>omega
  .have M:i ∈ l:=(by simpa [e]using hi);have:=Fl h M h1 h2;have O:=h x;cases hq:q x<;>cases hp:p x<;>simp_all<;>omega
section
variable {P:Program}{Gl:qC6}{w0:Base}{B:Nat}{ops:Array Oper}{a0:bE}{n0:Nat}{h0:Hp}{K0:cG}{G0:Gh}{T:List Rc}{ro:Option Nat}
 {Q:Exit->Act->World->Prop}
def eJ (listed:Array Bool):Nat->Bool:=fun k=>listed.getD k false
structure Inv (Gl:qC6)(w0:Base)(B:Nat)(ops:Array Oper)(a0:bE)(K0:cG)(G0:Gh)(T:List Rc)(ro:Option Nat)(listed:Array Bool)(ca:Act)(w:World):Prop where
 size:listed.size=ops.size
 closed:∀ i o,ops[i]?=some o->eJ listed i=true->∀ e ∈ o.after,Region.binds .any e=true->eJ listed e.on=true
 put:∀ r ∈ T,eJ listed r.i=true->∀ x,r.out.val≠.pan x
 st:∃ G,G0.le G/\(∀ o I,G.nm o=some I->G0.nm o=none->∃ r ∈ T,eJ listed r.i=true/\r.n<=o/\o<r.out.nx)/\
  eO w0 B (KD K0 (eJ listed) T) G w/\eT G ro (AD a0 (eJ listed) T) ca
theorem Wv (hT:Good P Gl w0 B ops a0 n0 h0 T)(hl0:aE n0 h0)
  (hap:∀ i j x y,j<i->ops[i]?=some x->ops[j]?=some y->((jS ops).getD i 0).testBit j=true\/Oper.apart ops x y=true)
  (hed:∀ i o,ops[i]?=some o->∀ e ∈ o.after,Region.binds .any e=true->e.on<i)
  (hcov:∀ i,i<ops.size->(∃ r ∈ T,r.i=i)\/∃ r ∈ T,(∃ x,r.out.val=.pan x)/\((jS ops).getD i 0).testBit r.i=true)
  (hg:∀ q ∈ T,ops[q.i]?=some q.o) (hA0:Agree K0 h0 (tT T|||mW T)) (hF0:nS G0 n0 (xT n0 T)) (hGl:Pg G0 Gl)
  (hnorm:(∀ r ∈ T,∀ x,r.out.val≠.pan x)->∀ G' ca' w',G0.le G'->(∀ o I,G'.nm o=some I->G0.nm o=none->∃ r ∈ T,r.n<=o/\o<r.out.nx)->
   eO w0 B (KD K0 (fun _=>true) T) G' w'->eT G' ro (AD a0 (fun _=>true) T) ca'->Q .normal ca' w')
  (hpan:∀ t1 r rs x,T=t1++r::rs->r.out.val=.pan x->∀(D:Nat->Bool) G' ca w' v,D r.i=false->(∀ k,((jS ops).getD r.i 0).testBit k=true->D k=true)->G0.le G'->
   (∀ o I,G'.nm o=some I->G0.nm o=none->n0<=o/\o<xT n0 T)->eO w0 B ((KD K0 D T).merge r.out) G' w'->eT G' ro (AD a0 D T) ca->aF G' x v->
   Q (.panic [{v,recovered:=false}]) ca w') :
  ∀(fuel:Nat) (listed:Array Bool) (ca:Act) (w:World),Inv Gl w0 B ops a0 K0 G0 T ro listed ca w->(List.range ops.size).countP (fun i=>!eJ listed i)<=fuel->
   wpAnyIn (Fw ro) 0 P .any ops Q fuel listed ca w:=by
 have done:∀(listed:Array Bool) (ca:Act) (w:World),Inv Gl w0 B ops a0 K0 G0 T ro listed ca w->(∀ i,i<ops.size->eJ listed i=true)->Region.ready .any ops listed=[]/\Q .normal ca w:=by
  intro listed ca w inv M;refine⟨?_,?_⟩
  .rw[List.eq_nil_iff_forall_not_mem];intro j hj;obtain⟨h1,o,h2,_⟩:=mem_ready.1 hj;have a7:=(Array.getElem?_eq_some_iff.1 h2).1;have:=M j a7;unfold eJ at this;have U:j<listed.size:=(by rw[inv.size];exact a7);simp[U]at h1 this;rw[h1]at this;cases this
  .have ab:∀ r ∈ T,eJ listed r.i=true:=fun r hr=>M _ (Array.getElem?_eq_some_iff.1 (hg r hr)).1;obtain⟨G,g1,g2,g3,g4⟩:=inv.st;refine hnorm (fun r hr=>inv.put r hr (ab r hr)) G ca w g1 (fun o I h1 h2=>by obtain⟨r,a,_,b⟩:=g2 o I h1 h2;exact⟨r,a,b⟩) ?_ ?_
   .rw[Bm (D':=eJ listed) fun r hr=>(ab r hr).symm];exact g3
   .rw[Ab (D':=eJ listed) fun r hr=>(ab r hr).symm];exact g4
 have all:∀(listed:Array Bool) (ca:Act) (w:World),Inv Gl w0 B ops a0 K0 G0 T ro listed ca w->Region.ready .any ops listed=[]->∀ i,i<ops.size->eJ listed i=true:=by
  intro listed ca w inv hr i
  induction i using Nat.strongRecOn with
  |_ i ih=>
   intro hi;cases hd:eJ listed i with
   |true=>rfl
   |false=>
    exfalso;have ho:ops[i]?=some (ops[i]'hi):=(by simp[hi]);have:i ∈ Region.ready .any ops listed:=by
     refine mem_ready.2 ⟨?_,_,ho,fun e he hb=>ih _ (hed i _ ho e he hb) (by have:=hed i _ ho e he hb;omega)⟩;unfold eJ at hd;have U:i<listed.size:=(by rw[inv.size];exact hi);simpa [U]using hd
    rw[hr]at this;cases this
 intro fuel
 induction fuel with
 |zero=>
  intro listed ca w inv hc;have h0:(List.range ops.size).countP (fun i=>!eJ listed i)=0:=Nat.le_zero.1 hc;have M:∀ i,i<ops.size->eJ listed i=true:=fun i hi=>by
   have:=List.countP_eq_zero.1 h0 i (by simpa using hi);simpa using this
  exact done listed ca w inv M
 |succ fuel ih=>
  intro listed ca w inv hc;refine⟨fun hr=>(done listed ca w inv (all listed ca w inv hr)).2,fun i hi=>?_⟩;obtain⟨h1,o,ho,M⟩:=mem_ready.1 hi;have a7:=(Array.getElem?_eq_some_iff.1 ho).1;have U:i<listed.size:=(by rw[inv.size];exact a7);have a5:eJ listed i=false:=(by unfold eJ;simpa [U]using h1);have ai:∀ k,eJ listed k=true->k<ops.size:=fun k O=>by
   unfold eJ at O;rcases Nat.lt_or_ge k listed.size with h | h
   .rw[<- inv.size];exact h
   .simp[Array.getElem?_eq_none h]at O
  have a8:=Aq (D:=eJ listed) inv.closed ai;have a6:∀ k,((jS ops).getD i 0).testBit k=true->eJ listed k=true:=fun k O=>BA (D:=eJ listed) inv.closed ai ho M O;rcases hcov i a7 with⟨r,hr,rfl⟩ | ⟨r,hr,⟨x,hx⟩,hb⟩
  .obtain⟨t1,rs,rfl⟩:=List.append_of_mem hr;have an:r.o=o:=Option.some.inj ((hg r hr).symm.trans ho);subst an;obtain⟨G,g1,g2,g3,g4⟩:=inv.st;have ad:=TJ hT hap a8 a5 a6 hg;obtain⟨O,ah⟩:=hT.at.run _ ad;have Y:∀ k,eJ (listed.setIfInBounds r.i true) k=(decide (k=r.i) || eJ listed k):=fun k=>by
    unfold eJ;by_cases e:k=r.i
    .subst e;simp[U]
    .rw[getD_set_ne false (Ne.symm e),decide_eq_false e];rfl
   have ae:(List.range ops.size).countP (fun i=>!eJ (listed.setIfInBounds r.i true) i)<=fuel:=by
    have:=Fl (p:=fun i=>!eJ listed i) (q:=fun i=>!eJ (listed.setIfInBounds r.i true) i) (fun x hx=>by
     simp only[Y,Bool.not_eq_true',Bool.or_eq_false_iff]at hx;simp[hx.2]) (l:=List.range ops.size) (i:=r.i) (by simpa using a7) (by simp[a5]) (by simp[Y])
    omega
   have next:∀(G':Gh) (ca':Act) (w':World),(∃ v,r.out.val=.put v)->eU G G' r.n r.out.nx->eO w0 B ((KD K0 (eJ listed) (t1++r::rs)).merge r.out) G' w'->
     (∀ v,r.out.val=.put v->eT G' ro ((AD a0 (eJ listed) (t1++r::rs)).put r.o.dst v) ca')->
     wpAnyIn (Fw ro) 0 P .any ops Q fuel (listed.setIfInBounds r.i true) ca' w':=by
    intro G' ca' w' ⟨v,hv⟩ hE hR hA;refine ih _ _ _ ⟨by simp[inv.size],fun k ok ag O e he hb=>?_,fun q hq O x=>?_,G',Gh.le_trans g1 hE.le,fun p I hp ac=>?_,?_,?_⟩ ae
    .rw[Y]at O ⊢;rw[Bool.or_eq_true]at O ⊢;rcases O with O | O
     .have:k=r.i:=(by simpa using O);subst this;obtain rfl:ok=r.o:=Option.some.inj (ag.symm.trans ho);exact .inr (M e he hb)
     .exact .inr (inv.closed k ok ag O e he hb)
    .rw[Y,Bool.or_eq_true]at O;rcases O with O | O
     .have au:q.i=r.i:=(by simpa using O);have al:q=r:=by
       simp only[List.mem_append,List.mem_cons]at hq;rcases hq with hq | hq | hq
       .have:=(hT.behind q hq).2;omega
       .exact hq
       .have:=(hT.before q hq).2;omega
      rw[al,hv];simp
     .exact inv.put q hq O x
    .cases hGp:G.nm p with
     |none=>
      have:=hE.nm p I hp hGp;exact⟨r,by simp,by rw[Y];simp,this.1,this.2⟩
     |some J=>
      obtain⟨q,a1,a2,a3⟩:=g2 p J hGp ac;exact⟨q,a1,by rw[Y,a2];simp,a3⟩
    .rw[RR hT a8 a5 Y];exact hR
    .rw[OX hT hap a8 a5 hg Y hv];exact hA v hv
   unfold wpOpIn;simp only[ho,dO g4.tmps O];rcases ah with⟨hw,hop⟩ | ⟨hw,hskip⟩
   .rw[if_pos hw];have a9:∀ t,(r.out.rd|||r.out.wr).testBit t=true->(tT (t1++r::rs)|||mW (t1++r::rs)).testBit t=true:=fun t ht=>by
     simp only[Nat.testBit_or,Bool.or_eq_true]at ht ⊢;exact ht.imp (fun h=>Na.2 ⟨r,by simp,h⟩) (fun h=>tB.2 ⟨r,by simp,h⟩)
    have ao:St w0 B Gl (KD K0 (eJ listed) (t1++r::rs)) G w r.n r.out.hi (qK h0 rs) (r.out.rd|||r.out.wr):=by
     refine⟨fun t ht=>YE hT a8 a5 a6 ht (hA0 t (a9 t ht)),g3,fun p ap ar=>?_,hGl.mono g1⟩;cases hGp:G.nm p with
     |none=>rfl
     |some J=>
      exfalso;have hb:=(qBO hT).2 r sm;cases hG0:G0.nm p with
      |some J'=>rw[hF0 p om om]at hG0;cases hG0
      |none=>
       obtain⟨q,a1,a2,a3,a4⟩:=g2 p J hGp hG0;simp only[List.mem_append,List.mem_cons]at a1;have ak:=(qBO hT).2 q (by simpa using a1);rcases a1 with a1 | a1 | a1
       .have:=(hT.behind q a1).1;omega
       .subst a1;rw[a5]at a2;cases a2
       .have:=(hT.before q a1).1;omega
    refine⟨fun _ _=>trivial,hop.2 _ G w ro ca ao g4 _ _ fun G' w' e1 e2=>?_⟩;cases hv:r.out.val with
    |put v=>
     intro cv aa;exact next G' _ w' ⟨v,hv⟩ e1 e2 fun v' aj=>by
      rw[hv]at aj;cases aj;exact(g4.mono e1.le).put _ aa
    |dfr d=>exact absurd hv (hT.at.ndfr d)
    |pan x=>
     intro cv aa;refine hpan t1 r rs x rfl hv (eJ listed) G' ca w' cv a5 a6 (Gh.le_trans g1 e1.le) (fun p I hp ac=>?_) e2 (g4.mono e1.le) aa;have hb:=(qBO hT).2 r sm;cases hGp:G.nm p with
     |none=>have:=e1.nm p I hp hGp;omega
     |some J=>
      obtain⟨q,a1,a2,a3,a4⟩:=g2 p J hGp ac;have ak:=(qBO hT).2 q a1;omega
   .rw[if_neg (by simp[hw])];refine⟨fun _ _=>trivial,next G _ w ⟨.undef,by rw[hskip];rfl⟩ (eU.refl _ _ _) ?_ fun v hv=>?_⟩
    .have:(KD K0 (eJ listed) (t1++r::rs)).merge r.out=KD K0 (eJ listed) (t1++r::rs):=by
      funext t;rw[hskip];simp[cG.merge,hU]
     rw[this];exact g3
    .rw[hskip]at hv;simp only[hU,rR.put.injEq]at hv;subst hv;exact g4.put _ (by simp only[aF])
  .exact absurd hx (inv.put r hr (a6 _ hb) x)
end
def nD (r:Rc):Rec:={i:=r.i,n:=r.n,hi:=r.out.hi,rd:=r.out.rd,wr:=r.out.wr}
theorem Jy {x y t:Nat}(h:(x&&&y)=0)(hx:x.testBit t=true):y.testBit t=false:=by
 have:=congrArg (fun z=>z.testBit t) h;simpa [Nat.testBit_and,hx]using this
theorem Ap {b rd wr:Nat}:∀{T:List Rc},clear b rd wr (T.map nD)=true->
  ∀ q ∈ T,b.testBit q.i=true\/(∀ t,wr.testBit t=true->(q.out.rd|||q.out.wr).testBit t=false)/\(∀ t,rd.testBit t=true->q.out.wr.testBit t=false)
 |[],_,q,hq=>by simp at hq
 |r::rs,h,q,hq=>by
  simp only[List.map_cons,clear,Bool.and_eq_true,nD]at h;simp only[List.mem_cons]at hq;rcases hq with rfl | hq
  .have h1:=h.1;rw[Bool.or_eq_true]at h1;refine h1.imp id fun h1=>?_;rw[Bool.and_eq_true]at h1;exact⟨fun t M=>Jy (by simpa using h1.1) M,fun t M=>Jy (by simpa using h1.2) M⟩
  .exact Ap h.2 q hq
theorem kE {anc upto t:Nat}:∀{T:List Rc}{h:Hp},((gG h anc upto (T.map nD)).get t=h.get t/\∀ q ∈ T,q.i<upto->anc.testBit q.i=false->¬(q.n<=t/\t<q.out.hi))\/
  ((gG h anc upto (T.map nD)).get t=none/\∃ q ∈ T,q.n<=t/\t<q.out.hi)
 |[],h=>.inl ⟨rfl,by simp⟩
 |r::rs,h=>by
  simp only[List.map_cons,gG];cases hc:(Nat.blt (nD r).i upto&&!anc.testBit (nD r).i) with
  |false=>
   simp only[cond_false];rcases kE (T:=rs) (h:=h) (anc:=anc) (upto:=upto) (t:=t) with⟨h1,h2⟩ | ⟨h1,q,h2,h3⟩
   .refine .inl ⟨h1,fun q U O Y=>?_⟩;simp only[List.mem_cons]at U;rcases U with rfl | U
    .rw[Bool.and_eq_false_iff]at hc;rcases hc with hc | hc
     .have:Nat.blt q.i upto=true:=kG.2 O;rw[show (nD q).i=q.i from rfl,this]at hc;cases hc
     .rw[show (nD q).i=q.i from rfl,Y]at hc;cases hc
    .exact h2 q U O Y
   .exact .inr ⟨h1,q,by simp[h2],h3⟩
  |true=>
   simp only[cond_true];rcases kE (T:=rs) (h:=Hp.cut (nD r).n (nD r).hi h) (anc:=anc) (upto:=upto) (t:=t) with⟨h1,h2⟩ | ⟨h1,q,h2,h3⟩
   .by_cases M:r.n<=t/\t<r.out.hi
    .refine .inr ⟨?_,r,by simp,M⟩;rw[h1,qCd];exact if_pos M
    .refine .inl ⟨?_,fun q U O Y=>?_⟩
     .rw[h1,qCd];exact if_neg M
     .simp only[List.mem_cons]at U;rcases U with rfl | U
      .exact M
      .exact h2 q U O Y
   .exact .inr ⟨h1,q,by simp[h2],h3⟩
theorem wI {anc j:Nat}:∀{T:List Rc},nL anc j (T.map nD)=true->∀ q ∈ T,q.i=j\/anc.testBit q.i=true\/∀ t,q.out.wr.testBit t=true->q.n<=t
 |[],_,q,hq=>by simp at hq
 |r::rs,h,q,hq=>by
  simp only[List.map_cons,nL,Bool.and_eq_true,nD]at h;simp only[List.mem_cons]at hq;rcases hq with rfl | hq
  .have h1:=h.1;rw[Bool.or_eq_true,Bool.or_eq_true]at h1;rcases h1 with(h1 | h1) | h1
   .exact .inl (by simpa using h1)
   .exact .inr (.inl h1)
   .refine .inr (.inr fun t M=>?_);have h1:q.out.wr % 2 ^ q.n=0:=(by simpa using h1);have:=congrArg (fun z=>z.testBit t) h1;simp only[Nm,Nat.zero_testBit,M,Bool.and_true,decide_eq_false_iff_not]at this;omega
  .exact wI h.2 q hq
theorem uI {n:Nat}:∀{h:Hp},Hp.below n h=true->aE n h
 |[],_,_,_=>rfl
 |(m,x)::r,h,t,ht=>by
  simp only[Hp.below,Bool.and_eq_true]at h;have M:m<n:=kG.1 h.1;have e:(m==t)=false:=(by simp<;>omega);simp only[Hp.get,e,cond_false];exact uI h.2 t ht
theorem OZ {ops:Array Oper}(hed:∀ i o,ops[i]?=some o->∀ e ∈ o.after,Region.binds .any e=true->e.on<i):∀(i k:Nat) (o:Oper),ops[i]?=some o->((jS ops).getD i 0).testBit k=true->k<i:=by
 intro i
 induction i using Nat.strongRecOn with
 |_ i ih=>
  intro k o O hk;obtain⟨e,h1,h2,U⟩:=Aj O hk;have M:=hed i o O e h1 h2;rcases U with rfl | ⟨_,h4⟩
  .exact M
  .have a1:=(Array.getElem?_eq_some_iff.1 O).1;have Y:ops[e.on]?=some (ops[e.on]'om):=(by simp[show e.on<ops.size by omega]);have:=ih e.on M k _ Y h4;omega
section
variable {P:Program}{Gl:qC6}{w0:Base}{B:Nat}{Gm:qC7}{Kp:qC8}{ops:Array Oper}{a0:bE}{n0:Nat}{h0:Hp}{K0:cG}
structure SM (a0:bE)(n0:Nat)(h0:Hp)(T:List Rc)(s:rQ):Prop where
 act:s.act=AD a0 (fun _=>true) T
 hi:s.hi=xT n0 T
 hp:s.hp=qK h0 T
 rd:s.rd=tT T
 wr:s.wr=mW T
 recs:s.recs=T.map nD
 ret:∀ r ∈ T,r.n<r.out.nx->r.out.nx<=s.ret
 ret0:n0<=s.ret
 ret1:s.ret<=s.hi
structure EndN (a0:bE)(n0:Nat)(h0:Hp)(T:List Rc)(out:Out (mQ×bE)):Prop where
 val:out.val=(.normal,AD a0 (fun _=>true) T)
 hi:out.hi=xT n0 T
 hp:out.hp=qK h0 T
 rd:out.rd=tT T
 wr:out.wr=mW T
 ret:∀ r ∈ T,r.n<r.out.nx->r.out.nx<=out.nx
 ret0:n0<=out.nx
 ret1:out.nx<=out.hi
 lt:aE out.nx out.hp
 nopan:∀ r ∈ T,∀ x,r.out.val≠.pan x
structure TG (ops:Array Oper)(a0:bE)(n0:Nat)(h0:Hp)(T:List Rc)(j:Rc)(x:AV)(out:Out (mQ×bE)):Prop where
 mem:j ∈ T
 jpan:j.out.val=.pan x
 only:∀ r ∈ T,∀ y,r.out.val=.pan y->r=j
 own:nL ((jS ops).getD j.i 0) j.i (T.map nD)=true
 val:out.val=(.pan x,forget (AD a0 (fun _=>true) T) ops.toList)
 nx:out.nx=xT n0 T
 hi:out.hi=xT n0 T
 hp:out.hp=gG j.out.hp ((jS ops).getD j.i 0) j.i (T.map nD)
 rd:out.rd=tT T
 wr:out.wr=mW T
theorem GY {T:List Rc}{s:rQ}{i:Nat}{o:Oper}{fuel:Nat}{ev:Out rR}(hT:Good P Gl w0 B ops a0 n0 h0 T)(hl0:aE n0 h0)(hs:SM a0 n0 h0 T s)
  (hop:∀ o a n h out,jU P Gl Gm Kp fuel o a n h=some out->aE n h->Jt P Gl w0 B o a n h out)
  (hlt:∀ q ∈ T,q.i<i) (ho:ops[i]?=some o) (hk:cI ops s.act o=true) (hw:dY ops s.act o=true) (e:jU P Gl Gm Kp fuel o s.act s.hi s.hp=some ev)
  (hc:clear ((jS ops).getD i 0) ev.rd ev.wr s.recs=true) (hd:∀ d,ev.val≠.dfr d):CZ P Gl w0 B ops a0 n0 h0 {i,o,n:=s.hi,out:=ev} T:=by
 have O:aE s.hi s.hp:=(by rw[hs.hi,hs.hp];exact Good.hplt hl0 hT);refine⟨hlt,ho,hs.hi,?_,?_,fun a' M=>?_,hd⟩
 .have:=(hop _ _ _ _ _ e O).1;rw[hs.hp]at this;exact this
 .rw[hs.recs]at hc;exact Ap hc
 .have M:Same ops o a' s.act:=(by rw[hs.act];exact M);refine⟨by rw[M.guard];exact hk,.inl ⟨by rw[M.wanted];exact hw,?_⟩⟩;rw[<- M.evOp fuel]at e;have:=hop _ _ _ _ _ e O;show Jt P Gl w0 B o a' s.hi (qK h0 T) ev;rw[<- hs.hp];exact this
theorem Wk {T:List Rc}{s:rQ}{i:Nat}{o:Oper}(hT:Good P Gl w0 B ops a0 n0 h0 T)(hl0:aE n0 h0)(hs:SM a0 n0 h0 T s)
  (hlt:∀ q ∈ T,q.i<i) (ho:ops[i]?=some o) (hk:cI ops s.act o=true) (hw:dY ops s.act o=false) :
  CZ P Gl w0 B ops a0 n0 h0 {i,o,n:=s.hi,out:=hU s.hi (qK h0 T)} T:=by
 refine⟨hlt,ho,hs.hi,?_,fun q _=>.inr ⟨fun t O=>by simp[hU]at O,fun t O=>by simp[hU]at O⟩,fun a' M=>?_,fun d h=>by simp[hU]at h⟩
 .exact Fr.ret _ (by rw[hs.hi];exact Good.hplt hl0 hT)
 .have M:Same ops o a' s.act:=(by rw[hs.act];exact M);exact⟨by rw[M.guard];exact hk,.inr ⟨by rw[M.wanted];exact hw,rfl⟩⟩
theorem HK {T:List Rc}{s:rQ}{i:Nat}{o:Oper}{ev:Out rR}{v:AV}{ret:Nat}(hs:SM a0 n0 h0 T s)(hv:ev.val=.put v)(hfr:Fr s.hi s.hp ev)
  (hret:ret=if s.hi<ev.nx then ev.nx else s.ret) :
  SM a0 n0 h0 ({i,o,n:=s.hi,out:=ev}::T) {act:=s.act.put o.dst v,ret,hi:=ev.hi,hp:=ev.hp,recs:={i,n:=s.hi,hi:=ev.hi,rd:=ev.rd,wr:=ev.wr}::s.recs,rd:=s.rd|||ev.rd,wr:=s.wr|||ev.wr}:=by
 have h1:=hfr.le;have h2:=hfr.hi;have U:=hs.ret0;have Y:=hs.ret1;refine⟨?_,rfl,rfl,by simp only[tT,hs.rd],by simp only[mW,hs.wr],by simp only[List.map_cons,hs.recs];rfl,fun r O M=>?_,?_,?_⟩
 .simp only[AD,hv,hs.act]
 .subst hret;simp only[List.mem_cons]at O;rcases O with rfl | O
  .simp only at M ⊢;rw[if_pos M];exact Nat.le_refl _
  .have:=hs.ret r O M;simp only;split<;>omega
 .subst hret;simp only;split<;>omega
 .subst hret;simp only;split<;>omega
theorem SO {T:List Rc}{s:rQ}{i:Nat}{o:Oper}{ev:Out rR}{x:AV}(hs:SM a0 n0 h0 T s)(hv:ev.val=.pan x)(hfr:Fr s.hi s.hp ev) :
  SM a0 n0 h0 ({i,o,n:=s.hi,out:=ev}::T) {act:=s.act,ret:=max s.ret ev.nx,hi:=ev.hi,hp:=ev.hp,recs:={i,n:=s.hi,hi:=ev.hi,rd:=ev.rd,wr:=ev.wr}::s.recs,rd:=s.rd|||ev.rd,wr:=s.wr|||ev.wr}:=by
 have h1:=hfr.le;have h2:=hfr.hi;have U:=hs.ret0;have Y:=hs.ret1;refine⟨?_,rfl,rfl,by simp only[tT,hs.rd],by simp only[mW,hs.wr],by simp only[List.map_cons,hs.recs];rfl,fun r M O=>?_,?_,?_⟩
 .simp only[AD,hv,hs.act]
 .simp only[List.mem_cons]at M;rcases M with rfl | M
  .exact Nat.le_max_right _ _
  .exact Nat.le_trans (hs.ret r M O) (Nat.le_max_left _ _)
 .exact Nat.le_trans U (Nat.le_max_left _ _)
 .exact Nat.max_le.2 ⟨by show s.ret<=ev.hi;omega,h2⟩
theorem Wp {T:List Rc}{s:rQ}{i:Nat}{o:Oper}(hs:SM a0 n0 h0 T s) :
  SM a0 n0 h0 ({i,o,n:=s.hi,out:=hU s.hi (qK h0 T)}::T) {s with act:=s.act.put o.dst .undef,recs:={i,n:=s.hi,hi:=s.hi,rd:=0,wr:=0}::s.recs}:=by
 refine⟨by simp only[AD,hU,hs.act],rfl,by simp only[qK,hU,hs.hp],by simp only[tT,hU,hs.rd,Nat.or_zero],by simp only[mW,hU,hs.wr,Nat.or_zero],by simp only[List.map_cons,hs.recs];rfl,fun r O M=>?_,hs.ret0,hs.ret1⟩;simp only[List.mem_cons]at O;rcases O with rfl | O
 .simp[hU]at M
 .exact hs.ret r O M
theorem Fo {α:Type}{l:List α}{i:Nat}{o:α}{r:List α}(h:o::r=l.drop i):l[i]?=some o/\r=l.drop (i+1):=by
 have h1:l[i]?=some o:=by
  have:(l.drop i)[0]?=some o:=(by rw[<- h];rfl);simpa using this
 refine⟨h1,?_⟩;have:l.drop (i+1)=(l.drop i).tail:=(by rw[List.tail_drop]);rw[this,<- h];rfl
theorem Tb (hl0:aE n0 h0)(F:Nat)(hop:∀ f,f<F->∀ o a n h out,jU P Gl Gm Kp f o a n h=some out->aE n h->Jt P Gl w0 B o a n h out)(jr:Rc)(x:AV)(hx:jr.out.val=.pan x) :
  ∀(l:List Oper) (fuel i:Nat) (s:rQ) (T:List Rc) (out:Out (mQ×bE)),fuel<=F->gR P Gl Gm Kp fuel ops (jS ops) jr.i i l x jr.out.hp s=some out->l=ops.toList.drop i->
   Good P Gl w0 B ops a0 n0 h0 T->(∃ m,SM a0 n0 h0 T {s with ret:=m})->jr ∈ T->(∀ r ∈ T,∀ y,r.out.val=.pan y->r=jr)->(∀ q ∈ T,q.i<i)->
   (∀ k,k<i->(∃ r ∈ T,r.i=k)\/((jS ops).getD k 0).testBit jr.i=true)->
   ∃ T',Good P Gl w0 B ops a0 n0 h0 T'/\TG ops a0 n0 h0 T' jr x out/\∀ k,k<ops.size->(∃ r ∈ T',r.i=k)\/((jS ops).getD k 0).testBit jr.i=true:=by
 intro l
 induction l with
 |nil=>
  intro fuel i s T out hF e hl hT U hj a2 a1 O;unfold gR at e;obtain⟨m,U⟩:=U;cases ho:nL ((jS ops).getD jr.i 0) jr.i s.recs with
  |false=>rw[ho]at e;cases e
  |true=>
   rw[ho]at e;simp only[cond_true,Option.some.injEq]at e;subst e;have hr:s.recs=T.map nD:=U.recs;have a5:ops.size<=i:=by
    have:=congrArg List.length hl;simp at this;omega
   refine⟨T,hT,⟨hj,hx,a2,by rw[<- hr];exact ho,?_,U.hi,U.hi,?_,U.rd,U.wr⟩,fun k hk=>O k om⟩
   .show (mQ.pan x,forget s.act ops.toList)=_;rw[show s.act=_ from U.act]
   .show gG _ _ _ s.recs=_;rw[hr]
 |cons o r ih=>
  intro fuel i s T out hF e hl hT U hj a2 a1 O;obtain⟨a4,hr⟩:=Fo hl;have ho:ops[i]?=some o:=(by simpa using a4);cases fuel with
  |zero=>unfold gR at e;cases e
  |succ fuel=>
   unfold gR at e;cases hb:((jS ops).getD i 0).testBit jr.i with
   |true=>
    rw[hb]at e;simp only[cond_true]at e;refine ih fuel (i+1) s T out om e hr hT U hj a2 (fun q M=>by have:=a1 q M;omega) fun k hk=>?_;by_cases e:k=i
    .subst e;exact .inr hb
    .exact O k om
   |false=>
    rw[hb]at e;simp only[cond_false]at e;cases hk:cI ops s.act o with
    |false=>rw[hk]at e;cases e
    |true=>
     rw[hk]at e;simp only[cond_true]at e;obtain⟨m,U⟩:=U;cases hw:dY ops s.act o with
     |false=>
      rw[hw]at e;simp only[cond_false]at e;have Y:=Wk hT hl0 U a1 ho hk hw;refine ih fuel (i+1) _ ({i,o,n:=s.hi,out:=hU s.hi (qK h0 T)}::T) out om e hr ⟨Y,hT⟩ ⟨m,Wp U⟩ (by simp[hj]) (fun q M y hy=>?_) (fun q M=>?_) fun k hk=>?_
      .simp only[List.mem_cons]at M;rcases M with rfl | M
       .simp[hU]at hy
       .exact a2 q M y hy
      .simp only[List.mem_cons]at M;rcases M with rfl | M
       .simp
       .have:=a1 q M;omega
      .by_cases e:k=i
       .subst e;exact .inl ⟨_,List.mem_cons_self,rfl⟩
       .exact(O k om).imp (fun ⟨q,h1,h2⟩=>⟨q,by simp[h1],h2⟩) id
     |true=>
      rw[hw]at e;simp only[cond_true]at e;split at e
      .cases e
      .rename_i ev hev;cases hc:clear ((jS ops).getD i 0) ev.rd ev.wr s.recs with
       |false=>rw[hc]at e;cases e
       |true=>
        rw[hc]at e;simp only[cond_true]at e;cases hv:ev.val with
        |put u=>
         rw[hv]at e;simp only at e;have Y:=GY hT hl0 U (hop fuel om) a1 ho hk hw hev hc (fun d h=>by rw[hv]at h;cases h);have a3:Fr s.hi s.hp ev:=(by have:=Y.fr;rw[<- U.hp]at this;exact this);refine ih fuel (i+1) _ ({i,o,n:=s.hi,out:=ev}::T) out om e hr ⟨Y,hT⟩ ⟨_,HK (s:={s with ret:=m}) U hv a3 rfl⟩ (by simp[hj]) (fun q M y hy=>?_) (fun q M=>?_) fun k hk=>?_
         .simp only[List.mem_cons]at M;rcases M with rfl | M
          .simp only[hv]at hy;cases hy
          .exact a2 q M y hy
         .simp only[List.mem_cons]at M;rcases M with rfl | M
          .simp
          .have:=a1 q M;omega
         .by_cases e:k=i
          .subst e;exact .inl ⟨_,List.mem_cons_self,rfl⟩
          .exact(O k om).imp (fun ⟨q,h1,h2⟩=>⟨q,by simp[h1],h2⟩) id
        |dfr d=>rw[hv]at e;cases e
        |pan u=>rw[hv]at e;cases e
theorem Ql (hl0:aE n0 h0)(F:Nat)(hop:∀ f,f<F->∀ o a n h out,jU P Gl Gm Kp f o a n h=some out->aE n h->Jt P Gl w0 B o a n h out) :
  ∀(l:List Oper) (fuel i:Nat) (s:rQ) (T:List Rc) (out:Out (mQ×bE)),fuel<=F->fX P Gl Gm Kp fuel ops (jS ops) i l s=some out->l=ops.toList.drop i->
   Good P Gl w0 B ops a0 n0 h0 T->SM a0 n0 h0 T s->(∀ r ∈ T,∀ y,r.out.val≠.pan y)->(∀ q ∈ T,q.i<i)->(∀ k,k<i->∃ r ∈ T,r.i=k)->
   ∃ T',Good P Gl w0 B ops a0 n0 h0 T'/\((EndN a0 n0 h0 T' out/\∀ k,k<ops.size->∃ r ∈ T',r.i=k)\/
    ∃ j x,TG ops a0 n0 h0 T' j x out/\∀ k,k<ops.size->(∃ r ∈ T',r.i=k)\/((jS ops).getD k 0).testBit j.i=true):=by
 intro l
 induction l with
 |nil=>
  intro fuel i s T out hF e hl hT Y a2 M a1;unfold fX at e;simp only[Option.some.injEq]at e;subst e;have a6:ops.size<=i:=by
   have:=congrArg List.length hl;simp at this;omega
  have h4:=Y.ret1;have h3:=Y.ret0;refine⟨T,hT,.inl ⟨⟨by simp only[Y.act],Y.hi,Y.hp,Y.rd,Y.wr,fun r hr M=>?_,?_,?_,?_,a2⟩,fun k hk=>a1 k om⟩⟩
  .have:=Y.ret r hr M;cases hb:Hp.below s.ret s.hp with
   |false=>simp only[cond_false];omega
   |true=>simpa using this
  .cases hb:Hp.below s.ret s.hp with
   |false=>simp only[cond_false];omega
   |true=>simpa using h3
  .cases hb:Hp.below s.ret s.hp with
   |false=>simp
   |true=>simpa using h4
  .cases hb:Hp.below s.ret s.hp with
   |false=>
    simp only[cond_false];rw[Y.hi,Y.hp];exact Good.hplt hl0 hT
   |true=>simpa using uI hb
 |cons o r ih=>
  intro fuel i s T out hF e hl hT Y a2 M a1;obtain⟨a5,hr⟩:=Fo hl;have ho:ops[i]?=some o:=(by simpa using a5);cases fuel with
  |zero=>unfold fX at e;cases e
  |succ fuel=>
   unfold fX at e;cases hk:cI ops s.act o with
   |false=>rw[hk]at e;cases e
   |true=>
    rw[hk]at e;simp only[cond_true]at e;cases hw:dY ops s.act o with
    |false=>
     rw[hw]at e;simp only[cond_false]at e;have U:=Wk hT hl0 Y M ho hk hw;refine ih fuel (i+1) _ ({i,o,n:=s.hi,out:=hU s.hi (qK h0 T)}::T) out om e hr ⟨U,hT⟩ (Wp Y) (fun q O y hy=>?_) (fun q O=>?_) fun k hk=>?_
     .simp only[List.mem_cons]at O;rcases O with rfl | O
      .simp[hU]at hy
      .exact a2 q O y hy
     .simp only[List.mem_cons]at O;rcases O with rfl | O
      .simp
      .have:=M q O;omega
     .by_cases e:k=i
      .subst e;exact⟨_,List.mem_cons_self,rfl⟩
      .obtain⟨q,h1,h2⟩:=a1 k om;exact⟨q,by simp[h1],h2⟩
    |true=>
     rw[hw]at e;simp only[cond_true]at e;split at e
     .cases e
     .rename_i ev hev;cases hc:clear ((jS ops).getD i 0) ev.rd ev.wr s.recs with
      |false=>rw[hc]at e;cases e
      |true=>
       rw[hc]at e;simp only[cond_true]at e;cases hv:ev.val with
       |dfr d=>rw[hv]at e;cases e
       |put u=>
        rw[hv]at e;simp only at e;have U:=GY hT hl0 Y (hop fuel om) M ho hk hw hev hc (fun d h=>by rw[hv]at h;cases h);have a3:Fr s.hi s.hp ev:=(by have:=U.fr;rw[<- Y.hp]at this;exact this);have a4:(bif Nat.blt s.hi ev.nx then ev.nx else s.ret)=if s.hi<ev.nx then ev.nx else s.ret:=by
         by_cases M:s.hi<ev.nx
         .rw[if_pos M,show Nat.blt s.hi ev.nx=true from kG.2 M];rfl
         .rw[if_neg M];cases hb:Nat.blt s.hi ev.nx with
          |true=>exact absurd (kG.1 hb) M
          |false=>rfl
        refine ih fuel (i+1) _ ({i,o,n:=s.hi,out:=ev}::T) out om e hr ⟨U,hT⟩ (HK Y hv a3 a4) (fun q O y hy=>?_) (fun q O=>?_) fun k hk=>?_
        .simp only[List.mem_cons]at O;rcases O with rfl | O
         .simp only[hv]at hy;cases hy
         .exact a2 q O y hy
        .simp only[List.mem_cons]at O;rcases O with rfl | O
         .simp
         .have:=M q O;omega
        .by_cases e:k=i
         .subst e;exact⟨_,List.mem_cons_self,rfl⟩
         .obtain⟨q,h1,h2⟩:=a1 k om;exact⟨q,by simp[h1],h2⟩
       |pan u=>
        rw[hv]at e;simp only at e;have U:=GY hT hl0 Y (hop fuel om) M ho hk hw hev hc (fun d h=>by rw[hv]at h;cases h);have a3:Fr s.hi s.hp ev:=(by have:=U.fr;rw[<- Y.hp]at this;exact this);obtain⟨T',h1,h2,h3⟩:=Tb hl0 F hop {i,o,n:=s.hi,out:=ev} u hv r fuel (i+1) _ ({i,o,n:=s.hi,out:=ev}::T) out om e hr ⟨U,hT⟩ ⟨_,SO Y hv a3⟩ sm
         (fun q O y hy=>by
          simp only[List.mem_cons]at O;rcases O with rfl | O
          .rfl
          .exact absurd hy (a2 q O y))
         (fun q O=>by
          simp only[List.mem_cons]at O;rcases O with rfl | O
          .simp
          .have:=M q O;omega)
         (fun k hk=>by
          by_cases e:k=i
          .subst e;exact .inl ⟨_,List.mem_cons_self,rfl⟩
          .obtain⟨q,h1,h2⟩:=a1 k om;exact .inl ⟨q,by simp[h1],h2⟩)
        exact⟨T',h1,.inr ⟨_,u,h2,h3⟩⟩
theorem MO {T:List Rc}:KD K0 (fun _=>false) T=K0:=by
 induction T with
 |nil=>rfl
 |cons r rs ih=>
  funext t
  simp only[KD];rw[if_neg sm,ih]
theorem IU {T:List Rc}:AD a0 (fun _=>false) T=a0:=by
 induction T with
 |nil=>rfl
 |cons r rs ih=>simp only[AD];exact ih
theorem FW:∀{T:List Rc},Good P Gl w0 B ops a0 n0 h0 T->∀ t,KD K0 (fun _=>true) T t=if (mW T).testBit t=true then (qK h0 T).get t else K0 t
 |[],_,t=>by simp[KD,mW]
 |r::rs,h,t=>by
  simp only[KD,mW,Nat.testBit_or,qK,true_and,Bool.or_eq_true];by_cases O:r.out.wr.testBit t=true
  .rw[if_pos O,if_pos (.inr O)]
  .rw[if_neg O,FW h.2 t];have U:=h.1.fr.keep t (by simpa using O);by_cases M:(mW rs).testBit t=true
   .rw[if_pos M,if_pos (.inl M),U]
   .rw[if_neg M,if_neg (by rintro (c | c);exact M c;exact O c)]
theorem NH (a:bE)(d:Option Tmp)(v u:AV):(a.put d v).put d u=a.put d u:=by
 cases d with
 |none=>rfl
 |some d=>simp[bE.put]
theorem Bc:∀{l:List Oper}{a:bE}{o:Oper}{v:AV},o ∈ l->forget (a.put o.dst v) l=forget a l
 |[],_,_,_,h=>by simp at h
 |o'::r,a,o,v,h=>by
  simp only[forget];by_cases e:o'.dst=o.dst
  .rw[e,NH]
  .have O:o ∈ r:=by
    simp only[List.mem_cons]at h;rcases h with rfl | h
    .exact absurd rfl e
    .exact h
   rw[put_comm a v .unk (x:=o.dst) (y:=o'.dst) fun d hd M=>e (by rw[hd,M])];exact Bc O
theorem xQ {D:Nat->Bool}:∀{T:List Rc},(∀ q ∈ T,ops[q.i]?=some q.o)->forget (AD a0 D T) ops.toList=forget a0 ops.toList
 |[],_=>rfl
 |r::rs,h=>by
  simp only[AD];have M:=xQ (D:=D) (T:=rs) fun q O=>h q (by simp[O]);split
  .rw[Bc]
   .exact M
   .have:=h r sm;exact List.mem_of_getElem? (i:=r.i) (by simpa using this)
  .exact M
theorem NI {G:Gh}{ro:Option Nat}{a:bE}{ca:Act}(d:Option Tmp)(h:eT G ro a ca):eT G ro (a.put d .unk) ca:=by
 cases d with
 |none=>exact h
 |some d=>
  refine⟨aI.of_get (by simp[bE.put,h.tmps.length]) fun i x v M O=>?_,h.defers,h.rnd⟩;rw[qU]at M;split at M
  .cases hy:a.tmps[i]? with
   |none=>rw[hy]at M;cases M
   |some y=>rw[hy]at M;simp at M;subst M;simp only[aF]
  .obtain⟨_,U,Y⟩:=aI.get i h.tmps M;rw[U]at O;simp at O;exact O ▸ Y
theorem Be {G:Gh}{ro:Option Nat}{ca:Act}:∀{l:List Oper}{a:bE},eT G ro a ca->eT G ro (forget a l) ca
 |[],_,h=>h
 |o::r,a,h=>by simp only[forget];exact Be (NI o.dst h)
theorem Ld:∀{T:List Rc},Good P Gl w0 B ops a0 n0 h0 T->∀ q ∈ T,ops[q.i]?=some q.o
 |[],_,q,hq=>by simp at hq
 |r::rs,h,q,hq=>by
  simp only[List.mem_cons]at hq;rcases hq with rfl | hq
  .exact h.1.op
  .exact Ld h.2 q hq
theorem Qk (hm:P.follows .mixedOrders=true)(F:Nat)(hop:∀ f,f<F->∀ o a n h out,jU P Gl Gm Kp f o a n h=some out->aE n h->Jt P Gl w0 B o a n h out)
  (id:Nat) (ops:Array Oper) (a:bE) (n:Nat) (h:Hp) (out:Out (mQ×bE)) (hap:kD ops (jS ops)=true)
  (e:fX P Gl Gm Kp F ops (jS ops) 0 ops.toList {act:=a,ret:=n,hi:=n,hp:=h,recs:=[],rd:=0,wr:=0}=some out) (hl:aE n h):rU P Gl w0 B (.region id ops true) a n h out:=by
 obtain⟨ad,hap⟩:=apart_spec hap;obtain⟨T,hT,ae⟩:=Ql (ops:=ops) (a0:=a) (n0:=n) (h0:=h) hl F hop ops.toList F 0 _ [] out (Nat.le_refl _) e sm trivial
  ⟨rfl,rfl,rfl,rfl,rfl,rfl,by simp,Nat.le_refl _,Nat.le_refl _⟩ sm sm sm
 have a7:=Ld hT;have a9:=qBO hT;have start:∀(K:cG) (G:Gh) (w:World) (ro:Option Nat) (ca:Act) (Q:Exit->Act->World->Prop),St w0 B Gl K G w n (xT n T) h (tT T|||mW T)->eT G ro a ca->
   (∀ i,i<ops.size->(∃ r ∈ T,r.i=i)\/∃ r ∈ T,(∃ x,r.out.val=.pan x)/\((jS ops).getD i 0).testBit r.i=true)->
   ((∀ r ∈ T,∀ x,r.out.val≠.pan x)->∀ G' a6 w',G.le G'->(∀ o I,G'.nm o=some I->G.nm o=none->∃ r ∈ T,r.n<=o/\o<r.out.nx)->
    eO w0 B (KD K (fun _=>true) T) G' w'->eT G' ro (AD a (fun _=>true) T) a6->Q .normal a6 w')->
   (∀ t1 r rs x,T=t1++r::rs->r.out.val=.pan x->∀(D:Nat->Bool) G' ca w' v,D r.i=false->(∀ k,((jS ops).getD r.i 0).testBit k=true->D k=true)->G.le G'->
    (∀ o I,G'.nm o=some I->G.nm o=none->n<=o/\o<xT n T)->eO w0 B ((KD K D T).merge r.out) G' w'->eT G' ro (AD a D T) ca->aF G' x v->
    Q (.panic [{v,recovered:=false}]) ca w')->(Code.region id ops true).wpIn (Fw ro) 0 P Q ca w:=by
  intro K G w ro ca Q st hA a5 ab ak;refine wpIn_region_any hm (Wv hT hl hap ad a5 a7 st.agree st.fresh st.gl ab ak ops.size _ ca _ ⟨by simp,fun i o _ hi=>?_,fun r _ hi=>?_,G,Gh.le_refl G,fun o I h1 h2=>?_,?_,?_⟩ ?_)
  .exfalso;unfold eJ at hi;by_cases U:i<ops.size
   .simp[U]at hi
   .simp[U]at hi
  .exfalso;unfold eJ at hi;by_cases U:r.i<ops.size
   .simp[U]at hi
   .simp[U]at hi
  .rw[h2]at h1;cases h1
  .have:KD K (eJ (Array.replicate ops.size false)) T=K:=by
    rw[Bm (D':=fun _=>false),MO];intro r _;unfold eJ;by_cases U:r.i<ops.size
    .simp[U]
    .simp[U]
   rw[this];exact st.rel.drew rfl rfl rfl rfl
  .have:AD a (eJ (Array.replicate ops.size false)) T=a:=by
    rw[Ab (D':=fun _=>false),IU];intro r _;unfold eJ;by_cases U:r.i<ops.size
    .simp[U]
    .simp[U]
   rw[this];exact hA
  .have:=List.countP_le_length (p:=fun i=>!eJ (Array.replicate ops.size false) i) (l:=List.range ops.size);simpa using this
 rcases ae with⟨hN,a5⟩ | ⟨j,x,hP,a5⟩
 .
  refine⟨⟨hN.ret0,hN.ret1,hN.lt,fun t ht=>?_,fun t ht=>?_⟩,fun K G w ro ca st hA Q M=>?_⟩
  .rw[hN.hp];exact Good.keep hT t (by rw[<- hN.wr];exact ht)
  .rw[hN.hi];exact Good.low hT t (by rw[<- hN.rd,<- hN.wr];exact ht)
  .refine start K G w ro ca Q (by rw[hN.hi,hN.rd,hN.wr]at st;exact st) hA (fun i hi=>.inl (a5 i hi)) (fun _ G' a6 w' g1 g2 g3 g4=>?_) fun t1 r rs x O hx=>?_
   .refine M G' .normal a6 w' ⟨g1,fun o I h1 h2=>?_⟩ ?_ (by rw[hN.val];rfl) (by rw[hN.val];exact g4)
    .obtain⟨r,a1,_,_⟩:=g2 o I h1 h2;have b1:=hN.ret r a1 om;have b2:=a9.2 r a1;omega
    .have:K.merge out=KD K (fun _=>true) T:=by
      funext t
      rw[FW hT t];simp only[cG.merge,hN.wr,hN.hp]
     rw[this];exact g3
   .exact absurd hx (hN.nopan r (by rw[O];simp) x)
 .
  have ah:∀ q ∈ T,∀ t,q.out.wr.testBit t=true->t<q.out.hi:=by
   intro q M t ht;obtain⟨u1,u2,O⟩:=List.append_of_mem M;have hT:=hT;rw[O]at hT;exact hT.at.fr.low t (by simp[ht])
  obtain⟨_,j2,ag⟩:=List.append_of_mem hP.mem;have aa:=hT;rw[ag]at aa;have az:=(a9.2 j hP.mem);refine⟨⟨by rw[hP.nx];exact a9.1,by rw[hP.nx,hP.hi];exact Nat.le_refl _,fun t ht=>?_,fun t ht=>?_,fun t ht=>?_⟩,fun K G w ro ca st hA Q M=>?_⟩
  .rw[hP.nx]at ht;rw[hP.hp];rcases kE (anc:=(jS ops).getD j.i 0) (upto:=j.i) (t:=t) (T:=T) (h:=j.out.hp) with⟨h1,_⟩ | ⟨h1,_⟩
   .rw[h1];exact aa.at.fr.lt t om
   .exact h1
  .rw[hP.wr]at ht;rw[hP.hp];rcases kE (anc:=(jS ops).getD j.i 0) (upto:=j.i) (t:=t) (T:=T) (h:=j.out.hp) with⟨h1,_⟩ | ⟨h1,q,h2,h3,_⟩
   .rw[h1];have:=Good.keep (T:=j::j2) aa.tail t (by
     cases hb:(mW (j::j2)).testBit t with
     |false=>rfl
     |true=>
      obtain⟨q,ar,au⟩:=tB.1 hb;have:(mW T).testBit t=true:=tB.2 ⟨q,by rw[ag];exact List.mem_append_right _ ar,au⟩;rw[ht]at this;cases this)
    exact this
   .rw[h1,hl t (by have:=(a9.2 q h2).1;omega)]
  .rw[hP.hi];exact Good.low hT t (by rw[<- hP.rd,<- hP.wr];exact ht)
  .refine start K G w ro ca Q (by rw[hP.hi,hP.rd,hP.wr]at st;exact st) hA
    (fun i hi=>(a5 i hi).imp (fun h=>h) fun h=>⟨j,hP.mem,⟨x,hP.jpan⟩,h⟩) (fun ap=>absurd hP.jpan (ap j hP.mem x)) fun t1 r rs x' O ao D G' a6 w' v _ ac g1 g2 g3 g4 g5=>?_
   have ax:r=j:=hP.only r (by rw[O];simp) x' ao;subst ax;have ay:x'=x:=(by have:=ao.symm.trans hP.jpan;cases this;rfl);subst ay;have a4:=hT;rw[O]at a4;refine M G' _ a6 w' ⟨g1,by rw[hP.nx];exact g2⟩ ?_ (by rw[hP.val];exact⟨v,rfl,g5⟩) ?_
   .refine g3.forget fun t y hy=>?_;simp only[cG.merge,hP.wr,hP.hp]at hy;by_cases hw:(mW T).testBit t=true
    .rw[if_pos hw]at hy;rcases kE (anc:=(jS ops).getD r.i 0) (upto:=r.i) (t:=t) (T:=T) (h:=r.out.hp) with⟨h1,h2⟩ | ⟨h1,_⟩
     .rw[h1]at hy;have an:∀ q ∈ T,q.out.wr.testBit t=true->q=r\/((jS ops).getD r.i 0).testBit q.i=true:=by
       intro q M Y;by_cases al:q.i=r.i
       .left;rw[O]at M;simp only[List.mem_append,List.mem_cons]at M;rcases M with M | M | M
        .have:=(a4.behind q M).2;omega
        .exact M
        .have:=(a4.before q M).2;omega
       .right;rcases wI hP.own q M with c | c | c
        .exact absurd c al
        .exact c
        .cases hanc':((jS ops).getD r.i 0).testBit q.i with
         |true=>rfl
         |false=>
          exfalso;have b1:=c t Y;have b2:=ah q M t Y;rcases Nat.lt_trichotomy q.i r.i with c1 | c1 | c1
          .exact h2 q M c1 hanc' ⟨b1,b2⟩
          .exact al c1
          .have aw:q ∈ t1:=by
            rw[O]at M;simp only[List.mem_append,List.mem_cons]at M;rcases M with M | M | M
            .exact M
            .subst M;omega
            .have:=(a4.before q M).2;omega
           have b3:=(a4.behind q aw).1;have b4:=a4.at.fr.hi;rw[a4.at.fr.lt t om]at hy;cases hy
      unfold cG.merge;by_cases a8:r.out.wr.testBit t=true
      .rw[if_pos a8];exact hy
      .rw[if_neg a8];have ai:∀ q ∈ T,q.out.wr.testBit t=true->((jS ops).getD r.i 0).testBit q.i=true:=fun q M Y=>by
        rcases an q M Y with rfl | c
        .exact absurd Y a8
        .exact c
       rw[O,zU fun q M hd=>?_]
       .have:KD K D (r::rs) t=KD K D rs t:=by
         simp only[KD];rw[if_neg (fun c=>a8 c.2)]
        rw[this,Hu a4.tail.2 (fun q M Y=>ac _ (ai q (by rw[O];simp[M]) Y)),<- a4.at.fr.keep t (by simpa using a8)]
        .exact hy
        .refine st.agree t ?_;rw[hP.rd,hP.wr];simp[hw]
       .cases Y:q.out.wr.testBit t with
        |false=>rfl
        |true=>
         exfalso;have c:=ai q (by rw[O];simp[M]) Y;have c1:=OZ ad r.i q.i r.o (a7 r hP.mem) c;have c2:=(a4.behind q M).2;omega
     .rw[h1]at hy;cases hy
    .rw[if_neg hw]at hy;have aj:∀ q ∈ T,q.out.wr.testBit t=false:=fun q M=>by
      cases Y:q.out.wr.testBit t with
      |false=>rfl
      |true=>exact absurd (tB.2 ⟨q,M,Y⟩) hw
     unfold cG.merge;rw[if_neg (by rw[aj r hP.mem];simp)];have:=zU (K0:=K) (D:=D) (t1:=T) (rs:=[]) (t:=t) fun q M _=>aj q M;rw[List.append_nil]at this;rw[this];exact hy
   .rw[hP.val];show eT G' ro (forget (AD a (fun _=>true) T) ops.toList) a6;rw[xQ a7,<- xQ (a0:=a) (D:=D) a7];exact Be g4
theorem HN (hm:P.follows .mixedOrders=true)(hfree:mR Gl)(hGm:∀(w0:Base) (B:Nat) f g,Gm f=some g->∀ args n h out,g args n h=some out->aE n h->nR P Gl w0 B f args n h out)(fuel:Nat)
  (ih:∀ f,f<fuel->∀(w0:Base) (B:Nat),pL P Gl w0 B Gm Kp f) (w0:Base) (B:Nat):pL P Gl w0 B Gm Kp fuel:=by
 have O:∀ id ops a n h out,kD ops (jS ops)=true->
   fX P Gl Gm Kp fuel ops (jS ops) 0 ops.toList {act:=a,ret:=n,hi:=n,hp:=h,recs:=[],rd:=0,wr:=0}=some out->aE n h->rU P Gl w0 B (.region id ops true) a n h out:=
  fun id ops a n h out Y e U=>Qk hm fuel (fun f hf=>(ih f hf w0 B).op) id ops a n h out Y e U
 cases fuel with
 |zero=>
  refine⟨fun c a n h out e=>?_,fun c a n h out e=>?_,fun o a n h out e=>?_,fun ops l a n h out e U=>?_,O,fun f args n h out e=>?_,fun fn top a mode n h out e=>?_,fun f args mode n h out e=>?_,fun c a mode n h out e=>?_,fun ops l a mode n h out e U=>?_,fun l args n h out e=>?_⟩
  .unfold bD at e;cases e
  .unfold bD at e;cases e
  .unfold jU at e;cases e
  .cases l with
   |nil=>unfold eS at e;cases e;exact Wc ops a U
   |cons o r=>unfold eS at e;cases e
  .unfold fT at e;cases e
  .unfold dV at e;cases e
  .unfold fP at e;cases e
  .unfold zP at e;cases e
  .cases l with
   |nil=>unfold fJ at e;cases e;exact Ku ops a mode U
   |cons o r=>unfold fJ at e;cases e
  .unfold jV at e;cases e
 |succ fuel=>
  have M:=ih fuel (Nat.lt_succ_self _) w0 B;exact⟨Yb M,Gb M,NE M,GO M,O,Xo hfree (ih fuel (Nat.lt_succ_self _)) (hGm w0 B),Rv M,ER M,Qj M,Yd M,Tc M⟩
theorem xG (hm:P.follows .mixedOrders=true)(hfree:mR Gl)(hGm:∀(w0:Base) (B:Nat) f g,Gm f=some g->∀ args n h out,g args n h=some out->aE n h->nR P Gl w0 B f args n h out) :
  ∀ fuel (w0:Base) (B:Nat),pL P Gl w0 B Gm Kp fuel:=fun fuel=>by
 induction fuel using Nat.strongRecOn with
 |_ fuel ih=>exact fun w0 B=>HN hm hfree hGm fuel ih w0 B
end
section
variable {P:Program}{Gl:qC6}{Gm:qC7}{Kp:qC8}
def CU (P:Program)(Gl:qC6)(Gm:qC7):Prop:=
 ∀(w0:Base) (B:Nat) f g,Gm f=some g->∀ args n h out,g args n h=some out->aE n h->nR P Gl w0 B f args n h out
theorem KB (hm:P.follows .mixedOrders=true)(hfree:mR Gl)(hGm:CU P Gl Gm){fuel:Nat}{f:FuncId}{args:List AV}{n:Nat}{h:Hp}{out:Out aS}(w0:Base)(B:Nat)
  (e:fT P Gl Gm Kp fuel f args n h=some out) (hl:aE n h):nR P Gl w0 B f args n h out:=
 (xG (Kp:=Kp) hm hfree hGm fuel w0 B).call f args n h out e hl
theorem eO.kept {w0:Base}{W':World}{K:cG}{G:Gh}(h:eO w0 w0.heap.size K G W')(may:MemPlace->Prop):w0.toWorld.keptBut W' may:=by
 refine⟨h.os,h.out,fun i hi=>?_⟩;rw[h.old i hi];cases hb:w0.heap[i]? with
 |none=>rfl
 |some o=>
  cases o<;>simp
theorem OP (hm:P.follows .mixedOrders=true)(hfree:mR Gl)(hGm:CU P Gl Gm){fuel:Nat}{f:FuncId}{args:List AV}{cargs:Array Value}{out:Out aS}{W:World}{S:Nat->Nat->Option Value}
  (hS:∀ b i v,S b i=some v->W.cell? ⟨b,i,none⟩=some v) (hGl:Pg (bare S) Gl) (e:fT P Gl Gm Kp fuel f args 0 []=some out)
  (hargs:aI (bare S) args cargs.toList) :
  Calls P f cargs W fun en W'=>∃ G',rV G' out.val en/\∀ may,W.keptBut W' may:=by
 obtain⟨_,k⟩:=KB hm hfree hGm {toWorld:=W,S0:=S} W.heap.size e (fun _ _=>rfl);refine callsIn_wide.1 (show CallsIn (Fw none) 0 P f cargs W _ from k (fun _=>none) (bare S) W cargs ⟨fun _ _=>rfl,eO.start W hS,fun _ _ _=>rfl,hGl⟩ hargs _ fun G' en w' _ h2 M=>?_);exact⟨G',M,fun may=>h2.kept may⟩
end
def kA {α:Type}(x y:C α):Prop:=∀ n h out,x n h=some out->y n h=some out
theorem kA.refl {α:Type}(x:C α):kA x x:=fun _ _ _ h=>h
theorem kA.trans {α:Type}{x y z:C α}(h:kA x y)(k:kA y z):kA x z:=fun n q out e=>k n q out (h n q out e)
theorem kA.fail {α:Type}(x:C α):kA C.fail x:=fun _ _ _ h=>by cases h
theorem dK {α β:Type}{x x':C α}{f f':α->C β}(h1:kA x x')(h2:∀ a,kA (f a) (f' a)):kA (C.bind x f) (C.bind x' f'):=by
 intro n h out e;obtain⟨o,p,M,O,rfl⟩:=C.bind_some e;unfold C.bind;rw[h1 _ _ _ M];simp only[h2 _ _ _ _ O]
 rfl
section
variable {P:Program}{Gl:qC6}{Gm:qC7}{Kp:qC8}
structure IR (P:Program)(Gl:qC6)(Gm:qC7)(Kp:qC8)(f:Nat):Prop where
 code:∀ c a,kA (bD P Gl Gm Kp f c a) (bD P Gl Gm Kp (f+1) c a)
 op:∀ o a,kA (jU P Gl Gm Kp f o a) (jU P Gl Gm Kp (f+1) o a)
 ops:∀ ops l a,kA (eS P Gl Gm Kp f ops l a) (eS P Gl Gm Kp (f+1) ops l a)
 draw:∀ ops bf i l s out,fX P Gl Gm Kp f ops bf i l s=some out->fX P Gl Gm Kp (f+1) ops bf i l s=some out
 rest:∀ ops bf j i l v h s out,gR P Gl Gm Kp f ops bf j i l v h s=some out->gR P Gl Gm Kp (f+1) ops bf j i l v h s=some out
 call:∀ g args,kA (fT P Gl Gm Kp f g args) (fT P Gl Gm Kp (f+1) g args)
 leave:∀ fn top a m,kA (dV P Gl Gm Kp f fn top a m) (dV P Gl Gm Kp (f+1) fn top a m)
 dfr:∀ g args m,kA (fP P Gl Gm Kp f g args m) (fP P Gl Gm Kp (f+1) g args m)
 dcode:∀ c a m,kA (zP P Gl Gm Kp f c a m) (zP P Gl Gm Kp (f+1) c a m)
 dops:∀ ops l a m,kA (fJ P Gl Gm Kp f ops l a m) (fJ P Gl Gm Kp (f+1) ops l a m)
 round:∀ l args,kA (jV P Gl Gm Kp f l args) (jV P Gl Gm Kp (f+1) l args)
theorem FE:∀ f:Nat,(∀ xs,kA (nI f xs) (nI (f+1) xs))/\(∀ x,kA (qH f x) (qH (f+1) x)):=by
 intro f
 induction f with
 |zero=>
  refine⟨fun xs=>?_,fun x=>?_⟩
  .cases xs with
   |nil=>intro n h out e;unfold nI at e ⊢;exact e
   |cons x xs=>intro n h out e;unfold nI at e;cases e
  .intro n h out e;unfold qH at e;cases e
 |succ f ih=>
  refine⟨fun xs=>?_,fun x=>?_⟩
  .cases xs with
   |nil=>intro n h out e;unfold nI at e ⊢;exact e
   |cons x xs=>
    intro n h out e;unfold nI at e ⊢;exact dK (ih.2 x) (fun y=>dK (ih.1 xs) fun ys=>kA.refl _) n h out e
  .intro n h out e;unfold qH at e ⊢;cases x with
   |agg cs=>exact dK (ih.1 cs) (fun y=>kA.refl _) n h out e
   |sl o off len=>
    simp only at e ⊢;split at e
    .rename_i es xs hg;cases hq:Nat.ble (off+len) xs.length with
     |false=>rw[hq]at e;cases e
     |true=>
      rw[hq]at e;simp only[cond_true]at e ⊢;split at e
      .rename_i r hr;rw[ih.1 _ _ _ _ hr];exact e
      .cases e
    .cases e
   |_=>exact e
theorem Hl {top:Bool}:∀(f:Nat) (xs:List AV),kA (gD top f xs) (gD top (f+1) xs):=by
 intro f
 induction f with
 |zero=>
  intro xs n h out e;cases xs with
  |nil=>unfold gD at e ⊢;exact e
  |cons x xs=>unfold gD at e;cases e
 |succ f ih=>
  intro xs n h out e;cases xs with
  |nil=>unfold gD at e ⊢;exact e
  |cons x xs=>
   unfold gD at e ⊢;refine dK (fun n h out e=>?_) (fun y=>dK (ih xs) fun ys=>kA.refl _) n h out e;unfold xR at e ⊢;split at e
   .exact e
   .exact(FE f).2 _ n h out e
theorem DL {al:Bool}{args:List AV}{x y:C aS}(k:kA x y):kA (alone al args x) (alone al args y):=k
theorem AA {f:Nat}(ih:IR P Gl Gm Kp f):IR P Gl Gm Kp (f+1):=by
 refine⟨fun c a=>?_,fun o a=>?_,fun ops l a=>?_,fun ops bf i l s out e=>?_,fun ops bf j i l v h s out e=>?_,fun g args=>?_,fun fn top a m=>?_,fun g args m=>?_,fun c a m=>?_,fun ops l a m=>?_,fun l args=>?_⟩
 .intro n h out e;unfold bD at e ⊢;cases c with
  |seq x y=>
   refine dK (ih.code x a) (fun r=>?_) n h out e;obtain⟨ex,a'⟩:=r;cases ex<;>first | exact ih.code y a' | exact kA.refl _
  |cond c x y=>
   simp only at e ⊢;cases hv:a.eval c with
   |bool b=>rw[hv]at e;cases b;exact ih.code y a n h out e;exact ih.code x a n h out e
   |_=>rw[hv]at e;cases e
  |block id x=>exact dK (ih.code x a) (fun r=>kA.refl _) n h out e
  |loop x=>
   refine dK (ih.code x a) (fun r=>?_) n h out e;obtain⟨ex,a'⟩:=r;cases ex<;>first | exact ih.code _ a' | exact kA.refl _
  |scope x=>exact dK (ih.code x a) (fun r=>kA.refl _) n h out e
  |region id ops dr=>
   cases dr with
   |false=>exact ih.ops ops _ a n h out e
   |true=>
    simp only at e ⊢;cases hap:kD ops (jS ops) with
    |false=>rw[hap]at e;cases e
    |true=>rw[hap]at e;exact ih.draw _ _ _ _ _ _ e
  |rangeFunc g ps asg body=>
   simp only at e ⊢;cases hr:a.rnd with
   |some l=>rw[hr]at e;cases e
   |none=>
    rw[hr]at e;cases hv:a.eval g with
    |fn fv first cap=>
     rw[hv]at e;cases fv with
     |func g'=>
      refine dK (kA.refl _) (fun r=>dK (kA.refl _) fun _=>dK (ih.call _ _) fun q=>?_) n h out e;cases q with
      |panicked v=>exact kA.refl _
      |returned v=>
       refine dK (kA.refl _) fun j=>?_;cases j with
       |none=>exact kA.refl _
       |some j=>exact ih.code j _
     |_=>cases e
    |_=>rw[hv]at e;cases e
  |_=>exact e
 .intro n h out e;unfold jU at e ⊢;refine dK (kA.refl _) (fun r=>?_) n h out e;cases r with
  |enter g args=>exact dK (ih.call g args) fun q=>kA.refl _
  |round l args=>exact dK (ih.round l args) fun q=>kA.refl _
  |_=>exact kA.refl _
 .intro n h out e;cases l with
  |nil=>unfold eS at e ⊢;exact e
  |cons o r=>
   unfold eS at e ⊢;cases hk:cI ops a o with
   |false=>rw[hk]at e;cases e
   |true=>
    rw[hk]at e;simp only[cond_true]at e ⊢;cases hw:dY ops a o with
    |false=>rw[hw]at e;exact ih.ops ops r _ n h out e
    |true=>
     rw[hw]at e;simp only[cond_true]at e ⊢;refine dK (ih.op o a) (fun q=>?_) n h out e;cases q with
     |put v=>exact ih.ops ops r _
     |dfr d=>exact ih.ops ops r _
     |pan v=>exact kA.refl _
 .cases l with
  |nil=>unfold fX at e ⊢;exact e
  |cons o r=>
   unfold fX at e ⊢;cases hk:cI ops s.act o with
   |false=>rw[hk]at e;cases e
   |true=>
    rw[hk]at e;simp only[cond_true]at e ⊢;cases hw:dY ops s.act o with
    |false=>rw[hw]at e;exact ih.draw _ _ _ _ _ _ e
    |true=>
     rw[hw]at e;simp only[cond_true]at e ⊢;split at e
     .cases e
     .rename_i ev hev;rw[ih.op o s.act _ _ _ hev];simp only;cases hc:clear (bf.getD i 0) ev.rd ev.wr s.recs with
      |false=>rw[hc]at e;cases e
      |true=>
       rw[hc]at e;simp only[cond_true]at e ⊢;cases hv:ev.val with
       |put v=>rw[hv]at e;exact ih.draw _ _ _ _ _ _ e
       |dfr d=>rw[hv]at e;cases e
       |pan v=>rw[hv]at e;exact ih.rest _ _ _ _ _ _ _ _ _ e
 .cases l with
  |nil=>unfold gR at e ⊢;exact e
  |cons o r=>
   unfold gR at e ⊢;cases hb:(bf.getD i 0).testBit j with
   |true=>rw[hb]at e;exact ih.rest _ _ _ _ _ _ _ _ _ e
   |false=>
    rw[hb]at e;simp only[cond_false]at e ⊢;cases hk:cI ops s.act o with
    |false=>rw[hk]at e;cases e
    |true=>
     rw[hk]at e;simp only[cond_true]at e ⊢;cases hw:dY ops s.act o with
     |false=>rw[hw]at e;exact ih.rest _ _ _ _ _ _ _ _ _ e
     |true=>
      rw[hw]at e;simp only[cond_true]at e ⊢;split at e
      .cases e
      .rename_i ev hev;rw[ih.op o s.act _ _ _ hev];simp only;cases hc:clear (bf.getD i 0) ev.rd ev.wr s.recs with
       |false=>rw[hc]at e;cases e
       |true=>
        rw[hc]at e;simp only[cond_true]at e ⊢;cases hv:ev.val with
        |put u=>rw[hv]at e;exact ih.rest _ _ _ _ _ _ _ _ _ e
        |dfr d=>rw[hv]at e;cases e
        |pan u=>rw[hv]at e;cases e
 .intro n h out e;unfold fT at e ⊢;cases hg:Gm g with
  |some x=>rw[hg]at e;exact e
  |none=>
   rw[hg]at e;simp only at e ⊢;cases hf:P.funcs[g]? with
   |none=>rw[hf]at e;cases e
   |some fn=>
    rw[hf]at e;simp only at e ⊢;cases hb:fn.body with
    |none=>rw[hb]at e;cases e
    |some c=>
     rw[hb]at e;simp only at e ⊢;refine DL (dK (ih.code c _) (fun r=>?_)) n h out e;obtain⟨ex,a'⟩:=r;cases ex<;>first | exact ih.leave _ _ _ _ | exact kA.refl _
 .intro n h out e;unfold dV at e ⊢;cases hd:a.defers with
  |nil=>
   rw[hd]at e;cases m with
   |some v=>exact e
   |none=>exact dK (kA.refl _) (fun vs=>dK (Hl f vs) fun _=>kA.refl _) n h out e
  |cons d ds=>
   rw[hd]at e;cases d with
   |collected o=>exact dK (kA.refl _) (fun _=>ih.leave _ _ _ _) n h out e
   |call fv args=>
    cases fv with
    |func g=>exact dK (kA.refl _) (fun _=>dK (ih.dfr g args m) fun M=>ih.leave _ _ _ _) n h out e
    |_=>cases e
 .intro n h out e;unfold fP at e ⊢;cases hf:P.funcs[g]? with
  |none=>rw[hf]at e;cases e
  |some fn=>
   rw[hf]at e;simp only at e ⊢;cases hb:fn.body with
   |none=>rw[hb]at e;cases e
   |some c=>
    rw[hb]at e;exact dK (ih.dcode c _ m) (fun r=>kA.refl _) n h out e
 .intro n h out e;unfold zP at e ⊢;cases c with
  |seq x y=>
   refine dK (ih.dcode x a m) (fun r=>?_) n h out e;obtain⟨ex,a',M⟩:=r;cases ex<;>first | exact ih.dcode y a' M | exact kA.refl _
  |region id ops dr=>
   cases dr with
   |false=>exact ih.dops ops _ a m n h out e
   |true=>exact dK (ih.code _ a) (fun r=>kA.refl _) n h out e
  |_=>exact dK (ih.code _ a) (fun r=>kA.refl _) n h out e
 .intro n h out e;cases l with
  |nil=>unfold fJ at e ⊢;exact e
  |cons o r=>
   unfold fJ at e ⊢;cases hk:cI ops a o with
   |false=>rw[hk]at e;cases e
   |true=>
    rw[hk]at e;simp only[cond_true]at e ⊢;cases hw:dY ops a o with
    |false=>rw[hw]at e;exact ih.dops ops r _ m n h out e
    |true=>
     rw[hw]at e;simp only[cond_true]at e ⊢;cases hc:isRecover o.op with
     |true=>
      rw[hc]at e;cases m with
      |some v=>exact ih.dops ops r _ _ n h out e
      |none=>exact ih.dops ops r _ _ n h out e
     |false=>
      rw[hc]at e;simp only[cond_false]at e ⊢;refine dK (kA.refl _) (fun q=>?_) n h out e;cases q<;>first | exact ih.dops ops r _ _ | exact kA.refl _
 .intro n h out e;unfold jV at e ⊢;refine dK (kA.refl _) (fun r=>dK (ih.code _ _) fun q=>?_) n h out e;obtain⟨ex,a'⟩:=q;cases ex with
  |normal=>exact dK (kA.refl _) fun _=>dK (ih.code _ a') fun q=>kA.refl _
  |_=>exact kA.refl _
theorem AB:IR P Gl Gm Kp 0:=by
 refine⟨fun c a n h out e=>?_,fun o a n h out e=>?_,fun ops l a n h out e=>?_,fun ops bf i l s out e=>?_,fun ops bf j i l v h s out e=>?_,fun g args n h out e=>?_,fun fn top a m n h out e=>?_,fun g args m n h out e=>?_,fun c a m n h out e=>?_,fun ops l a m n h out e=>?_,fun l args n h out e=>?_⟩
 .unfold bD at e;cases e
 .unfold jU at e;cases e
 .cases l with
  |nil=>unfold eS at e ⊢;exact e
  |cons o r=>unfold eS at e;cases e
 .cases l with
  |nil=>unfold fX at e ⊢;exact e
  |cons o r=>unfold fX at e;cases e
 .cases l with
  |nil=>unfold gR at e ⊢;exact e
  |cons o r=>unfold gR at e;cases e
 .unfold fT at e;cases e
 .unfold dV at e;cases e
 .unfold fP at e;cases e
 .unfold zP at e;cases e
 .cases l with
  |nil=>unfold fJ at e ⊢;exact e
  |cons o r=>unfold fJ at e;cases e
 .unfold jV at e;cases e
theorem gC:∀ f,IR P Gl Gm Kp f
 |0=>AB
 |f+1=>AA (gC f)
theorem pN {f k:Nat}(hk:f<=k)(c:Code)(a:bE):kA (bD P Gl Gm Kp f c a) (bD P Gl Gm Kp k c a):=by
 induction hk with
 |refl=>exact kA.refl _
 |step _ ih=>exact ih.trans ((gC _).code c a)
theorem GN {f k:Nat}(hk:f<=k)(ops:Array Oper)(l:List Oper)(a:bE):kA (eS P Gl Gm Kp f ops l a) (eS P Gl Gm Kp k ops l a):=by
 induction hk with
 |refl=>exact kA.refl _
 |step _ ih=>exact ih.trans ((gC _).ops ops l a)
end
theorem dJ {α β:Type}{n:Nat}{h:Hp}{x:C α}{f:α->C β}{o:Out α}{p:Out β}(e1:x n h=some o)(e2:f o.val o.nx o.hp=some p):C.bind x f n h=some (o.seq p):=by
 unfold C.bind;rw[e1];simp only[e2]
 rfl
abbrev Env:=List (Nat×AV)
def lk:Env->Nat->Option AV
 |[],_=>none
 |(i,v)::e,t=>bif i==t then some v else lk e t
def Env.eval (E:Env):Operand->AV
 |.tmp t=>(lk E t).getD .undef
 |.const v=>(Ca v).getD .unk
 |.global g=>.gref g 0
 |.func f=>.fn (.func f) [] []
def Env.knows (E:Env):Operand->Bool
 |.tmp t=>(lk E t).isSome
 |_=>true
def Env.knowsAll (E:Env):List Operand->Bool
 |[]=>true
 |x::l=>E.knows x&&Env.knowsAll E l
def Env.put (E:Env):Option Tmp->AV->Env
 |some d,v=>(d,v)::E
 |none,_=>E
def iX (L:Nat):Option Tmp->Bool
 |some d=>Nat.blt d L
 |none=>true
structure Env.of (L:Nat)(E:Env)(a:bE):Prop where
 len:a.tmps.length=L
 val:∀ t v,lk E t=some v->a.tmps[t]?=some v
theorem Env.of.eval {L:Nat}{E:Env}{a:bE}(h:E.of L a){x:Operand}(hk:E.knows x=true):E.eval x=a.eval x:=by
 cases x with
 |tmp t=>
  simp only[Env.knows]at hk;simp only[Env.eval,bE.eval];cases hv:lk E t with
  |none=>rw[hv]at hk;cases hk
  |some v=>
   have:=h.val t v hv;simp[List.getD,this]
 |_=>rfl
theorem Env.of.put {L:Nat}{E:Env}{a:bE}(h:E.of L a){d:Option Tmp}(hd:iX L d=true)(v:AV):(E.put d v).of L (a.put d v):=by
 cases d with
 |none=>exact h
 |some d=>
  have M:d<L:=(by simpa [iX]using hd);refine⟨by simp[bE.put,h.len],fun t u hu=>?_⟩;unfold Env.put lk at hu;simp only[bE.put];by_cases e:d=t
  .subst e;simp only[beq_self_eq_true,cond_true,Option.some.injEq]at hu;subst hu;rw[List.getElem?_set_self (by rw[h.len];exact M)]
  .have O:(d==t)=false:=(by simpa using e);simp only[O,cond_false]at hu;rw[List.getElem?_set_ne e];exact h.val t u hu
theorem Env.of.nil {L:Nat}{a:bE}(h:a.tmps.length=L):Env.of L [] a:=⟨h,fun t v h=>by cases h⟩
def Env.sub (E0 E:Env):Prop:=∀ t v,lk E0 t=some v->lk E t=some v
theorem Env.of.sub {L:Nat}{E E0:Env}{a:bE}(h:E.of L a)(hs:E0.sub E):E0.of L a:=⟨h.len,fun t v e=>h.val t v (hs t v e)⟩
theorem Env.sub.nil {E:Env}:Env.sub [] E:=fun t v h=>by cases h
theorem Env.sub.cons {E0 E:Env}{t:Nat}{v:AV}(h:lk E t=some v)(hs:E0.sub E):Env.sub ((t,v)::E0) E:=fun M U e=>by
 unfold lk at e;by_cases c:t=M
 .subst c;simp only[beq_self_eq_true,cond_true,Option.some.injEq]at e;subst e;exact h
 .have O:(t==M)=false:=(by simpa using c);simp only[O,cond_false]at e;exact hs M U e
def dI (op:Op):List Operand:=
 match op with
 |.alloc _ | .ready _ | .waits _=>[]
 |.move x | .assign x | .box _ x | .load _ x | .nilCheck x | .unOp _ _ x | .convert _ _ x
 |.makeInterface _ x | .fieldAddr _ x _ | .field _ x _ | .range _ x | .next x _ | .typeAssert x _ _ _ | .extract x _ | .panic x=>[x]
 |.pick c a b=>[c,a,b]
 |.build _ ps | .buildSlice _ _ ps=>ps.toList.map (·.2)
 |.store _ a v | .binOp _ _ a v _ | .makeSlice _ a v | .indexAddr _ a v | .index _ a v | .lookup _ a v _=>[a,v]
 |.makeFunc _ first captured=>first.toList++captured.toList
 |.makeMap _ r=>r.toList
 |.slice _ x l h m=>x::(l.toList++(h.toList++m.toList))
 |.mapUpdate _ m k v | .insert _ m k v=>[m,k,v]
 |.call c | .defer c=>match c.callee with
  |.value f=>f::c.args.toList
  |_=>c.args.toList
 |_=>[]
theorem nK {E:Env}:∀{l:List Operand},E.knowsAll l=true->∀ x ∈ l,E.knows x=true
 |[],_,x,hx=>by cases hx
 |y::l,h,x,hx=>by
  simp only[Env.knowsAll,Bool.and_eq_true]at h;rcases List.mem_cons.1 hx with rfl | hx
  .exact h.1
  .exact nK h.2 x hx
theorem Fe (P:Program)(Gl:qC6)(o:Oper){ρ ρ':Operand->AV}(h:∀ x ∈ dI o.op,ρ x=ρ' x):fF P Gl ρ o=fF P Gl ρ' o:=by
 obtain⟨dst,op,ty,pos,after,guard⟩:=o;cases op with
 |build t ps=>
  have:(ps.toList.map fun (i,x)=>(i,ρ x))=ps.toList.map fun (i,x)=>(i,ρ' x):=List.map_congr_left fun p hp=>by
   show (p.1,ρ p.2)=(p.1,ρ' p.2);rw[h p.2 (List.mem_map.2 ⟨p,hp,rfl⟩)]
  simp only[fF,this]
 |buildSlice t n ps=>
  have:(ps.toList.map fun (i,x)=>(i,ρ x))=ps.toList.map fun (i,x)=>(i,ρ' x):=List.map_congr_left fun p hp=>by
   show (p.1,ρ p.2)=(p.1,ρ' p.2);rw[h p.2 (List.mem_map.2 ⟨p,hp,rfl⟩)]
  simp only[fF,this]
 |makeFunc f a c=>
  have h1:a.toList.map ρ=a.toList.map ρ':=List.map_congr_left fun x M=>h x (by simp only[dI,List.mem_append];exact .inl M);have h2:c.toList.map ρ=c.toList.map ρ':=List.map_congr_left fun x M=>h x (by simp only[dI,List.mem_append];exact .inr M);simp only[fF,h1,h2]
 |makeMap t r=>
  cases r with
  |none=>rfl
  |some x=>
   have h0:=h x (by simp[dI]);simp only[fF];cases P.underlying t with
   |none=>rfl
   |some d=>cases d<;>simp only[h0]
 |slice t x l hh m=>
  have h0:=h x (by simp[dI]);have h1:l.map ρ=l.map ρ':=(by cases l with | none=>rfl | some y=>simp[h y (by simp[dI])]);have h2:hh.map ρ=hh.map ρ':=(by cases hh with | none=>rfl | some y=>simp[h y (by simp[dI])]);have U:m.map ρ=m.map ρ':=(by cases m with | none=>rfl | some y=>simp[h y (by simp[dI])]);simp only[fF,h0,h1,h2,U]
 |call c=>
  have h1:c.args.toList.map ρ=c.args.toList.map ρ':=List.map_congr_left fun x M=>h x (by
   simp only[dI];cases c.callee<;>simp at M ⊢<;>first | exact M | exact .inr M)
  obtain⟨callee,args,O⟩:=c;cases callee with
  |value f=>simp only[fF,h1,h f (by simp[dI])]
  |invoke r m=>rfl
  |builtin b=>simp only[fF,h1]
 |defer c=>
  have h1:c.args.toList.map ρ=c.args.toList.map ρ':=List.map_congr_left fun x M=>h x (by
   simp only[dI];cases c.callee<;>simp at M ⊢<;>first | exact M | exact .inr M)
  obtain⟨callee,args,O⟩:=c;cases callee with
  |value f=>simp only[fF,h1,h f (by simp[dI])]
  |invoke r m=>rfl
  |builtin b=>rfl
 |pick c a b=>simp only[fF,h c (by simp[dI]),h a (by simp[dI]),h b (by simp[dI])]
 |mapUpdate t m k v=>simp only[fF,h m (by simp[dI]),h k (by simp[dI]),h v (by simp[dI])]
 |insert t m k v=>simp only[fF,h m (by simp[dI]),h k (by simp[dI]),h v (by simp[dI])]
 |store t a v=>simp only[fF,h a (by simp[dI]),h v (by simp[dI])]
 |binOp _ _ a v _=>simp only[fF,h a (by simp[dI]),h v (by simp[dI])]
 |makeSlice _ a v=>simp only[fF,h a (by simp[dI]),h v (by simp[dI])]
 |indexAddr _ a v=>simp only[fF,h a (by simp[dI]),h v (by simp[dI])]
 |index _ a v=>simp only[fF,h a (by simp[dI]),h v (by simp[dI])]
 |lookup _ a v _=>simp only[fF,h a (by simp[dI]),h v (by simp[dI])]
 |alloc _=>rfl
 |move x=>simp only[fF,h x (by simp[dI])]
 |assign x=>simp only[fF,h x (by simp[dI])]
 |box _ x=>simp only[fF,h x (by simp[dI])]
 |load _ x=>simp only[fF,h x (by simp[dI])]
 |nilCheck x=>simp only[fF,h x (by simp[dI])]
 |unOp _ _ x=>simp only[fF,h x (by simp[dI])]
 |convert _ _ x=>simp only[fF,h x (by simp[dI])]
 |makeInterface _ x=>simp only[fF,h x (by simp[dI])]
 |fieldAddr _ x _=>simp only[fF,h x (by simp[dI])]
 |field _ x _=>simp only[fF,h x (by simp[dI])]
 |range _ x=>simp only[fF,h x (by simp[dI])]
 |next x _=>simp only[fF,h x (by simp[dI])]
 |typeAssert x _ _ _=>simp only[fF,h x (by simp[dI])]
 |extract x _=>simp only[fF,h x (by simp[dI])]
 |panic x=>simp only[fF,h x (by simp[dI])]
 |_=>rfl
def pU (x:Option aK)(k:aK->Prop):Prop:=
 match x with
 |some v=>k v
 |none=>False
def mV {α:Type}:AM α->Nat->Hp->List Nat->List Nat->List Nat->(α->Nat->Hp->List Nat->List Nat->List Nat->Prop)->Prop
 |.ret a,n,h,rs,ws,ns,k=>k a n h rs ws ns
 |.get o f,n,h,rs,ws,ns,k=>pU (h.get o) fun x=>mV (f x) n h (o::rs) ws ns k
 |.set o x m,n,h,rs,ws,ns,k=>pU (h.get o) fun _=>mV m n (h.put o x) rs (o::ws) ns k
 |.new x f,n,h,rs,ws,ns,k=>mV (f n) (n+1) ((n,x)::h) rs ws (n::ns) k
 |.del o m,n,h,rs,ws,ns,k=>pU (h.get o) fun _=>mV m n (h.del o) rs (o::ws) ns k
 |.fail,_,_,_,_,_,_=>False
def dT (m:Nat)(p:Nat->Prop):Prop:=∀ t,m.testBit t=true->p t
theorem tE {m o:Nat}{p:Nat->Prop}(h:dT m p):dT (m|||bit o) (fun t=>t=o\/p t):=fun t M=>by
 simp only[Nat.testBit_or,Bool.or_eq_true,cY,decide_eq_true_eq]at M;rcases M with M | rfl
 .exact .inr (h t M)
 .exact .inl rfl
theorem dT.imp {m:Nat}{p q:Nat->Prop}(h:dT m p)(k:∀ t,p t->q t):dT m q:=fun t M=>k t (h t M)
theorem cV {p:Nat->Prop}:dT 0 p:=fun t M=>by simp at M
theorem wW {α:Type}(m:AM α):∀{n:Nat}{h:Hp}{rd wr:Nat}{rs ws ns:List Nat}{k:α->Nat->Hp->List Nat->List Nat->List Nat->Prop},mV m n h rs ws ns k->dT rd (· ∈ rs)->dT wr (fun t=>t ∈ ws\/t ∈ ns)->
  ∃ out rs' ws' ns',m.run n h rd wr=some out/\dT out.rd (· ∈ rs')/\dT out.wr (fun t=>t ∈ ws'\/t ∈ ns')/\(∀ n0,n0<=n->(∀ t ∈ ns,n0<=t)->∀ t ∈ ns',n0<=t)/\k out.val out.nx out.hp rs' ws' ns':=by
 induction m with
 |ret a=>intro n h rd wr rs ws ns k M h1 h2;exact⟨_,rs,ws,ns,rfl,h1,h2,fun _ _ U=>U,M⟩
 |get o f ih=>
  intro n h rd wr rs ws ns k M h1 h2;unfold mV pU at M;unfold AM.run;cases hx:h.get o with
  |some x=>rw[hx]at M;exact ih _ M ((tE h1).imp fun t O=>by simpa using O) h2
  |none=>rw[hx]at M;exact M.elim
 |set o x m ih=>
  intro n h rd wr rs ws ns k M h1 h2;unfold mV pU at M;unfold AM.run;cases hx:h.get o with
  |some x=>rw[hx]at M;exact ih M h1 ((tE h2).imp fun t O=>by rcases O with c | c | c<;>simp[c])
  |none=>rw[hx]at M;exact M.elim
 |new x f ih=>
  intro n h rd wr rs ws ns k M h1 h2;obtain⟨out,rs',ws',ns',e,a,b,c,d⟩:=ih n (n:=n+1) (h:=(n,x)::h) (rd:=rd) (wr:=wr|||bit n) M h1 ((tE h2).imp fun t O=>by rcases O with c | c | c<;>simp[c]);exact⟨out,rs',ws',ns',e,a,b,fun n0 U Y=>c n0 om (fun t O=>by
   rcases List.mem_cons.1 O with rfl | O
   .exact U
   .exact Y t O),d⟩
 |del o m ih=>
  intro n h rd wr rs ws ns k M h1 h2;unfold mV pU at M;unfold AM.run;cases hx:h.get o with
  |some x=>rw[hx]at M;exact ih M h1 ((tE h2).imp fun t O=>by rcases O with c | c | c<;>simp[c])
  |none=>rw[hx]at M;exact M.elim
 |fail=>intro n h rd wr rs ws ns k M;exact M.elim
section
variable (P:Program)(Gl:qC6)(Gm:qC7)(Kp:qC8)
structure aG (f:FuncId)(args:List AV)(n:Nat)(h:Hp)(B:Nat->Prop)(Q:aS->Nat->Hp->Prop):Prop where
 ok:aE n h->∃ F out,fT P Gl Gm Kp F f args n h=some out/\Fr n h out/\(∀ t,out.wr.testBit t=true->t<n->B t)/\∀ n',out.nx<=n'->aE n' out.hp->Q out.val n' out.hp
structure fI (l:Nat)(args:List AV)(n:Nat)(h:Hp)(B:Nat->Prop)(Q:aS->Nat->Hp->Prop):Prop where
 ok:aE n h->∃ F out,jV P Gl Gm Kp F l args n h=some out/\Fr n h out/\(∀ t,out.wr.testBit t=true->t<n->B t)/\∀ n',out.nx<=n'->aE n' out.hp->Q out.val n' out.hp
structure Ctx where
 L:Nat
 ds:List mP
 rn:Option Nat
structure Env.at (c:Ctx)(E:Env)(a:bE):Prop extends Env.of c.L E a where
 ds:a.defers=c.ds
 rn:a.rnd=c.rn
abbrev dZ:=mQ->Env->Nat->Hp->Prop
structure bF (x:Ctx)(c:Code)(E:Env)(n:Nat)(h:Hp)(B:Nat->Prop)(k:dZ):Prop where
 ok:∀ a,E.at x a->aE n h->(∀ t,n<=t->B t)->∃ F out E',bD P Gl Gm Kp F c a n h=some out/\Fr n h out/\dT out.wr B/\Env.at x E' out.val.2/\k out.val.1 E' out.nx out.hp
def NV (b:Bool)(X Y:Prop):Prop:=(b=true->X)/\(b=false->Y)
def nF (b:Bool)(X:Prop):Prop:=b=true/\X
def uC (v:AV)(X Y:Prop):Prop:=
 match v with
 |.bool b=>NV b X Y
 |_=>False
def qZ (g:Option (Nat×Bool))(ix:List (Nat×Tmp))(E:Env)(run skip:Prop):Prop:=
 match g with
 |none=>run
 |some (j,want)=>match ix.lookup j with
  |some d=>match lk E d with
   |some (.bool b)=>match want with
    |true=>NV b run skip
    |false=>NV b skip run
   |some .undef=>skip
   |_=>False
  |none=>False
def xD (B:Nat->Prop)(X:Prop):List Nat->Prop
 |[]=>X
 |t::l=>B t/\xD B X l
def uF (l:Env->Nat->Hp->Prop)(k:dZ)(dst:Option Tmp)(E:Env)(B:Nat->Prop)(r:iW)(n:Nat)(h:Hp):Prop:=
 match r with
 |.val v=>l (E.put dst v) n h
 |.skip=>l (E.put dst .undef) n h
 |.enter f args=>aG P Gl Gm Kp f args n h B fun e n h=>match e with
  |.returned v=>l (E.put dst v) n h
  |.panicked v=>k (.pan v) E n h
 |.round o args=>fI P Gl Gm Kp o args n h B fun e n h=>match e with
  |.returned v=>l (E.put dst v) n h
  |.panicked v=>k (.pan v) E n h
 |.pan v=>k (.pan v) E n h
 |_=>False
def kQ (ix:List (Nat×Tmp))(i:Nat):Option Tmp->List (Nat×Tmp)
 |some d=>(i,d)::ix
 |none=>ix
def oL (L:Nat)(B:Nat->Prop)(k:dZ):List Oper->Nat->List (Nat×Tmp)->Env->Nat->Hp->Prop
 |[],_,_,E,n,h=>k .normal E n h
 |o::l,i,ix,E,n,h=>
  qZ o.guard ix E
   (nF (E.knowsAll (dI o.op)&&iX L o.dst) (mV (fF P Gl E.eval o) n h [] [] [] fun r n' h' _ ws _=>xD B (uF P Gl Gm Kp (oL L B k l (i+1) (kQ ix i o.dst)) k o.dst E B r n' h') ws))
   (nF (iX L o.dst) (oL L B k l (i+1) (kQ ix i o.dst) (E.put o.dst .undef) n h))
end
section
variable {P:Program}{Gl:qC6}{Gm:qC7}{Kp:qC8}
theorem aG.mono {f:FuncId}{args:List AV}{n:Nat}{h:Hp}{B B':Nat->Prop}{Q Q':aS->Nat->Hp->Prop}(w:aG P Gl Gm Kp f args n h B Q)(hB:∀ t,t<n->B t->B' t)
  (hQ:∀ e n' h',n<=n'->aE n' h'->(∀ t,t<n->¬B t->h'.get t=h.get t)->Q e n' h'->Q' e n' h'):aG P Gl Gm Kp f args n h B' Q':=by
 refine⟨fun Y=>?_⟩;obtain⟨F,out,e,fr,U,hq⟩:=w.ok Y;refine⟨F,out,e,fr,fun t a b=>hB t b (U t a b),fun n' O M=>hQ _ _ _ (Nat.le_trans fr.le O) M (fun t ht hb=>fr.keep t ?_) (hq n' O M)⟩;cases hc:out.wr.testBit t with
 |false=>rfl
 |true=>exact absurd (U t hc ht) hb
theorem bE.put_ds (a:bE)(d:Option Tmp)(v:AV):(a.put d v).defers=a.defers:=by cases d<;>rfl
theorem bE.put_rn (a:bE)(d:Option Tmp)(v:AV):(a.put d v).rnd=a.rnd:=by cases d<;>rfl
theorem Env.at.put {c:Ctx}{E:Env}{a:bE}(h:E.at c a){d:Option Tmp}(hd:iX c.L d=true)(v:AV):(E.put d v).at c (a.put d v):=
 ⟨h.toof.put hd v,(bE.put_ds a d v).trans h.ds,(bE.put_rn a d v).trans h.rn⟩
def Ph (ops:Array Oper)(ix:List (Nat×Tmp)):Prop:=∀ j d,ix.lookup j=some d->(ops[j]?).bind (·.dst)=some d
theorem Ph.put {ops:Array Oper}{ix:List (Nat×Tmp)}(h:Ph ops ix){i:Nat}{o:Oper}(ho:ops[i]?=some o):Ph ops (kQ ix i o.dst):=by
 unfold kQ;cases hd:o.dst with
 |none=>exact h
 |some d=>
  intro j M e;simp only[List.lookup]at e;split at e
  .rename_i e';have:j=i:=(by simpa using e');subst this;cases e;rw[ho];exact hd
  .exact h j M e
theorem rA {B:Nat->Prop}{X:Prop}:∀{l:List Nat},xD B X l->(∀ t ∈ l,B t)/\X
 |[],h=>⟨fun t M=>(by cases M),h⟩
 |u::l,h=>by
  obtain⟨a,b⟩:=rA h.2;refine⟨fun t M=>?_,b⟩;rcases List.mem_cons.1 M with rfl | M
  .exact h.1
  .exact a t M
theorem xS {ops:Array Oper}{ix:List (Nat×Tmp)}(hix:Ph ops ix){c:Ctx}{E:Env}{a:bE}(hE:E.at c a){o:Oper}{run skip:Prop}(h:qZ o.guard ix E run skip) :
  cI ops a o=true/\((dY ops a o=true/\run)\/(dY ops a o=false/\skip)):=by
 unfold qZ at h;unfold cI dY;cases hg:o.guard with
 |none=>rw[hg]at h;exact⟨rfl,.inl ⟨rfl,h⟩⟩
 |some g=>
  obtain⟨j,M⟩:=g;rw[hg]at h;simp only at h ⊢;cases hj:ix.lookup j with
  |none=>rw[hj]at h;exact h.elim
  |some d=>
   rw[hj]at h;simp only at h;unfold xC;rw[hix j d hj];simp only;cases hv:lk E d with
   |none=>rw[hv]at h;exact h.elim
   |some v=>
    rw[hv]at h;rw[hE.val d v hv];cases v with
    |bool b=>
     refine⟨rfl,?_⟩;cases M<;>cases b<;>simp[NV]at h ⊢<;>exact h
    |undef=>exact⟨rfl,.inr ⟨rfl,h⟩⟩
    |_=>exact h.elim
theorem Wb {o:Oper}{a:bE}{n:Nat}{h:Hp}{m:Out iW}(e:C.am (fF P Gl a.eval o) n h=some m){F:Nat}{f:FuncId}{args:List AV}(hm:m.val=.enter f args){out:Out aS}
  (e2:fT P Gl Gm Kp F f args m.nx m.hp=some out) :
  ∃ p,jU P Gl Gm Kp (F+1) o a n h=some p/\p=m.seq (out.seq {val:=(match out.val with | .returned v=>.put v | .panicked v=>.pan v),nx:=out.nx,hi:=out.nx,hp:=out.hp,rd:=0,wr:=0}):=by
 refine⟨_,?_,rfl⟩;unfold jU;refine dJ e ?_;rw[hm];refine dJ e2 ?_;cases out.val<;>rfl
theorem GL {o:Oper}{a:bE}{n:Nat}{h:Hp}{m:Out iW}(e:C.am (fF P Gl a.eval o) n h=some m){F:Nat}{f:Nat}{args:List AV}(hm:m.val=.round f args){out:Out aS}
  (e2:jV P Gl Gm Kp F f args m.nx m.hp=some out) :
  ∃ p,jU P Gl Gm Kp (F+1) o a n h=some p/\p=m.seq (out.seq {val:=(match out.val with | .returned v=>.put v | .panicked v=>.pan v),nx:=out.nx,hi:=out.nx,hp:=out.hp,rd:=0,wr:=0}):=by
 refine⟨_,?_,rfl⟩;unfold jU;refine dJ e ?_;rw[hm];refine dJ e2 ?_;cases out.val<;>rfl
theorem GM {o:Oper}{a:bE}{n:Nat}{h:Hp}{m:Out iW}(e:C.am (fF P Gl a.eval o) n h=some m){r:rR}
  (hm:(m.val=.skip/\r=.put .undef)\/(∃ v,m.val=.val v/\r=.put v)\/(∃ v,m.val=.pan v/\r=.pan v)) :
  jU P Gl Gm Kp 1 o a n h=some (m.seq {val:=r,nx:=m.nx,hi:=m.nx,hp:=m.hp,rd:=0,wr:=0}):=by
 unfold jU;refine dJ e ?_;rcases hm with⟨h1,rfl⟩ | ⟨v,h1,rfl⟩ | ⟨v,h1,rfl⟩<;>rw[h1]<;>rfl
theorem CH {o:Oper}{E:Env}{a:bE}{c:Ctx}(hE:E.at c a)(hk:E.knowsAll (dI o.op)=true){n:Nat}{h:Hp}(hl:aE n h){B:Nat->Prop}(hB:∀ t,n<=t->B t){l:Env->Nat->Hp->Prop}{k:dZ}
  (hv:mV (fF P Gl E.eval o) n h [] [] [] fun r n' h' _ ws _=>xD B (uF P Gl Gm Kp l k o.dst E B r n' h') ws) :
  ∃ F out,jU P Gl Gm Kp F o a n h=some out/\Fr n h out/\dT out.wr B/\
   ((∃ v,out.val=.put v/\l (E.put o.dst v) out.nx out.hp)\/(∃ v,out.val=.pan v/\k (.pan v) E out.nx out.hp)):=by
 have hc:fF P Gl E.eval o=fF P Gl a.eval o:=Fe P Gl o fun x hx=>hE.toof.eval (nK hk x hx);rw[hc]at hv;obtain⟨m,rs,ws,_,e,h1,h2,h3,O⟩:=wW _ hv (rd:=0) (wr:=0) cV cV;obtain⟨hw,O⟩:=rA O;have fm:Fr n h m:=(qCZ _ _ _ _ _ _ e hl (fun t M=>by simp at M)).2;have a2:dT m.wr B:=fun t M=>by
  rcases h2 t M with h4 | h4
  .exact hw t h4
  .exact hB t (h3 n (Nat.le_refl _) (fun t M=>by cases M) t h4)
 have plain:∀ r:rR,(m.val=.skip/\r=.put .undef)\/(∃ v,m.val=.val v/\r=.put v)\/(∃ v,m.val=.pan v/\r=.pan v)->
   ∃ out,jU P Gl Gm Kp 1 o a n h=some out/\Fr n h out/\dT out.wr B/\out.val=r/\out.nx=m.nx/\out.hp=m.hp:=fun r hm=>
  ⟨_,GM e hm,fm.seq (Fr.ret r fm.lt),fun t M=>a2 t (by simpa [Out.seq]using M),rfl,rfl,rfl⟩
 unfold uF at O;cases hmv:m.val with
 |val v=>
  rw[hmv]at O;obtain⟨out,U,Y,e3,e4,e5,e6⟩:=plain (.put v) (.inr (.inl ⟨v,hmv,rfl⟩));exact⟨1,out,U,Y,e3,.inl ⟨v,e4,by rw[e5,e6];exact O⟩⟩
 |skip=>
  rw[hmv]at O;obtain⟨out,U,Y,e3,e4,e5,e6⟩:=plain (.put .undef) (.inl ⟨hmv,rfl⟩);exact⟨1,out,U,Y,e3,.inl ⟨.undef,e4,by rw[e5,e6];exact O⟩⟩
 |pan v=>
  rw[hmv]at O;obtain⟨out,U,Y,e3,e4,e5,e6⟩:=plain (.pan v) (.inr (.inr ⟨v,hmv,rfl⟩));exact⟨1,out,U,Y,e3,.inr ⟨v,e4,by rw[e5,e6];exact O⟩⟩
 |enter f args=>
  rw[hmv]at O;obtain⟨F,out,U,f1,w1,q1⟩:=aG.ok O fm.lt;obtain⟨p,Y,rfl⟩:=Wb e hmv U;have q2:=q1 out.nx (Nat.le_refl _) f1.lt;refine⟨F+1,_,Y,fm.seq (f1.seq (Fr.ret _ f1.lt)),fun t M=>?_,?_⟩
  .simp only[Out.seq,Nat.testBit_or,Bool.or_eq_true,Nat.zero_testBit,Bool.false_eq_true,or_false]at M;rcases M with M | M
   .exact a2 t M
   .by_cases a1:t<m.nx
    .exact w1 t M a1
    .exact hB t (by have:=fm.le;omega)
  .cases hov:out.val with
   |returned v=>rw[hov]at q2;exact .inl ⟨v,rfl,q2⟩
   |panicked v=>rw[hov]at q2;exact .inr ⟨v,rfl,q2⟩
 |round f args=>
  rw[hmv]at O;obtain⟨F,out,U,f1,w1,q1⟩:=fI.ok O fm.lt;obtain⟨p,Y,rfl⟩:=GL e hmv U;have q2:=q1 out.nx (Nat.le_refl _) f1.lt;refine⟨F+1,_,Y,fm.seq (f1.seq (Fr.ret _ f1.lt)),fun t M=>?_,?_⟩
  .simp only[Out.seq,Nat.testBit_or,Bool.or_eq_true,Nat.zero_testBit,Bool.false_eq_true,or_false]at M;rcases M with M | M
   .exact a2 t M
   .by_cases a1:t<m.nx
    .exact w1 t M a1
    .exact hB t (by have:=fm.le;omega)
  .cases hov:out.val with
   |returned v=>rw[hov]at q2;exact .inl ⟨v,rfl,q2⟩
   |panicked v=>rw[hov]at q2;exact .inr ⟨v,rfl,q2⟩
 |dfr d=>rw[hmv]at O;exact O.elim
 |rcv=>rw[hmv]at O;exact O.elim
theorem pP {f k:Nat}(hk:f<=k)(o:Oper)(a:bE):kA (jU P Gl Gm Kp f o a) (jU P Gl Gm Kp k o a):=by
 induction hk with
 |refl=>exact kA.refl _
 |step _ ih=>exact ih.trans ((gC _).op o a)
theorem tQ {c:Ctx}{B:Nat->Prop}{k:dZ}{ops:Array Oper}:∀(l:List Oper) (i:Nat) (ix:List (Nat×Tmp)) (E:Env) (a:bE) (n:Nat) (h:Hp),(∀ j,ops[i+j]?=l[j]?)->Ph ops ix->
  E.at c a->aE n h->(∀ t,n<=t->B t)->oL P Gl Gm Kp c.L B k l i ix E n h->
  ∃ F out E',eS P Gl Gm Kp F ops l a n h=some out/\Fr n h out/\dT out.wr B/\Env.at c E' out.val.2/\k out.val.1 E' out.nx out.hp
 |[],i,ix,E,a,n,h,hops,hix,hE,hl,hB,hv=>by
  unfold oL at hv;exact⟨0,{val:=(.normal,a),nx:=n,hi:=n,hp:=h,rd:=0,wr:=0},E,by unfold eS;rfl,Fr.ret _ hl,cV,hE,hv⟩
 |o::l,i,ix,E,a,n,h,hops,hix,hE,hl,hB,hv=>by
  have O:∀ j,ops[i+1+j]?=l[j]?:=fun j=>(by have:=hops (j+1);rw[show i+(j+1)=i+1+j by omega]at this;simpa using this);have ho:ops[i]?=some o:=(by simpa using hops 0);have Y:=hix.put ho;unfold oL at hv;obtain⟨hg,hr | hr⟩:=xS hix hE hv
  .obtain⟨hw,M,hr⟩:=hr;rw[Bool.and_eq_true]at M;obtain⟨F1,out,e1,f1,w1,hq⟩:=CH hE M.1 hl hB hr;rcases hq with⟨v,hov,hq⟩ | ⟨v,hov,hq⟩
   .obtain⟨F2,p,E',e2,f2,w2,a1,a2⟩:=tQ l (i+1) _ _ _ out.nx out.hp O Y (hE.put M.2 v) f1.lt (fun t U=>hB t (Nat.le_trans f1.le U)) hq;have a3:=pP (Nat.le_max_left F1 F2) o a _ _ _ e1;have a4:=GN (Nat.le_max_right F1 F2) ops l _ _ _ _ e2;refine⟨max F1 F2+1,out.seq p,E',?_,f1.seq f2,fun t U=>?_,a1,a2⟩
    .unfold eS;simp only[hg,hw,cond_true];refine dJ a3 ?_;rw[hov];exact a4
    .simp only[Out.seq,Nat.testBit_or,Bool.or_eq_true]at U;rcases U with U | U
     .exact w1 t U
     .exact w2 t U
   .refine⟨F1+1,out.seq {val:=(.pan v,a),nx:=out.nx,hi:=out.nx,hp:=out.hp,rd:=0,wr:=0},E,?_,f1.seq (Fr.ret _ f1.lt),fun t U=>w1 t (by simpa [Out.seq]using U),hE,hq⟩;unfold eS;simp only[hg,hw,cond_true];refine dJ e1 ?_;rw[hov]
    rfl
  .obtain⟨hw,M,hr⟩:=hr;obtain⟨F2,p,E',e2,f2,w2,a1,a2⟩:=tQ l (i+1) _ _ _ n h O Y (hE.put M .undef) hl hB hr;refine⟨F2+1,p,E',?_,f2,w2,a1,a2⟩;unfold eS;simp only[hg,hw,cond_true,cond_false];exact e2
variable {x:Ctx}{E:Env}{n:Nat}{h:Hp}{B:Nat->Prop}{k:dZ}
def rT (w:Env->Nat->Hp->Prop)(k:dZ):dZ:=fun ex E n h=>match ex with
 |.normal=>w E n h
 |e=>k e E n h
def nU (id:Nat)(k:dZ):dZ:=fun ex E n h=>match ex with
 |.exit id'=>bif id'==id then k .normal E n h else k (.exit id') E n h
 |e=>k e E n h
def uU (k:dZ):dZ:=fun ex E n h=>match ex with
 |.goto _=>False
 |e=>k e E n h
def wD (w:Env->Nat->Hp->Prop)(k:dZ):dZ:=fun ex E n h=>match ex with
 |.normal=>w E n h
 |e=>k e E n h
theorem bF.region {id:Nat}{ops:Array Oper}(w:oL P Gl Gm Kp x.L B k ops.toList 0 [] E n h):bF P Gl Gm Kp x (.region id ops false) E n h B k:=by
 refine⟨fun a hE O M=>?_⟩;obtain⟨F,out,E',e,r⟩:=tQ (ops:=ops) ops.toList 0 [] E a n h (fun j=>by simp) (fun j d e=>by cases e) hE O M w;exact⟨F+1,out,E',by unfold bD;exact e,r⟩
theorem bF.skip (w:k .normal E n h):bF P Gl Gm Kp x .skip E n h B k:=⟨fun a hE M _=>⟨1,_,E,by unfold bD;rfl,Fr.ret _ M,cV,hE,w⟩⟩
theorem bF.label {l:Nat}(w:k .normal E n h):bF P Gl Gm Kp x (.label l) E n h B k:=⟨fun a hE M _=>⟨1,_,E,by unfold bD;rfl,Fr.ret _ M,cV,hE,w⟩⟩
theorem bF.ret (w:k .ret E n h):bF P Gl Gm Kp x .ret E n h B k:=⟨fun a hE M _=>⟨1,_,E,by unfold bD;rfl,Fr.ret _ M,cV,hE,w⟩⟩
theorem bF.exit {id:Nat}(w:k (.exit id) E n h):bF P Gl Gm Kp x (.exit id) E n h B k:=⟨fun a hE M _=>⟨1,_,E,by unfold bD;rfl,Fr.ret _ M,cV,hE,w⟩⟩
theorem bF.goto {id:Nat}(w:k (.goto id) E n h):bF P Gl Gm Kp x (.goto id) E n h B k:=⟨fun a hE M _=>⟨1,_,E,by unfold bD;rfl,Fr.ret _ M,cV,hE,w⟩⟩
theorem bF.seq {c d:Code}(w:bF P Gl Gm Kp x c E n h B (rT (fun E n' h=>bF P Gl Gm Kp x d E n' h B k) k)):bF P Gl Gm Kp x (.seq c d) E n h B k:=by
 refine⟨fun a hE hl hB=>?_⟩;obtain⟨Y,o,E1,e1,f1,w1,U,k1⟩:=w.ok a hE hl hB;obtain⟨⟨ex,O⟩,nx,hi,hp,rd,wr⟩:=o;have other:∀(hk:k ex E1 nx hp) (hx:ex≠.normal),∃ F out E',bD P Gl Gm Kp F (.seq c d) a n h=some out/\Fr n h out/\dT out.wr B/\Env.at x E' out.val.2/\k out.val.1 E' out.nx out.hp:=fun hk hx=>by
  refine⟨Y+1,Out.seq {val:=(ex,O),nx,hi,hp,rd,wr} {val:=(ex,O),nx,hi:=nx,hp,rd:=0,wr:=0},E1,?_,f1.seq (Fr.ret _ f1.lt),fun t M=>w1 t (by simpa [Out.seq]using M),U,hk⟩;unfold bD;refine dJ e1 ?_;cases ex<;>first | exact absurd rfl hx | rfl
 cases ex with
 |normal=>
  obtain⟨F2,p,E2,e2,f2,w2,a2,k2⟩:=bF.ok k1 O U f1.lt (fun t M=>hB t (Nat.le_trans f1.le M));refine⟨max Y F2+1,Out.seq {val:=(mQ.normal,O),nx,hi,hp,rd,wr} p,E2,?_,f1.seq f2,fun t M=>?_,a2,k2⟩
  .unfold bD;refine dJ (pN (Nat.le_max_left Y F2) c a _ _ _ e1) ?_;exact pN (Nat.le_max_right Y F2) d O _ _ _ e2
  .simp only[Out.seq,Nat.testBit_or,Bool.or_eq_true]at M;rcases M with M | M
   .exact w1 t M
   .exact w2 t M
 |_=>exact other k1 sm
theorem bF.cond {c:Operand}{d e:Code}(hc:E.knows c=true)(w:uC (E.eval c) (bF P Gl Gm Kp x d E n h B k) (bF P Gl Gm Kp x e E n h B k)):bF P Gl Gm Kp x (.cond c d e) E n h B k:=by
 refine⟨fun a hE U O=>?_⟩;rw[hE.toof.eval hc]at w;unfold uC at w;split at w
 .rename_i b hb;cases b with
  |true=>
   obtain⟨F,out,E',M,r⟩:=(w.1 rfl).ok a hE U O;exact⟨F+1,out,E',by unfold bD;simp only[hb];exact M,r⟩
  |false=>
   obtain⟨F,out,E',M,r⟩:=(w.2 rfl).ok a hE U O;exact⟨F+1,out,E',by unfold bD;simp only[hb];exact M,r⟩
 .exact w.elim
theorem bF.block {id:Nat}{c:Code}(w:bF P Gl Gm Kp x c E n h B (nU id k)):bF P Gl Gm Kp x (.block id c) E n h B k:=by
 refine⟨fun a hE hl hB=>?_⟩;obtain⟨F1,o,Y,e1,f1,w1,U,k1⟩:=w.ok a hE hl hB;obtain⟨⟨ex,O⟩,nx,hi,hp,rd,wr⟩:=o;have go:∀ M,k M Y nx hp->(∀ F,bD P Gl Gm Kp F c a n h=some {val:=(ex,O),nx,hi,hp,rd,wr}->bD P Gl Gm Kp (F+1) (.block id c) a n h=some (Out.seq {val:=(ex,O),nx,hi,hp,rd,wr} {val:=(M,O),nx,hi:=nx,hp,rd:=0,wr:=0}))->
   ∃ F out E',bD P Gl Gm Kp F (.block id c) a n h=some out/\Fr n h out/\dT out.wr B/\Env.at x E' out.val.2/\k out.val.1 E' out.nx out.hp:=fun M hk he=>
  ⟨F1+1,_,Y,he F1 e1,f1.seq (Fr.ret _ f1.lt),fun t ht=>w1 t (by simpa [Out.seq]using ht),U,hk⟩
 cases ex with
 |exit id'=>
  simp only[nU]at k1;cases hid:id'==id with
  |true=>
   rw[hid]at k1;refine go .normal k1 fun F e=>?_;unfold bD;refine dJ e ?_;simp only[hid,cond_true];rfl
  |false=>
   rw[hid]at k1;refine go (.exit id') k1 fun F e=>?_;unfold bD;refine dJ e ?_;simp only[hid,cond_false];rfl
 |_=>exact go _ k1 fun F e=>by unfold bD;exact dJ e rfl
theorem bF.scope {c:Code}(w:bF P Gl Gm Kp x c E n h B (uU k)):bF P Gl Gm Kp x (.scope c) E n h B k:=by
 refine⟨fun a hE hl hB=>?_⟩;obtain⟨U,o,O,Y,f1,w1,M,k1⟩:=w.ok a hE hl hB;obtain⟨⟨ex,_⟩,nx,hi,hp,rd,wr⟩:=o;cases ex with
 |goto l=>exact False.elim k1
 |_=>exact⟨U+1,_,O,by unfold bD;exact dJ Y rfl,f1.seq (Fr.ret _ f1.lt),fun t ht=>w1 t (by simpa [Out.seq]using ht),M,k1⟩
theorem bF.loop {c:Code}(w:bF P Gl Gm Kp x c E n h B (wD (fun E n' h=>bF P Gl Gm Kp x (.loop c) E n' h B k) k)):bF P Gl Gm Kp x (.loop c) E n h B k:=by
 refine⟨fun a hE hl hB=>?_⟩;obtain⟨Y,o,E1,e1,f1,w1,U,k1⟩:=w.ok a hE hl hB;obtain⟨⟨ex,O⟩,nx,hi,hp,rd,wr⟩:=o;have other:∀(hk:k ex E1 nx hp) (hx:ex≠.normal),∃ F out E',bD P Gl Gm Kp F (.loop c) a n h=some out/\Fr n h out/\dT out.wr B/\Env.at x E' out.val.2/\k out.val.1 E' out.nx out.hp:=fun hk hx=>by
  refine⟨Y+1,Out.seq {val:=(ex,O),nx,hi,hp,rd,wr} {val:=(ex,O),nx,hi:=nx,hp,rd:=0,wr:=0},E1,?_,f1.seq (Fr.ret _ f1.lt),fun t M=>w1 t (by simpa [Out.seq]using M),U,hk⟩;unfold bD;refine dJ e1 ?_;cases ex<;>first | exact absurd rfl hx | rfl
 cases ex with
 |normal=>
  obtain⟨F2,p,E2,e2,f2,w2,a2,k2⟩:=bF.ok k1 O U f1.lt (fun t M=>hB t (Nat.le_trans f1.le M));refine⟨max Y F2+1,Out.seq {val:=(mQ.normal,O),nx,hi,hp,rd,wr} p,E2,?_,f1.seq f2,fun t M=>?_,a2,k2⟩
  .unfold bD;refine dJ (pN (Nat.le_max_left Y F2) c a _ _ _ e1) ?_;exact pN (Nat.le_max_right Y F2) (.loop c) O _ _ _ e2
  .simp only[Out.seq,Nat.testBit_or,Bool.or_eq_true]at M;rcases M with M | M
   .exact w1 t M
   .exact w2 t M
 |_=>exact other k1 sm
theorem bF.less {c:Code}{E0:Env}(hs:E0.sub E)(w:bF P Gl Gm Kp x c E0 n h B k):bF P Gl Gm Kp x c E n h B k:=
 ⟨fun a hE=>w.ok a ⟨hE.toof.sub hs,hE.ds,hE.rn⟩⟩
theorem bF.imp {c:Code}{k':dZ}(w:bF P Gl Gm Kp x c E n h B k)(hk:∀ ex E' n' h',n<=n'->aE n' h'->(∀ t,¬B t->h'.get t=h.get t)->k ex E' n' h'->k' ex E' n' h'):bF P Gl Gm Kp x c E n h B k':=by
 refine⟨fun a hE hl hB=>?_⟩;obtain⟨U,o,O,Y,f1,w1,M,k1⟩:=w.ok a hE hl hB;refine⟨U,o,O,Y,f1,w1,M,hk _ _ _ _ f1.le f1.lt (fun t ht=>f1.keep t ?_) k1⟩;cases hc:o.wr.testBit t with
 |false=>rfl
 |true=>exact absurd (w1 t hc) ht
theorem bF.lt {c:Code}(w:aE n h->(∀ t,n<=t->B t)->bF P Gl Gm Kp x c E n h B k):bF P Gl Gm Kp x c E n h B k:=⟨fun a hE O M=>(w O M).ok a hE O M⟩
end
def eE:AV->Bool
 |.sl _ _ _ | .agg _=>false
 |_=>true
def jG:List AV->Bool
 |[]=>true
 |x::l=>eE x&&jG l
def lG:AV->Bool
 |.agg cs=>jG cs
 |x=>eE x
theorem Bf {x:AV}(hx:eE x=true)(F n:Nat)(h:Hp):qH (F+1) x n h=some {val:=x,nx:=n,hi:=n,hp:=h,rd:=0,wr:=0}:=by
 cases x<;>first | (cases hx;done) | (unfold qH;rfl)
theorem Fv:∀{cs:List AV} (_:jG cs=true) (F n:Nat) (h:Hp) (_:cs.length<F),nI F cs n h=some {val:=cs,nx:=n,hi:=n,hp:=h,rd:=0,wr:=0}
 |[],_,F,n,h,hF=>by
  cases F with
  |zero=>omega
  |succ F=>unfold nI;rfl
 |x::cs,hx,F,n,h,hF=>by
  simp only[jG,Bool.and_eq_true]at hx;cases F with
  |zero=>omega
  |succ F=>
   simp only[List.length_cons]at hF;unfold nI;cases F with
   |zero=>omega
   |succ F=>
    have h1:=Bf hx.1 F n h;have h2:=Fv hx.2 (F+1) n h om;refine(dJ h1 (dJ h2 rfl)).trans ?_;simp[Out.seq]
theorem Qw {x:AV}(hx:lG x=true):∃ F0,∀ F,F0<=F->∀ n h,qH F x n h=some {val:=x,nx:=n,hi:=n,hp:=h,rd:=0,wr:=0}:=by
 cases x with
 |agg cs=>
  refine⟨cs.length+2,fun F M n h=>?_⟩;obtain⟨F,rfl⟩:∃ k,F=k+1:=⟨F-1,by omega⟩;unfold qH;refine(dJ (Fv hx F n h om) rfl).trans ?_;simp[Out.seq]
 |_=>
  refine⟨1,fun F M n h=>?_⟩;obtain⟨F,rfl⟩:∃ k,F=k+1:=⟨F-1,by omega⟩;exact Bf (by simpa only[lG]using hx) F n h
theorem yU:∀{xs:List AV} (_:∀ x ∈ xs,lG x=true),∃ F0,∀ F,F0<=F->∀ n h,nI F xs n h=some {val:=xs,nx:=n,hi:=n,hp:=h,rd:=0,wr:=0}
 |[],_=>⟨1,fun F U n h=>by
  obtain⟨F,rfl⟩:∃ k,F=k+1:=⟨F-1,by omega⟩;unfold nI;rfl⟩
 |x::xs,hx=>by
  obtain⟨M,h1⟩:=Qw (hx x List.mem_cons_self);obtain⟨O,h2⟩:=yU (xs:=xs) fun y Y=>hx y (List.mem_cons_of_mem _ Y);refine⟨max M O+1,fun F U n h=>?_⟩;obtain⟨F,rfl⟩:∃ k,F=k+1:=⟨F-1,by omega⟩;unfold nI;refine(dJ (h1 F om n h) (dJ (h2 F om n h) rfl)).trans ?_;simp[Out.seq]
abbrev iR:=AV->Hp->List Nat->Prop
def GE (x:Option aK)(k:Nat->List AV->Prop):Prop:=
 match x with
 |some (.arr es xs)=>k es xs
 |_=>False
def wX (o off len:Nat)(h:Hp)(ws:List Nat)(k:iR):Prop:=
 GE (h.get o) fun es xs=>(off+len<=xs.length/\∀ x ∈ (xs.drop off).take len,lG x=true)/\k (.vec ((xs.drop off).take len) es false) (h.del o) (o::ws)
def fL (v:AV)(h:Hp)(ws:List Nat)(k:iR):Prop:=
 match v with
 |.sl o off len=>wX o off len h ws k
 |v=>nF (eE v) (k v h ws)
def tA:List AV->Hp->List Nat->(List AV->Hp->List Nat->Prop)->Prop
 |[],h,ws,k=>k [] h ws
 |x::xs,h,ws,k=>fL x h ws fun y h ws=>tA xs h ws fun ys h ws=>k (y::ys) h ws
def iQ (v:AV)(h:Hp)(ws:List Nat)(k:iR):Prop:=
 match v with
 |.agg cs=>tA cs h ws fun ds h ws=>k (.agg ds) h ws
 |v=>fL v h ws k
def lP (keep:Bool)(v:AV)(h:Hp)(ws:List Nat)(k:iR):Prop:=
 match keep,v with
 |true,.sl o off len=>k (.sl o off len) h ws
 |_,v=>iQ v h ws k
def kU (keep:Bool):List AV->Hp->List Nat->(List AV->Hp->List Nat->Prop)->Prop
 |[],h,ws,k=>k [] h ws
 |x::xs,h,ws,k=>lP keep x h ws fun y h ws=>kU keep xs h ws fun ys h ws=>k (y::ys) h ws
def gH {α:Type}(x:Nat->C α)(n:Nat)(h:Hp)(ws:List Nat)(k:α->Hp->List Nat->Prop):Prop:=
 ∃ F0 out ws',(∀ F,F0<=F->x F n h=some out)/\out.nx=n/\Fr n h out/\dT out.wr (fun t=>t ∈ ws')/\(∀ t ∈ ws,t ∈ ws')/\k out.val out.hp ws'
theorem gH.ret {α:Type}{x:Nat->C α}{n:Nat}{h:Hp}{ws:List Nat}{k:α->Hp->List Nat->Prop}{a:α}(hl:aE n h)(F0:Nat)(e:∀ F,F0<=F->x F n h=some {val:=a,nx:=n,hi:=n,hp:=h,rd:=0,wr:=0})(hk:k a h ws):gH x n h ws k:=
 ⟨F0,_,ws,e,rfl,Fr.ret a hl,cV,fun _ M=>M,hk⟩
theorem gH.bind {α β:Type}{x:Nat->C α}{y:Nat->α->C β}{z:Nat->C β}{n:Nat}{h:Hp}{ws:List Nat}{k:α->Hp->List Nat->Prop}{q:β->Hp->List Nat->Prop}(hz:∀ F,z (F+1)=C.bind (x F) (y F))(hx:gH x n h ws k)
  (hy:∀ a h' ws',aE n h'->k a h' ws'->gH (fun F=>y F a) n h' ws' q):gH z n h ws q:=by
 obtain⟨F1,o,O,e1,n1,f1,b1,m1,k1⟩:=hx;obtain⟨F2,p,U,e2,n2,f2,b2,Y,k2⟩:=hy o.val o.hp O (n1 ▸ f1.lt) k1;refine⟨max F1 F2+1,o.seq p,U,fun F _=>?_,n2,f1.seq (by rw[n1];exact f2),fun t M=>?_,fun t M=>Y t (m1 t M),k2⟩
 .obtain⟨F,rfl⟩:∃ k,F=k+1:=⟨F-1,by omega⟩;rw[hz];exact dJ (e1 F om) (by rw[n1];exact e2 F om)
 .simp only[Out.seq,Nat.testBit_or,Bool.or_eq_true]at M;rcases M with M | M
  .exact Y t (b1 t M)
  .exact b2 t M
theorem Di {v:AV}{n:Nat}{h:Hp}{ws:List Nat}{k:iR}(hl:aE n h)(w:fL v h ws k):gH (fun F=>qH F v) n h ws k:=by
 unfold fL at w;split at w
 .rename_i o off len;unfold wX GE at w;split at w
  .rename_i es xs hx;obtain⟨⟨h1,h2⟩,O⟩:=w;obtain⟨U,e⟩:=yU h2;have a1:=hl.lt_of_get hx;refine⟨U+1,{val:=.vec ((xs.drop off).take len) es false,nx:=n,hi:=n,hp:=h.del o,rd:=0|||bit o,wr:=0|||bit o},o::ws,fun F Y=>?_,?_,?_,?_,fun t M=>List.mem_cons_of_mem _ M,O⟩
   .obtain⟨F,rfl⟩:∃ k,F=k+1:=⟨F-1,by omega⟩;unfold qH;simp only[hx,Nat.ble_eq_true_of_le h1,cond_true,e F om]
   .rfl
   .refine⟨Nat.le_refl _,Nat.le_refl _,fun t M=>?_,fun t M=>?_,fun t M=>?_⟩
    .rw[qCe];split
     .rfl
     .exact hl t M
    .rw[qCe,if_neg];rintro rfl;simp[cY]at M
    .simp only[Nat.testBit_or,cY,Bool.or_eq_true,decide_eq_true_eq,Nat.zero_testBit,Bool.false_eq_true,false_or,or_self]at M;show t<n;omega
   .intro t M;simp only[Nat.testBit_or,cY,Bool.or_eq_true,decide_eq_true_eq,Nat.zero_testBit,Bool.false_eq_true,false_or]at M;simp[M]
  .exact w.elim
 .obtain⟨h1,O⟩:=w;exact gH.ret hl 1 (fun F Y=>by
   obtain⟨F,rfl⟩:∃ k,F=k+1:=⟨F-1,by omega⟩;exact Bf h1 F n h) O
theorem gH.map {α β:Type}{x:Nat->C α}{g:α->β}{n:Nat}{h:Hp}{ws:List Nat}{k:α->Hp->List Nat->Prop}{q:β->Hp->List Nat->Prop}(hx:gH x n h ws k)(hq:∀ a h' ws',k a h' ws'->q (g a) h' ws') :
  gH (fun F=>C.bind (x F) fun a=>C.ret (g a)) n h ws q:=by
 obtain⟨O,o,M,Y,n1,f1,U,m1,k1⟩:=hx;exact⟨O,o.seq {val:=g o.val,nx:=o.nx,hi:=o.nx,hp:=o.hp,rd:=0,wr:=0},M,fun F hF=>dJ (Y F hF) rfl,n1,f1.seq (Fr.ret _ f1.lt),fun t ht=>U t (by simpa [Out.seq]using ht),m1,hq _ _ _ k1⟩
theorem Dj:∀(xs:List AV) {n:Nat}{h:Hp}{ws:List Nat}{k:List AV->Hp->List Nat->Prop} (_:aE n h) (_:tA xs h ws k),gH (fun F=>nI F xs) n h ws k
 |[],n,h,ws,k,hl,w=>gH.ret hl 1 (fun F _=>by
   obtain⟨F,rfl⟩:∃ k,F=k+1:=⟨F-1,by omega⟩;show nI (F+1) [] n h=_;unfold nI;rfl) w
 |x::xs,n,h,ws,k,hl,w=>
  gH.bind (x:=fun F=>qH F x) (y:=fun F y=>C.bind (nI F xs) fun ys=>C.ret (y::ys)) (fun F=>by show nI (F+1) (x::xs)=_;conv=>lhs;unfold nI) (Di hl w) fun y h' _ M w'=>
   gH.map (Dj xs M w') fun _ _ _ h=>h
theorem Gu {v:AV}{n:Nat}{h:Hp}{ws:List Nat}{k:iR}(hl:aE n h)(w:iQ v h ws k):gH (fun F=>qH F v) n h ws k:=by
 unfold iQ at w;split at w
 .rename_i cs;have:=gH.map (g:=AV.agg) (Dj cs hl w) fun _ _ _ h=>h;obtain⟨O,o,M,Y,n1,f1,U,m1,k1⟩:=this;refine⟨O+1,o,M,fun F hF=>?_,n1,f1,U,m1,k1⟩;obtain⟨F,rfl⟩:∃ k,F=k+1:=⟨F-1,by omega⟩;have:=Y F om;show qH (F+1) (.agg cs) n h=some o;unfold qH;exact this
 .exact Di hl w
theorem Jk {keep:Bool}{v:AV}{n:Nat}{h:Hp}{ws:List Nat}{k:iR}(hl:aE n h)(w:lP keep v h ws k):gH (fun F=>xR keep F v) n h ws k:=by
 cases keep with
 |false=>exact Gu (v:=v) hl (by cases v<;>exact w)
 |true=>
  cases v with
  |sl o off len=>exact gH.ret hl 0 (fun F _=>rfl) w
  |_=>exact Gu hl w
theorem uD {keep:Bool}:∀(xs:List AV) {n:Nat}{h:Hp}{ws:List Nat}{k:List AV->Hp->List Nat->Prop} (_:aE n h) (_:kU keep xs h ws k),gH (fun F=>gD keep F xs) n h ws k
 |[],n,h,ws,k,hl,w=>gH.ret hl 1 (fun F _=>by
   obtain⟨F,rfl⟩:∃ k,F=k+1:=⟨F-1,by omega⟩;show gD keep (F+1) [] n h=_;unfold gD;rfl) w
 |x::xs,n,h,ws,k,hl,w=>
  gH.bind (x:=fun F=>xR keep F x) (y:=fun F y=>C.bind (gD keep F xs) fun ys=>C.ret (y::ys)) (fun F=>by show gD keep (F+1) (x::xs)=_;conv=>lhs;unfold gD) (Jk hl w) fun y h' _ M w'=>
   gH.map (uD xs M w') fun _ _ _ h=>h
section
variable {P:Program}{Gl:qC6}{Gm:qC7}{Kp:qC8}
def iM (E:Env):List ResultVar->Bool
 |[]=>true
 |.tmp t::r=>(lk E t).isSome&&iM E r
 |.cell p _::r=>(lk E p).isSome&&iM E r
def pW (P:Program)(Gl:qC6)(E:Env):List ResultVar->AM (List AV)
 |[]=>.ret []
 |.tmp t::r=>(pW P Gl E r).bind fun l=>.ret ((lk E t).getD .undef::l)
 |.cell p t::r=>(rM P Gl t ((lk E p).getD .undef)).bind fun v=>(pW P Gl E r).bind fun l=>.ret (v::l)
theorem Bh {E:Env}{c:Ctx}{a:bE}(hE:E.at c a){t:Nat}(hk:(lk E t).isSome=true):(lk E t).getD .undef=a.tmps.getD t .undef:=by
 cases hv:lk E t with
 |none=>rw[hv]at hk;cases hk
 |some v=>have:=hE.val t v hv;simp[List.getD,this]
theorem Cn {E:Env}{c:Ctx}{a:bE}(hE:E.at c a):∀{r:List ResultVar},iM E r=true->pW P Gl E r=fG P Gl a r
 |[],_=>rfl
 |.tmp t::r,hk=>by
  simp only[iM,Bool.and_eq_true]at hk;unfold pW fG;rw[Cn hE hk.2,Bh hE hk.1]
 |.cell p t::r,hk=>by
  simp only[iM,Bool.and_eq_true]at hk;unfold pW fG;rw[Cn hE hk.2,Bh hE hk.1]
def gS (P:Program)(Gl:qC6)(rs:List ResultVar)(keep:Bool)(B:Nat->Prop)(Q:aS->Nat->Hp->Prop):dZ:=fun ex E n h=>
 let fin:=nF (iM E rs) (mV (pW P Gl E rs) n h [] [] [] fun vs n1 h1 _ ws1 _=>xD B (kU keep vs h1 [] fun vs h2 ws2=>xD B (∀ n',n1<=n'->aE n' h2->Q (.returned (jR vs)) n' h2) ws2) ws1)
 match ex with
 |.normal=>fin
 |.ret=>fin
 |.pan v=>∀ n',n<=n'->aE n' h->Q (.panicked v) n' h
 |_=>False
theorem xX {fn:Func}{keep:Bool}{E:Env}{L:Nat}{a:bE}(hE:E.at ⟨L,[],none⟩ a){n:Nat}{h:Hp}(hl:aE n h){B:Nat->Prop}(hB:∀ t,n<=t->B t){Q:aS->Nat->Hp->Prop}{ex:mQ}(hx:ex=.normal\/ex=.ret)
  (w:gS P Gl fn.results.toList keep B Q ex E n h) :
  ∃ F out,dV P Gl Gm Kp F fn keep a none n h=some out/\Fr n h out/\dT out.wr B/\∀ n',out.nx<=n'->aE n' out.hp->Q out.val n' out.hp:=by
 have w:nF (iM E fn.results.toList) (mV (pW P Gl E fn.results.toList) n h [] [] [] fun vs n1 h1 _ a1 _=>xD B (kU keep vs h1 [] fun vs h2 a2=>xD B (∀ n',n1<=n'->aE n' h2->Q (.returned (jR vs)) n' h2) a2) a1):=by
  rcases hx with rfl | rfl<;>exact w
 obtain⟨hk,w⟩:=w;rw[Cn hE hk]at w;obtain⟨m,rs,ws,_,e,h1,h2,h3,U⟩:=wW _ w (rd:=0) (wr:=0) cV cV;obtain⟨hw,U⟩:=rA U;have fm:Fr n h m:=(qCZ _ _ _ _ _ _ e hl (fun t M=>by simp at M)).2;obtain⟨F,o,_,e2,n2,f2,b2,_,k2⟩:=uD _ fm.lt U;obtain⟨Y,k2⟩:=rA k2;refine⟨F+1,m.seq (o.seq {val:=.returned (jR o.val),nx:=o.nx,hi:=o.nx,hp:=o.hp,rd:=0,wr:=0}),?_,fm.seq (f2.seq (Fr.ret _ f2.lt)),fun t M=>?_,fun n' hn O=>k2 n' (by rw[<- n2];exact hn) O⟩
 .unfold dV;rw[hE.ds];exact dJ e (dJ (e2 F (Nat.le_refl _)) rfl)
 .simp only[Out.seq,Nat.testBit_or,Bool.or_eq_true,Nat.zero_testBit,Bool.false_eq_true,or_false]at M;rcases M with M | M
  .rcases h2 t M with h4 | h4
   .exact hw t h4
   .exact hB t (h3 n (Nat.le_refl _) (fun t M=>by cases M) t h4)
  .exact Y t (b2 t M)
def nT:Nat->List AV->Env
 |_,[]=>[]
 |i,v::vs=>(i,v)::nT (i+1) vs
theorem wC:∀(vs:List AV) (i t:Nat) (v:AV),lk (nT i vs) t=some v->i<=t/\vs[t-i]?=some v
 |[],i,t,v,h=>by cases h
 |u::vs,i,t,v,h=>by
  unfold nT lk at h;by_cases e:i=t
  .subst e;simp at h;subst h;simp
  .have M:(i==t)=false:=(by simpa using e);rw[M]at h;obtain⟨h1,h2⟩:=wC vs (i+1) t v h;refine⟨by omega,?_⟩;rw[show t-i=(t-(i+1))+1 by omega];simpa using h2
theorem aG.body {f:FuncId}{fn:Func}{c:Code}{args:List AV}{keep:Bool}{n:Nat}{h:Hp}{B:Nat->Prop}{Q:aS->Nat->Hp->Prop}(hg:Gm f=none)(hf:P.funcs[f]?=some fn)(hb:fn.body=some c)(hk:Kp f=(keep,false))
  (w:bF P Gl Gm Kp ⟨args.length+(fn.ntmps-args.length),[],none⟩ c (nT 0 args) n h (fun t=>n<=t\/B t) (gS P Gl fn.results.toList keep (fun t=>n<=t\/B t) Q)):aG P Gl Gm Kp f args n h B Q:=by
 refine⟨fun hl=>?_⟩;obtain⟨F1,o,E',e1,f1,w1,U,k1⟩:=w.ok {tmps:=args++List.replicate (fn.ntmps-args.length) .undef,defers:=[],rnd:=none} ⟨⟨by simp,fun t v e=>by
  obtain⟨_,h2⟩:=wC _ _ _ _ e;simp only[Nat.sub_zero]at h2;rw[List.getElem?_append_left (List.getElem?_eq_some_iff.1 h2).1];exact h2⟩,rfl,rfl⟩ hl (fun t M=>.inl M)
 obtain⟨⟨ex,Y⟩,nx,hi,hp,rd,wr⟩:=o;have fin:∀(mode:Option AV) O out,dV P Gl Gm Kp O fn keep Y mode nx hp=some out->Fr nx hp out->dT out.wr (fun t=>n<=t\/B t)->(∀ n',out.nx<=n'->aE n' out.hp->Q out.val n' out.hp)->
   ((mode=none/\(ex=.normal\/ex=.ret))\/∃ v,mode=some v/\ex=.pan v)->
   ∃ F out,fT P Gl Gm Kp F f args n h=some out/\Fr n h out/\(∀ t,out.wr.testBit t=true->t<n->B t)/\∀ n',out.nx<=n'->aE n' out.hp->Q out.val n' out.hp:=by
  intro mode O out e2 f2 b2 q2 hm;refine⟨max F1 O+1,Out.seq {val:=(ex,Y),nx,hi,hp,rd,wr} out,?_,f1.seq f2,fun t M _=>?_,q2⟩
  .unfold fT;rw[hg];simp only[hf,hb,hk];unfold alone;refine dJ (pN (Nat.le_max_left F1 O) c _ _ _ _ e1) ?_;have lm:∀{f k:Nat},f<=k->kA (dV P Gl Gm Kp f fn keep Y mode) (dV P Gl Gm Kp k fn keep Y mode):=fun hk=>by
    induction hk with
    |refl=>exact kA.refl _
    |step _ ih=>exact ih.trans ((gC _).leave fn keep Y mode)
   have e3:=lm (Nat.le_max_right F1 O) _ _ _ e2;rcases hm with⟨rfl,rfl | rfl⟩ | ⟨v,rfl,rfl⟩<;>exact e3
  .simp only[Out.seq,Nat.testBit_or,Bool.or_eq_true]at M;rcases M with M | M
   .rcases w1 t M with h3 | h3
    .omega
    .exact h3
   .rcases b2 t M with h3 | h3
    .omega
    .exact h3
 have a2:∀ t,nx<=t->(n<=t\/B t):=fun t M=>.inl (Nat.le_trans f1.le M);cases ex with
 |normal=>
  obtain⟨O,out,e2,f2,b2,q2⟩:=xX (Gm:=Gm) (Kp:=Kp) U f1.lt a2 (.inl rfl) k1;exact fin none O out e2 f2 b2 q2 (.inl ⟨rfl,.inl rfl⟩)
 |ret=>
  obtain⟨O,out,e2,f2,b2,q2⟩:=xX (Gm:=Gm) (Kp:=Kp) U f1.lt a2 (.inr rfl) k1;exact fin none O out e2 f2 b2 q2 (.inl ⟨rfl,.inr rfl⟩)
 |pan v=>
  refine fin (some v) 1 {val:=.panicked v,nx:=nx,hi:=nx,hp:=hp,rd:=0,wr:=0} ?_ (Fr.ret _ f1.lt) cV (fun n' hn a3=>k1 n' hn a3) (.inr ⟨v,rfl,rfl⟩);unfold dV;rw[U.ds]
  rfl
 |exit _=>exact False.elim k1
 |goto _=>exact False.elim k1
end
section
variable (P:Program)(Gl:qC6)(Gm:qC7)(Kp:qC8)
structure Fa (x:Ctx)(c:Code)(E:Env)(n:Nat)(h:Hp)(B:Nat->Prop)(k:dZ):Prop where
 ok:bF P Gl Gm Kp x c E n h B k
structure DG (x:Ctx)(c:Code)(E:Env)(n:Nat)(h:Hp)(B:Nat->Prop)(k:dZ):Prop where
 ok:bF P Gl Gm Kp x c E n h B k
def dN (x:Ctx)(B:Nat->Prop):Code->dZ->Env->Nat->Hp->Prop
 |.skip,k,E,n,h=>k .normal E n h
 |.label _,k,E,n,h=>k .normal E n h
 |.ret,k,E,n,h=>k .ret E n h
 |.exit id,k,E,n,h=>k (.exit id) E n h
 |.goto l,k,E,n,h=>k (.goto l) E n h
 |.seq c d,k,E,n,h=>dN x B c (rT (fun E n h=>dN x B d k E n h) k) E n h
 |.region _ ops false,k,E,n,h=>oL P Gl Gm Kp x.L B k ops.toList 0 [] E n h
 |.cond c d e,k,E,n,h=>nF (E.knows c) (uC (E.eval c) (dN x B d k E n h) (dN x B e k E n h))
 |.block id c,k,E,n,h=>dN x B c (nU id k) E n h
 |.scope c,k,E,n,h=>dN x B c (uU k) E n h
 |.loop c,k,E,n,h=>DG P Gl Gm Kp x (.loop c) E n h B k
 |.region id ops true,k,E,n,h=>Fa P Gl Gm Kp x (.region id ops true) E n h B k
 |.rangeFunc f ps a c,k,E,n,h=>Fa P Gl Gm Kp x (.rangeFunc f ps a c) E n h B k
 |.refuse _,_,_,_,_=>False
end
section
variable {P:Program}{Gl:qC6}{Gm:qC7}{Kp:qC8}
theorem aW {x:Ctx}{B:Nat->Prop}:∀{c:Code}{k:dZ}{E:Env}{n:Nat}{h:Hp},dN P Gl Gm Kp x B c k E n h->bF P Gl Gm Kp x c E n h B k
 |.skip,k,E,n,h,w=>bF.skip w
 |.label _,k,E,n,h,w=>bF.label w
 |.ret,k,E,n,h,w=>bF.ret w
 |.exit _,k,E,n,h,w=>bF.exit w
 |.goto _,k,E,n,h,w=>bF.goto w
 |.seq c d,k,E,n,h,w=>bF.seq ((aW (c:=c) w).imp fun ex E' n' h' _ _ _ w'=>by
   cases ex<;>first | exact aW w' | exact w')
 |.region _ ops false,k,E,n,h,w=>bF.region w
 |.region _ ops true,k,E,n,h,w=>Fa.ok w
 |.cond c d e,k,E,n,h,w=>bF.cond w.1 (by
   have w:=w.2;unfold uC at w ⊢;split at w
   .exact⟨fun hb=>aW (w.1 hb),fun hb=>aW (w.2 hb)⟩
   .exact w)
 |.block _ c,k,E,n,h,w=>bF.block (aW w)
 |.scope c,k,E,n,h,w=>bF.scope (aW w)
 |.loop c,k,E,n,h,w=>DG.ok w
 |.rangeFunc _ _ _ _,k,E,n,h,w=>Fa.ok w
 |.refuse _,k,E,n,h,w=>False.elim w
def Yo (j:Nat)(want:Bool)(ix:List (Nat×Tmp))(E:Env):AV:=
 match ix.lookup j with
 |some d=>match lk E d with
  |some (.bool b)=>.bool (b==want)
  |some .undef=>.bool false
  |_=>.unk
 |none=>.unk
theorem sZ (j want ix E)(X Y:Prop):qZ (some (j,want)) ix E X Y=uC (Yo j want ix E) X Y:=by
 unfold qZ Yo;cases hj:ix.lookup j with
 |none=>simp only[hj];rfl
 |some d=>
  cases hv:lk E d with
  |none=>simp only[hj,hv];rfl
  |some v=>
   simp only[hj,hv];cases v with
   |bool b=>cases want<;>cases b<;>simp[NV,uC]
   |undef=>simp[NV,uC]
   |_=>rfl
def Vs (l:Env->Nat->Hp->Prop)(k:dZ)(dst:Option Tmp)(E:Env):aS->Nat->Hp->Prop:=fun e n h=>match e with
 |.returned v=>l (E.put dst v) n h
 |.panicked v=>k (.pan v) E n h
theorem MQ (t' t v)(E:Env):lk ((t',v)::E) t=if t'=t then some v else lk E t:=by
 by_cases h:t'=t
 .simp[lk,h]
 .have:(t'==t)=false:=(by simpa using h);simp[lk,h,this]
theorem RU (t):lk [] t=none:=rfl
theorem EY (E:Env)(t):E.eval (.tmp t)=(lk E t).getD .undef:=rfl
theorem EU (E:Env)(k i):E.eval (.const (.int k i))=.int k i:=rfl
theorem Yg (E:Env)(b):E.eval (.const (.bool b))=.bool b:=rfl
theorem Kx (E:Env)(l:List UInt8):E.eval (.const (.string ⟨l.toArray⟩))=.str l:=by
 show AV.str (l.toArray.toList)=_;rw[List.toList_toArray]
theorem EW (E:Env):E.eval (.const (.pointer none))=.ptr0:=rfl
theorem Yk (E:Env):E.eval (.const (.slice none 0 0))=.sl0:=rfl
theorem Yj (E:Env):E.eval (.const (.map none))=.map0:=rfl
theorem Yh (E:Env):E.eval (.const .nilFunc)=.fn0:=rfl
theorem Yi (E:Env):E.eval (.const .nilIface)=.if0:=rfl
theorem eval_global (E:Env)(g):E.eval (.global g)=.gref g 0:=rfl
theorem eval_func (E:Env)(f):E.eval (.func f)=.fn (.func f) [] []:=rfl
theorem Eh (E:Env)(x l):E.knowsAll (x::l)=(E.knows x&&E.knowsAll l):=rfl
theorem Hv (E:Env):E.knowsAll []=true:=rfl
theorem Zs (E:Env)(t):E.knows (.tmp t)=(lk E t).isSome:=rfl
theorem Lq (E:Env)(v):E.knows (.const v)=true:=rfl
theorem Hw (E:Env)(v):E.knows (.global v)=true:=rfl
theorem Rn (E:Env)(v):E.knows (.func v)=true:=rfl
theorem Qn (L d):iX L (some d)=Nat.blt d L:=rfl
theorem Qm (L):iX L none=true:=rfl
theorem Qa (a b:Nat):Nat.blt a b=decide (a<b):=by
 cases h:Nat.blt a b with
 |true=>simp at h;simp[h]
 |false=>
  have:¬a<b:=fun M=>by
   have:Nat.blt a b=true:=(by simpa using M);rw[h]at this;cases this
  simp[this]
theorem GW (E:Env)(d v):E.put (some d) v=(d,v)::E:=rfl
theorem GV (E:Env)(v):E.put none v=E:=rfl
theorem Rj (ix i d):kQ ix i (some d)=(i,d)::ix:=rfl
theorem Ri (ix i):kQ ix i none=ix:=rfl
theorem Pt (i v vs):nT i (v::vs)=(i,v)::nT (i+1) vs:=rfl
theorem Xi (i):nT i []=[]:=rfl
theorem bM (n x)(h:Hp):Hp.get ((n,x)::h) n=some x:=by simp[Hp.get]
theorem aX (n x)(h:Hp)(o:Nat)(e:n≠o):Hp.get ((n,x)::h) o=h.get o:=by
 have:(n==o)=false:=(by simpa using e);simp[Hp.get,this]
theorem qJ (x)(h:Hp)(o:Nat):Hp.get (h.put o x) o=some x:=by rw[qCf,if_pos rfl]
theorem qI (x)(h:Hp)(o t:Nat)(e:o≠t):Hp.get (h.put o x) t=h.get t:=by rw[qCf,if_neg (Ne.symm e)]
theorem Hm (h:Hp)(o:Nat):Hp.get (h.del o) o=none:=by rw[qCe,if_pos rfl]
theorem lX (h:Hp)(o t:Nat)(e:o≠t):Hp.get (h.del o) t=h.get t:=by rw[qCe,if_neg (Ne.symm e)]
section
variable (ρ:Operand->AV)(d:Option Tmp)(ty:TypeId)(pos:String)(af:Array Edge)(g:Option (Nat×Bool))
theorem EC {α β:Type}(a:α)(f:α->AM β):(AM.ret a).bind f=f a:=rfl
theorem DZ {α β:Type}(o)(k)(f:α->AM β):(AM.get o k).bind f=.get o fun x=>(k x).bind f:=rfl
theorem ED {α β:Type}(o x)(k)(f:α->AM β):(AM.set o x k).bind f=.set o x (k.bind f):=rfl
theorem DY {α β:Type}(o)(k)(f:α->AM β):(AM.del o k).bind f=.del o (k.bind f):=rfl
theorem EA {α β:Type}(x)(k)(f:α->AM β):(AM.new x k).bind f=.new x fun o=>(k o).bind f:=rfl
theorem Xk {α β:Type}(f:α->AM β):(AM.fail).bind f=.fail:=rfl
theorem Sl {α:Type}(a:α):AM.ofOpt (some a)=.ret a:=rfl
theorem Sk {α:Type}:(AM.ofOpt (none:Option α))=.fail:=rfl
def oK:AV->AM iW:=fun x=>.ret (.val x)
def HW:Unit->AM iW:=fun _=>.ret .skip
theorem NW (x:AV):oK x=.ret (.val x):=rfl
theorem NS (x:Unit):HW x=.ret .skip:=rfl
theorem Ka (x):fF P Gl ρ ⟨d,.move x,ty,pos,af,g⟩=.ret (.val (ρ x)):=rfl
theorem Ad (x):fF P Gl ρ ⟨d,.assign x,ty,pos,af,g⟩=.ret (.val (ρ x)):=rfl
def Wj (c a b:AV):AM iW:=match c with
 |.bool t=>.ret (.val (bif t then a else b))
 |_=>.fail
theorem Af (c a b):fF P Gl ρ ⟨d,.pick c a b,ty,pos,af,g⟩=Wj (ρ c) (ρ a) (ρ b):=rfl
theorem Sp (t a b):Wj (.bool t) a b=.ret (.val (bif t then a else b)):=rfl
def Pn (z:Option AV):AM iW:=match z with
 |some z=>bif z.whole then .new (.cells z.cells) fun o=>.ret (.val (.ref o 0)) else .fail
 |none=>.fail
theorem Fb (t):fF P Gl ρ ⟨d,.alloc t,ty,pos,af,g⟩=Pn (bK P t):=rfl
theorem Jx (z):Pn (some z)=bif z.whole then .new (.cells z.cells) fun o=>.ret (.val (.ref o 0)) else .fail:=rfl
theorem Vm (t x):fF P Gl ρ ⟨d,.box t x,ty,pos,af,g⟩=bif (ρ x).whole then .new (.cells (ρ x).cells) fun o=>.ret (.val (.ref o 0)) else .fail:=rfl
theorem Ww (t)(ps:List (Nat×Operand)):fF P Gl ρ ⟨d,.build t ps.toArray,ty,pos,af,g⟩=(AM.ofOpt (gQ P t (ps.map fun q=>(q.1,ρ q.2)))).bind oK:=rfl
theorem Ae (t n)(ps:List (Nat×Operand)):fF P Gl ρ ⟨d,.buildSlice t n ps.toArray,ty,pos,af,g⟩=(bU P t n (ps.map fun q=>(q.1,ρ q.2))).bind oK:=rfl
theorem DO (t x):fF P Gl ρ ⟨d,.load t x,ty,pos,af,g⟩=(rM P Gl t (ρ x)).bind oK:=rfl
theorem Xc (t a x):fF P Gl ρ ⟨d,.store t a x,ty,pos,af,g⟩=(Cr P t (ρ a) (ρ x)).bind HW:=rfl
def nQ (P:Program)(x:AV):AM iW:=match x with
  |.ref o i=>.ret (.val (.ref o i))
  |.gref o i=>.ret (.val (.gref o i))
  |.pvec xs es i=>.ret (.val (.pvec xs es i))
  | .ptr0 | .fn0 | .if0 => .ret (.pan (.iface P.rt.errorString (.str "invalid memory address or nil pointer dereference".toUTF8.data.toList)))
  |_=>.fail
theorem qD (x):fF P Gl ρ ⟨d,.nilCheck x,ty,pos,af,g⟩=nQ P (ρ x):=rfl
theorem El (o i):nQ P (.ref o i)=.ret (.val (.ref o i)):=rfl
theorem Bw (o i):nQ P (.gref o i)=.ret (.val (.gref o i)):=rfl
theorem By (xs es i):nQ P (.pvec xs es i)=.ret (.val (.pvec xs es i)):=rfl
theorem Fc (op t x y u):fF P Gl ρ ⟨d,.binOp op t x y u,ty,pos,af,g⟩=(AM.ofOpt (cL P op t (isLit x || isLit y) (ρ x) (ρ y))).bind oK:=rfl
theorem DT (op t x):fF P Gl ρ ⟨d,.unOp op t x,ty,pos,af,g⟩=(AM.ofOpt (Nu op (ρ x))).bind oK:=rfl
theorem Jz (s t x):fF P Gl ρ ⟨d,.convert s t x,ty,pos,af,g⟩=(lD P s t (ρ x)).bind oK:=rfl
def Bu (P:Program)(t:TypeId)(x:AV):AM iW:=match P.underlying t with
  |some (.interface _) | none=>.fail
  |some _=>.ret (.val (.iface t x))
theorem lA (t x):fF P Gl ρ ⟨d,.makeInterface t x,ty,pos,af,g⟩=Bu P t (ρ x):=rfl
theorem vG (f)(a c:List Operand):fF P Gl ρ ⟨d,.makeFunc (.func f) a.toArray c.toArray,ty,pos,af,g⟩=.ret (.val (.fn (.func f) (a.map ρ) (c.map ρ))):=rfl
theorem xH (t):fF P Gl ρ ⟨d,.makeMap t none,ty,pos,af,g⟩=.new (.map []) fun o=>.ret (.val (.map o)):=rfl
theorem Dv (t l c):fF P Gl ρ ⟨d,.makeSlice t l c,ty,pos,af,g⟩=(kJ P t (ρ l) (ρ c)).bind oK:=rfl
theorem Xb (t x lo hi mx):fF P Gl ρ ⟨d,.slice t x lo hi mx,ty,pos,af,g⟩=(lK P t (ρ x) (lo.map ρ) (hi.map ρ) (mx.map ρ)).bind oK:=rfl
theorem Dt (s x f):fF P Gl ρ ⟨d,.fieldAddr s x f,ty,pos,af,g⟩=(aR P s (ρ x) f).bind oK:=rfl
theorem Wz (s x f):fF P Gl ρ ⟨d,.field s x f,ty,pos,af,g⟩=(nW P s (ρ x) f).bind oK:=rfl
theorem Du (t x i):fF P Gl ρ ⟨d,.indexAddr t x i,ty,pos,af,g⟩=(dU P t (ρ x) (ρ i)).bind oK:=rfl
theorem Xa (t x i):fF P Gl ρ ⟨d,.index t x i,ty,pos,af,g⟩=(sG P t (ρ x) (ρ i)).bind oK:=rfl
theorem Pr (t x i ok):fF P Gl ρ ⟨d,.lookup t x i ok,ty,pos,af,g⟩=(kH P t (ρ x) (ρ i) ok).bind oK:=rfl
theorem Dw (t m k x):fF P Gl ρ ⟨d,.mapUpdate t m k x,ty,pos,af,g⟩=(fY P t (ρ m) (ρ k) (ρ x)).bind HW:=rfl
theorem Pq (t m k x):fF P Gl ρ ⟨d,.insert t m k x,ty,pos,af,g⟩=(fY P t (ρ m) (ρ k) (ρ x)).bind HW:=rfl
theorem DR (it s):fF P Gl ρ ⟨d,.next it s,ty,pos,af,g⟩=(Gc (ρ it) s).bind oK:=rfl
theorem Ag (x t a ok):fF P Gl ρ ⟨d,.typeAssert x t a ok,ty,pos,af,g⟩=(iA P (ρ x) t a ok).bind oK:=rfl
def pQ (t:AV)(i:Nat):AM iW:=match t with
  |.tup vs=>match vs[i]? with
   |some x=>.ret (.val x)
   |none=>.fail
  |_=>.fail
theorem rX (t i):fF P Gl ρ ⟨d,.extract t i,ty,pos,af,g⟩=pQ (ρ t) i:=rfl
theorem Eb (x vs):pQ (.tup (x::vs)) 0=.ret (.val x):=rfl
theorem Ea (x vs i):pQ (.tup (x::vs)) (i+1)=pQ (.tup vs) i:=rfl
def Cg (x:AV):AM iW:=match x with
  |.iface t y=>.ret (.pan (.iface t y))
  |_=>.fail
theorem Ff (x):fF P Gl ρ ⟨d,.panic x,ty,pos,af,g⟩=Cg (ρ x):=rfl
theorem Ik (t y):Cg (.iface t y)=.ret (.pan (.iface t y)):=rfl
def Ao (P:Program)(f:AV)(args:List AV):AM iW:=match f with
   |.fn (.func g) first cap=>aT P g ((first++args)++cap)
   |.fn (.yield l) [] []=>.ret (.round l args)
   |_=>.fail
theorem Wx (f)(args:List Operand)(ats):fF P Gl ρ ⟨d,.call ⟨.value f,args.toArray,ats⟩,ty,pos,af,g⟩=Ao P (ρ f) (args.map ρ):=rfl
theorem Kn (f a c args):Ao P (.fn (.func f) a c) args=aT P f ((a++args)++c):=rfl
theorem Hf (l args):Ao P (.fn (.yield l) [] []) args=.ret (.round l args):=rfl
theorem Po (s x)(ats):fF P Gl ρ ⟨d,.call ⟨.builtin .append,#[s,x],ats⟩,ty,pos,af,g⟩=bif ats.size==2 then (jH P ats (ρ s) (ρ x)).bind oK else .fail:=rfl
theorem IX (x)(ats):fF P Gl ρ ⟨d,.call ⟨.builtin .len,#[x],ats⟩,ty,pos,af,g⟩=(pK P ats (ρ x)).bind oK:=rfl
theorem IY (x y)(ats):fF P Gl ρ ⟨d,.call ⟨.builtin .max,#[x,y],ats⟩,ty,pos,af,g⟩=(AM.ofOpt (mM tY (ρ x) [ρ y])).bind oK:=rfl
theorem IZ (x y)(ats):fF P Gl ρ ⟨d,.call ⟨.builtin .min,#[x,y],ats⟩,ty,pos,af,g⟩=(AM.ofOpt (mM Bt (ρ x) [ρ y])).bind oK:=rfl
theorem Pp (x)(ats):fF P Gl ρ ⟨d,.call ⟨.builtin .panic,#[x],ats⟩,ty,pos,af,g⟩=Cg (ρ x):=by
 simp only[fF,Cg,List.map_cons,List.map_nil];cases ρ x<;>rfl
end
theorem Zu (t o i):rM P Gl t (.ref o i)=.get o fun
  |.cells cs=>AM.ofOpt (cN P t cs i)
  |.arr es xs=>AM.ofOpt (cF P t es xs i)
  |_=>.fail:=rfl
theorem Rz (t xs es i):rM P Gl t (.pvec xs es i)=AM.ofOpt (cF P t es xs i):=rfl
theorem Ti (t o i v):Cr P t (.ref o i) v=.get o fun
  |.cells cs=>match dP P t cs i v with
   |some cs'=>.set o (.cells cs') (.ret ())
   |none=>.fail
  |.arr es xs=>match cP P t es xs i v with
   |some xs'=>.set o (.arr es xs') (.ret ())
   |none=>.fail
  |_=>.fail:=rfl
theorem Pm (o i j):bW (.ref o i) j=some (.ref o (i+j)):=rfl
theorem Jw (xs es i j):bW (.pvec xs es i) j=some (.pvec xs es (i+j)):=rfl
theorem Jv (o i j):bW (.gref o i) j=some (.gref o (i+j)):=rfl
end
inductive jK where
 |plain (rs ws ns:List Nat)
 |call (Bd:Nat->Prop) (lo hi:Nat)
def jK.R:jK->Nat->Prop
 |.plain rs _ _,t=>t ∈ rs
 |.call _ _ hi,t=>t<hi
def jK.W:jK->Nat->Prop
 |.plain _ ws ns,t=>t ∈ ws\/t ∈ ns
 |.call Bd lo hi,t=>t<hi/\(t<lo->Bd t)
def qC (p:Nat->Prop):List Nat->Prop
 |[]=>True
 |t::l=>p t/\qC p l
theorem mK {p:Nat->Prop}:∀{l:List Nat},qC p l->∀ t ∈ l,p t
 |[],_,t,ht=>by cases ht
 |u::l,h,t,ht=>by
  rcases List.mem_cons.1 ht with rfl | ht
  .exact h.1
  .exact mK h.2 t ht
def apart:jK->jK->Prop
 |.plain rs ws ns,.plain rs' ws' ns'=>qC (fun t=>qC (t≠·) (rs'++(ws'++ns'))) (ws++ns)/\qC (fun t=>qC (t≠·) (ws'++ns')) rs
 |.plain rs ws ns,.call Bd lo hi=>qC (hi<=·) (ws++ns)/\qC (fun t=>hi<=t\/(t<lo/\¬Bd t)) rs
 |.call Bd lo _,.plain rs ws ns=>ws++ns=[]/\qC (fun t=>t<lo/\¬Bd t) rs
 |.call _ _ _,.call _ _ _=>False
theorem Kb:∀{f g:jK},apart f g->(∀ t,f.W t->¬g.R t/\¬g.W t)/\(∀ t,f.R t->¬g.W t)
 |.plain rs ws ns,.plain rs' ws' ns',h=>by
  refine⟨fun t O=>?_,fun t O M=>?_⟩
  .have:=mK (mK h.1 t (by simpa [jK.W]using O));exact⟨fun M=>this t (by simp[jK.R]at M;simp[M]) rfl,fun M=>this t (by simp[jK.W]at M;rcases M with M | M<;>simp[M]) rfl⟩
  .exact mK (mK h.2 t O) t (by simp[jK.W]at M;simp[M]) rfl
 |.plain rs ws ns,.call Bd lo hi,h=>by
  refine⟨fun t O=>?_,fun t O M=>?_⟩
  .have:=mK h.1 t (by simpa [jK.W]using O);exact⟨fun M=>by simp only[jK.R]at M;omega,fun M=>by have:=M.1;omega⟩
  .rcases mK h.2 t O with h1 | ⟨h1,h2⟩
   .have:=M.1;omega
   .exact h2 (M.2 h1)
 |.call Bd lo hi,.plain rs ws ns,h=>by
  have U:=List.append_eq_nil_iff.1 h.1;refine⟨fun t O=>⟨fun M=>?_,fun M=>?_⟩,fun t O M=>?_⟩
  .have:=mK h.2 t M;exact this.2 (O.2 this.1)
  .simp[jK.W,U.1,U.2]at M
  .simp[jK.W,U.1,U.2]at M
 |.call _ _ _,.call _ _ _,h=>h.elim
def Ci:List (Nat×Nat)->Nat->Nat->Bool
 |[],_,_=>false
 |(a,b)::l,j,i=>(a==j&&b==i) || Ci l j i
def fK (ps:List (Nat×Nat))(i:Nat)(f:jK)(X:Prop):List (Nat×jK)->Prop
 |[]=>X
 |(j,g)::r=>bif Ci ps j i then apart f g/\fK ps i f X r else fK ps i f X r
theorem mB {ps:List (Nat×Nat)}{i:Nat}{f:jK}{X:Prop}:∀{recs:List (Nat×jK)},fK ps i f X recs->X/\∀ j g,(j,g) ∈ recs->Ci ps j i=true->apart f g
 |[],h=>⟨h,fun j g O=>by cases O⟩
 |(j,g)::r,h=>by
  unfold fK at h;cases hp:Ci ps j i with
  |true=>
   rw[hp]at h;obtain⟨h1,h2⟩:=mB h.2;refine⟨h1,fun Y U O M=>?_⟩;rcases List.mem_cons.1 O with e | O
   .cases e;exact h.1
   .exact h2 Y U O M
  |false=>
   rw[hp]at h;obtain⟨h1,h2⟩:=mB h;refine⟨h1,fun Y U O M=>?_⟩;rcases List.mem_cons.1 O with e | O
   .cases e;rw[hp]at M;cases M
   .exact h2 Y U O M
def AF:jK->Prop
 |.plain _ ws _=>ws=[]
 |.call _ _ _=>False
def Ew (ps:List (Nat×Nat))(j:Nat)(X:Prop):List (Nat×jK)->Prop
 |[]=>X
 |(i,f)::r=>bif i==j || (Nat.blt i j&&!Ci ps i j) then Ew ps j X r else AF f/\Ew ps j X r
theorem Dh {ps:List (Nat×Nat)}{j:Nat}{X:Prop}:∀{recs:List (Nat×jK)},Ew ps j X recs->X/\∀ i f,(i,f) ∈ recs->i=j\/(i<j/\Ci ps i j=false)\/AF f
 |[],h=>⟨h,fun j g M=>by cases M⟩
 |(i,f)::r,h=>by
  unfold Ew at h;cases hc:(i==j || (Nat.blt i j&&!Ci ps i j)) with
  |true=>
   rw[hc]at h;obtain⟨h1,h2⟩:=Dh h;refine⟨h1,fun U O M=>?_⟩;rcases List.mem_cons.1 M with e | M
   .cases e;simp only[Bool.or_eq_true,beq_iff_eq,Bool.and_eq_true,Bool.not_eq_true',Qa,decide_eq_true_eq]at hc;rcases hc with hc | hc
    .exact .inl hc
    .exact .inr (.inl hc)
   .exact h2 U O M
  |false=>
   rw[hc]at h;obtain⟨h1,h2⟩:=Dh h.2;refine⟨h1,fun U O M=>?_⟩;rcases List.mem_cons.1 M with e | M
   .cases e;exact .inr (.inr h.1)
   .exact h2 U O M
def jP:Op->Bool
 |.move _ | .assign _ | .pick _ _ _ | .build _ _ | .buildSlice _ _ _ | .nilCheck _ | .binOp _ _ _ _ _ | .unOp _ _ _ | .makeInterface _ _ | .makeFunc _ _ _ | .fieldAddr _ _ _ | .field _ _ _
 |.index _ _ _ | .typeAssert _ _ _ _ | .extract _ _=>true
 |_=>false
def kM:Op->Bool
 |.load _ _ | .indexAddr _ _ _ | .slice _ _ _ _ _ | .lookup _ _ _ _ | .convert _ _ _=>true
 |.call ⟨.builtin .len,_,_⟩=>true
 |o=>jP o
def oA:Op->Bool
 |.call ⟨.builtin _,_,_⟩=>false
 |.call _=>true
 |_=>false
inductive AM.Rd {α:Type}:AM α->Prop where
 |ret (a:α):AM.Rd (.ret a)
 |fail:AM.Rd .fail
 |get (o:Nat) (k:aK->AM α) (h:∀ x,AM.Rd (k x)):AM.Rd (.get o k)
inductive AM.Pu {α:Type}:AM α->Prop where
 |ret (a:α):AM.Pu (.ret a)
 |fail:AM.Pu .fail
theorem AM.Pu.rd {α:Type}{m:AM α}(h:m.Pu):m.Rd:=by cases h<;>constructor
theorem AM.Rd.bind {α β:Type}{m:AM α}{f:α->AM β}(h:m.Rd)(hf:∀ a,(f a).Rd):(m.bind f).Rd:=by
 induction h with
 |ret a=>exact hf a
 |fail=>exact .fail
 |get o k _ ih=>exact .get o _ ih
theorem AM.Pu.bind {α β:Type}{m:AM α}{f:α->AM β}(h:m.Pu)(hf:∀ a,(f a).Pu):(m.bind f).Pu:=by
 cases h with
 |ret a=>exact hf a
 |fail=>exact .fail
theorem AM.Pu.ofOpt {α:Type}(x:Option α):(AM.ofOpt x).Pu:=by cases x<;>constructor
theorem AM.Rd.run {α:Type}{m:AM α}(h:m.Rd):∀{n:Nat}{hp:Hp}{rd wr:Nat}{out:Out α},m.run n hp rd wr=some out->out.wr=wr:=by
 induction h with
 |ret a=>intro n hp rd wr out e;cases e;rfl
 |fail=>intro n hp rd wr out e;cases e
 |get o k _ ih=>
  intro n hp rd wr out e;unfold AM.run at e;split at e
  .exact ih _ e
  .cases e
theorem AM.Pu.run {α:Type}{m:AM α}(h:m.Pu){n:Nat}{hp:Hp}{rd wr:Nat}{out:Out α}(e:m.run n hp rd wr=some out):out.wr=wr/\out.rd=rd:=by
 cases h with
 |ret a=>cases e;exact⟨rfl,rfl⟩
 |fail=>cases e
section
variable {P:Program}{Gl:qC6}
theorem Mx {m:AM AV}(h:m.Pu):(m.bind oK).Pu:=h.bind fun _=>.ret _
theorem AX {m:AM AV}(h:m.Rd):(m.bind oK).Rd:=h.bind fun _=>.ret _
theorem AM.Pu.condf {α:Type}{b:Bool}{m:AM α}(h:m.Pu):(bif b then m else AM.fail).Pu:=by cases b<;>first | exact .fail | exact h
theorem AM.Rd.condf {α:Type}{b:Bool}{m:AM α}(h:m.Rd):(bif b then m else AM.fail).Rd:=by cases b<;>first | exact .fail | exact h
theorem AM.Pu.condr {α:Type}{b:Bool}{m:AM α}(h:m.Pu):(bif b then AM.fail else m).Pu:=by cases b<;>first | exact .fail | exact h
theorem AM.Rd.condr {α:Type}{b:Bool}{m:AM α}(h:m.Rd):(bif b then AM.fail else m).Rd:=by cases b<;>first | exact .fail | exact h
theorem Ge (ρ:Operand->AV)(o:Oper)(h:jP o.op=true):(fF P Gl ρ o).Pu:=by
 obtain⟨d,op,ty,pos,af,g⟩:=o;cases op<;>first | (cases h;done) | skip
 case move=>exact .ret _
 case assign=>exact .ret _
 case pick c a b=>rw[Af];unfold Wj;split<;>constructor
 case build t ps=>exact Mx (.ofOpt _)
 case buildSlice t n ps=>
  refine Mx ?_;unfold bU
  repeat' (first | exact .ret _ | exact .fail | exact .ofOpt _ | apply AM.Pu.condf | apply AM.Pu.condr | split)
 case nilCheck x=>rw[qD];unfold nQ;split<;>constructor
 case binOp=>exact Mx (.ofOpt _)
 case unOp=>exact Mx (.ofOpt _)
 case makeInterface t x=>rw[lA];unfold Bu;split<;>constructor
 case makeFunc f a c=>cases f<;>constructor
 case fieldAddr s x f=>
  refine Mx ?_;unfold aR
  repeat' (first | exact .ret _ | exact .fail | exact .ofOpt _ | apply AM.Pu.condf | apply AM.Pu.condr | split)
 case field s x f=>
  refine Mx ?_;unfold nW
  repeat' (first | exact .ret _ | exact .fail | exact .ofOpt _ | apply AM.Pu.condf | apply AM.Pu.condr | split)
 case index t x i=>
  refine Mx ?_;unfold sG
  repeat' (first | exact .ret _ | exact .fail | exact .ofOpt _ | apply AM.Pu.condf | apply AM.Pu.condr | split)
 case typeAssert x t a ok=>
  refine Mx ?_;unfold iA
  repeat' (first | exact .ret _ | exact .fail | exact .ofOpt _ | apply AM.Pu.condf | apply AM.Pu.condr | split)
 case extract t i=>
  rw[rX];unfold pQ;split
  .split<;>constructor
  .constructor
theorem Yf (x:AV)(es:Nat):(nV x es).Rd:=by
 unfold nV
 repeat' (first | exact .ret _ | exact .fail | exact(AM.Pu.ofOpt _).rd | apply AM.Rd.condf | apply AM.Rd.condr | (refine .get _ _ fun x=>?_) | split)
theorem AE (ρ:Operand->AV)(o:Oper)(h:kM o.op=true):(fF P Gl ρ o).Rd:=by
 by_cases hp:jP o.op=true
 .exact(Ge ρ o hp).rd
 obtain⟨d,op,ty,pos,af,g⟩:=o;cases op<;>first | (exact absurd h hp) | skip
 case load t x=>
  refine AX ?_;unfold rM
  repeat' (first | exact .ret _ | exact .fail | exact(AM.Pu.ofOpt _).rd | apply AM.Rd.condf | apply AM.Rd.condr | (refine .get _ _ fun x=>?_) | split)
 case indexAddr t x i=>
  refine AX ?_;unfold dU
  repeat' (first | exact .ret _ | exact .fail | exact(AM.Pu.ofOpt _).rd | apply AM.Rd.condf | apply AM.Rd.condr | (refine .get _ _ fun x=>?_) | split)
 case slice t x lo hi mx=>
  refine AX ?_;unfold lK
  repeat' (first | exact .ret _ | exact .fail | exact(AM.Pu.ofOpt _).rd | apply AM.Rd.condf | apply AM.Rd.condr | (refine .get _ _ fun x=>?_) | split)
 case lookup t x i ok=>
  refine AX ?_;have fin:∀(M:TypeId) (r:Option AV),AM.Rd (match r with
    |some v=>AM.ret (bif ok then AV.tup [v,.bool true] else v)
    |none=>match bK P M with
     |some z=>.ret (bif ok then .tup [z,.bool false] else z)
     |none=>.fail):=fun M r=>by
   repeat' (first | exact .ret _ | exact .fail | split)
  unfold kH;cases P.underlying t with
  |none=>exact .fail
  |some u=>
   cases u<;>first | exact .fail | skip
   rename_i kt M;simp only;cases nJ P kt (ρ i) with
   |false=>exact .fail
   |true=>
    simp only[cond_true];cases ρ x<;>first | exact .fail | skip
    .exact fin M none
    .refine .get _ _ fun x=>?_;cases x<;>first | exact .fail | skip
     rename_i kv;simp only;cases mY (ρ i) kv with
     |none=>exact .fail
     |some r=>exact fin M r
 case convert s t x=>
  refine AX ?_;unfold lD;split
  .exact .ret _
  .exact .ret _
  .exact .ret _
  .split
   .apply AM.Rd.condr;refine(Yf _ _).bind fun xs=>?_;split<;>constructor
   .exact .fail
  .exact .fail
 case call c=>
  obtain⟨callee,args,O⟩:=c;cases callee with
  |builtin b=>
   cases b<;>first | (cases h;done) | skip
   simp only[fF];generalize args.toList.map ρ=l
   match l with
   |[]=>exact .fail
   |[x]=>
    refine AX (m:=pK P O x) ?_;unfold pK
    repeat' (first | exact .ret _ | exact .fail | (refine .get _ _ fun x=>?_) | split)
   |_::_::_=>exact .fail
  |_=>cases h
end
abbrev kO:=List (Nat×jK)
section
variable (P:Program)(Gl:qC6)(Gm:qC7)(Kp:qC8)
structure Pk (f:FuncId)(args:List AV)(n:Nat)(h:Hp)(B:Nat->Prop)(Q:(Nat->Prop)->aS->Nat->Hp->Prop):Prop where
 ok:∃ Bd:Nat->Prop,(∀ t,t<n->Bd t->B t)/\aG P Gl Gm Kp f args n h Bd (Q Bd)
def xL (ps:List (Nat×Nat))(i:Nat)(dst:Option Tmp)(E:Env)(recs:kO)(n:Nat)(l:Env->Nat->Hp->kO->Prop)(rest:AV->Nat->Hp->kO->Prop)(Bd:Nat->Prop):aS->Nat->Hp->Prop:=fun e n' h'=>
 match e with
 |.returned v=>fK ps i (.call Bd n n') (l (E.put dst v) n' h' ((i,.call Bd n n')::recs)) recs
 |.panicked v=>fK ps i (.call Bd n n') (rest v n' h' ((i,.call Bd n n')::recs)) recs
def vA (ps:List (Nat×Nat))(i:Nat)(dst:Option Tmp)(E:Env)(B:Nat->Prop)(recs:kO)(l:Env->Nat->Hp->kO->Prop)(rest:AV->Nat->Hp->kO->Prop)(r:iW)(n:Nat)(h:Hp)(f:jK):Prop:=
 match r with
 |.val v=>fK ps i f (l (E.put dst v) n h ((i,f)::recs)) recs
 |.skip=>fK ps i f (l (E.put dst .undef) n h ((i,f)::recs)) recs
 |.enter g args=>Pk P Gl Gm Kp g args n h B (xL ps i dst E recs n l rest)
 |_=>False
def Dm (ps:List (Nat×Nat))(i:Nat)(dst:Option Tmp)(E:Env)(recs:kO)(l:Env->Nat->Hp->kO->Prop)(r:iW)(n:Nat)(h:Hp)(f:jK):Prop:=
 match r with
 |.val v=>fK ps i f (l (E.put dst v) n h ((i,f)::recs)) recs
 |.skip=>fK ps i f (l (E.put dst .undef) n h ((i,f)::recs)) recs
 |_=>False
def gN (k:dZ)(n0:Nat)(v:AV)(hj:Hp):Prop:=∀ nx h',n0<=nx->aE nx h'->(∀ t,t<n0->h'.get t=hj.get t)->k (.pan v) [] nx h'
def jF (L:Nat)(B:Nat->Prop)(k:dZ)(ps un:List (Nat×Nat))(n0 j:Nat)(v:AV)(hj:Hp):List Oper->Nat->List (Nat×Tmp)->Env->Nat->Hp->kO->Prop
 |[],_,_,_,_,_,recs=>Ew ps j (gN k n0 v hj) recs
 |o::l,i,ix,E,n,h,recs=>
  bif Ci un j i then
   qZ o.guard ix E
    (nF (E.knowsAll (dI o.op)&&iX L o.dst) (mV (fF P Gl E.eval o) n h [] [] [] fun r n' h' rs ws ns=>
     xD B (Dm ps i o.dst E recs (jF L B k ps un n0 j v hj l (i+1) (kQ ix i o.dst)) r n' h' (.plain rs ws ns)) ws))
    (nF (iX L o.dst) (jF L B k ps un n0 j v hj l (i+1) (kQ ix i o.dst) (E.put o.dst .undef) n h recs))
  else jF L B k ps un n0 j v hj l (i+1) ix E n h recs
def vNx (n0 n:Nat)(h:Hp)(k:Nat->Prop):Prop:=∀ nx,n0<=nx->nx<=n->(n0=n\/aE nx h)->k nx
def lO (L:Nat)(B:Nat->Prop)(k:dZ)(ps un:List (Nat×Nat))(n0:Nat):List Oper->Nat->List (Nat×Tmp)->Env->Nat->Hp->kO->Prop
 |[],_,_,E,n,h,_=>vNx n0 n h fun nx=>k .normal E nx h
 |o::l,i,ix,E,n,h,recs=>
  qZ o.guard ix E
   (nF (E.knowsAll (dI o.op)&&iX L o.dst) (mV (fF P Gl E.eval o) n h [] [] [] fun r n' h' rs ws ns=>
    xD B (vA P Gl Gm Kp ps i o.dst E B recs (lO L B k ps un n0 l (i+1) (kQ ix i o.dst)) (fun v n h recs=>jF P Gl L B k ps un n0 i v h l (i+1) ix E n h recs) r n' h' (.plain rs ws ns)) ws))
   (nF (iX L o.dst) (lO L B k ps un n0 l (i+1) (kQ ix i o.dst) (E.put o.dst .undef) n h recs))
end
def uK (ops : Array Oper) (ps un : List (Nat × Nat)) : Bool :=
  kD ops (jS ops) && ((List.range ops.size).all fun i => (List.range i).all fun j =>
    bif ((jS ops).getD i 0).testBit j then !Ci un j i else
      (match ops[i]?, ops[j]? with
       | some x, some y => (jP x.op || jP y.op || (kM x.op && kM y.op) || Ci ps j i) && (!oA y.op || Ci un j i)
       | _, _ => false))
theorem oT {ops:Array Oper}{ps un:List (Nat×Nat)}(h:uK ops ps un=true):kD ops (jS ops)=true/\∀ i j x y,j<i->ops[i]?=some x->ops[j]?=some y->
  (((jS ops).getD i 0).testBit j=true/\Ci un j i=false)\/
  (((jS ops).getD i 0).testBit j=false/\(jP x.op=true\/jP y.op=true\/(kM x.op=true/\kM y.op=true)\/Ci ps j i=true)/\(oA y.op=true->Ci un j i=true)):=by
 unfold uK at h;rw[Bool.and_eq_true]at h;refine⟨h.1,fun i j x y O U hy=>?_⟩;have h2:=List.all_eq_true.1 h.2 i (List.mem_range.2 (Array.getElem?_eq_some_iff.1 U).1);have M:=List.all_eq_true.1 h2 j (List.mem_range.2 O);cases hb:((jS ops).getD i 0).testBit j with
 |true=>rw[hb]at M;exact .inl ⟨rfl,by simpa using M⟩
 |false=>
  rw[hb]at M;simp only[U,hy,cond_false,Bool.and_eq_true,Bool.or_eq_true,Bool.not_eq_true']at M;refine .inr ⟨rfl,?_,fun Y=>?_⟩
  .rcases M.1 with((a | a) | a) | a
   .exact .inl a
   .exact .inr (.inl a)
   .exact .inr (.inr (.inl a))
   .exact .inr (.inr (.inr a))
  .rcases M.2 with a | a
   .rw[Y]at a;cases a
   .exact a
section
variable {P:Program}{Gl:qC6}{Gm:qC7}{Kp:qC8}
def TI (n:Nat):jK->Prop
 |.plain _ _ ns=>∀ t ∈ ns,n<=t
 |_=>True
structure Ju (ops:Array Oper)(n0 hi:Nat)(recs:kO)(r:Rec):Prop where
 lo:n0<=r.n
 hi:r.hi<=hi
 pu:∀ o,ops[r.i]?=some o->jP o.op=true->r.rd=0/\r.wr=0
 re:∀ o,ops[r.i]?=some o->kM o.op=true->r.wr=0
 ex:∃ o,ops[r.i]?=some o
 ft:(r.rd=0/\r.wr=0)\/∃ f,(r.i,f) ∈ recs/\dT r.rd f.R/\dT r.wr f.W/\TI r.n f
structure Ds (ops:Array Oper)(x:Ctx)(B:Nat->Prop)(n0:Nat)(h0:Hp)(E:Env)(recs:kO)(s:rQ):Prop where
 hE:E.at x s.act
 r0:n0<=s.ret
 r1:s.ret<=s.hi
 lt:aE s.hi s.hp
 wb:dT s.wr B
 keep:∀ t,s.wr.testBit t=false->s.hp.get t=h0.get t
 low:∀ t,(s.rd|||s.wr).testBit t=true->t<s.hi
 recs:∀ r ∈ s.recs,Ju ops n0 s.hi recs r
theorem Ju.more {ops:Array Oper}{n0 hi hi':Nat}{recs:kO}{q:Nat×jK}{r:Rec}(h:Ju ops n0 hi recs r)(hh:hi<=hi'):Ju ops n0 hi' (q::recs) r:=
 ⟨h.lo,Nat.le_trans h.hi hh,h.pu,h.re,h.ex,h.ft.imp id fun ⟨f,a,b⟩=>⟨f,List.mem_cons_of_mem _ a,b⟩⟩
theorem yM {a b:Nat}(h:∀ t,a.testBit t=true->b.testBit t=false):(a&&&b)=0:=by
 apply Nat.eq_of_testBit_eq;intro t;rw[Nat.testBit_and,Nat.zero_testBit];cases ha:a.testBit t with
 |false=>rfl
 |true=>rw[h t ha];rfl
theorem Fi {b rd wr:Nat}:∀{l:List Rec},(∀ r ∈ l,b.testBit r.i=true\/((wr&&&(r.rd|||r.wr))=0/\(rd&&&r.wr)=0))->clear b rd wr l=true
 |[],_=>rfl
 |r::rs,h=>by
  unfold clear;rw[Fi fun q M=>h q (List.mem_cons_of_mem _ M),Bool.and_true];rcases h r List.mem_cons_self with h | ⟨h1,h2⟩
  .rw[h];rfl
  .rw[h1,h2];simp
theorem vJ {ops:Array Oper}{ps un:List (Nat×Nat)}(hok:uK ops ps un=true){i:Nat}{o:Oper}(ho:ops[i]?=some o){n0 hi:Nat}{recs:kO}{rs:List Rec}(hr:∀ r ∈ rs,Ju ops n0 hi recs r)(hlt:∀ r ∈ rs,r.i<i)
  {f:jK}{rd wr:Nat} (hrd:dT rd f.R) (hwr:dT wr f.W) (hpu:jP o.op=true->rd=0/\wr=0) (hre:kM o.op=true->wr=0) (hc:∀ j g,(j,g) ∈ recs->Ci ps j i=true->apart f g) :
  clear ((jS ops).getD i 0) rd wr rs=true:=by
 obtain⟨_,U⟩:=oT hok;refine Fi fun r hm=>?_;have R:=hr r hm;obtain⟨y,hy⟩:=R.ex;rcases U i r.i o y (hlt r hm) ho hy with⟨h1,_⟩ | ⟨_,h2,_⟩
 .exact .inl h1
 .refine .inr ?_;rcases h2 with h2 | h2 | ⟨h2,h3⟩ | h2
  .obtain⟨rfl,rfl⟩:=hpu h2;exact⟨by simp,by simp⟩
  .obtain⟨O,M⟩:=R.pu y hy h2;rw[O,M];exact⟨by simp,by simp⟩
  .rw[hre h2,R.re y hy h3];exact⟨by simp,by simp⟩
  .rcases R.ft with⟨O,M⟩ | ⟨g,hg,b1,b2,_⟩
   .rw[O,M];exact⟨by simp,by simp⟩
   .obtain⟨a1,a2⟩:=Kb (hc r.i g hg h2);refine⟨yM fun t Y=>?_,yM fun t Y=>?_⟩
    .obtain⟨c1,c2⟩:=a1 t (hwr t Y);rw[Nat.testBit_or];cases O:r.rd.testBit t with
     |true=>exact absurd (b1 t O) c1
     |false=>
      cases M:r.wr.testBit t with
      |true=>exact absurd (b2 t M) c2
      |false=>rfl
    .cases M:r.wr.testBit t with
     |true=>exact absurd (b2 t M) (a2 t (hrd t Y))
     |false=>rfl
theorem Im {o:Oper}{ρ:Operand->AV}{n:Nat}{h:Hp}{m:Out iW}(e:C.am (fF P Gl ρ o) n h=some m):(jP o.op=true->m.rd=0/\m.wr=0)/\(kM o.op=true->m.wr=0):=
 ⟨fun hp=>by obtain⟨a,b⟩:=(Ge (Gl:=Gl) ρ o hp).run e;exact⟨b,a⟩,fun M=>(AE (Gl:=Gl) ρ o M).run e⟩
theorem Wa {o:Oper}{E:Env}{a:bE}{c:Ctx}(hE:E.at c a)(hk:E.knowsAll (dI o.op)=true){n:Nat}{h:Hp}(hl:aE n h){K:iW->Nat->Hp->List Nat->List Nat->List Nat->Prop}(hv:mV (fF P Gl E.eval o) n h [] [] [] K) :
  ∃ m rs ws ns,C.am (fF P Gl a.eval o) n h=some m/\Fr n h m/\m.hi=m.nx/\dT m.rd (jK.plain rs ws ns).R/\dT m.wr (jK.plain rs ws ns).W/\(∀ t ∈ ns,n<=t)/\K m.val m.nx m.hp rs ws ns:=by
 have U:fF P Gl E.eval o=fF P Gl a.eval o:=Fe P Gl o fun x hx=>hE.toof.eval (nK hk x hx);rw[U]at hv;obtain⟨m,rs,ws,ns,e,h1,h2,O,Y⟩:=wW _ hv (rd:=0) (wr:=0) cV cV;obtain⟨f1,f2⟩:=qCZ _ _ _ _ _ _ e hl (fun t M=>by simp at M);exact⟨m,rs,ws,ns,e,f2,f1,h1,h2,O n (Nat.le_refl _) (fun t M=>by cases M),Y⟩
theorem mT {anc u t:Nat}:∀{l:List Rec}{h:Hp},(gG h anc u l).get t=h.get t\/((gG h anc u l).get t=none/\∃ r ∈ l,r.n<=t/\t<r.hi)
 |[],h=>.inl rfl
 |r::rs,h=>by
  unfold gG;cases hc:(Nat.blt r.i u&&!anc.testBit r.i) with
  |false=>
   simp only[cond_false];exact(mT (l:=rs) (h:=h)).imp id fun ⟨a,q,hq,b⟩=>⟨a,q,List.mem_cons_of_mem _ hq,b⟩
  |true=>
   simp only[cond_true];rcases mT (l:=rs) (h:=Hp.cut r.n r.hi h) (anc:=anc) (u:=u) (t:=t) with h1 | ⟨a,q,hq,b⟩
   .by_cases M:r.n<=t/\t<r.hi
    .exact .inr ⟨by rw[h1,qCd,if_pos M],r,List.mem_cons_self,M⟩
    .exact .inl (by rw[h1,qCd,if_neg M])
   .exact .inr ⟨a,q,List.mem_cons_of_mem _ hq,b⟩
theorem zA {anc j:Nat}:∀{l:List Rec},(∀ r ∈ l,r.i=j\/anc.testBit r.i=true\/∀ t,r.wr.testBit t=true->r.n<=t)->nL anc j l=true
 |[],_=>rfl
 |r::rs,h=>by
  unfold nL;rw[zA fun q M=>h q (List.mem_cons_of_mem _ M),Bool.and_true];rcases h r List.mem_cons_self with h | h | h
  .simp[h]
  .simp[h]
  .have:r.wr % 2 ^ r.n=0:=by
    apply Nat.eq_of_testBit_eq;intro t;rw[Nat.testBit_mod_two_pow,Nat.zero_testBit];cases hw:r.wr.testBit t with
    |false=>simp
    |true=>have:=h t hw;simp<;>omega
   simp[this]
theorem Bb:∀(l:List Oper) (a:bE),(forget a l).tmps.length=a.tmps.length/\(forget a l).defers=a.defers/\(forget a l).rnd=a.rnd
 |[],a=>⟨rfl,rfl,rfl⟩
 |o::l,a=>by
  obtain⟨h1,h2,M⟩:=Bb l (a.put o.dst .unk);unfold forget;refine⟨h1.trans ?_,h2.trans (bE.put_ds _ _ _),M.trans (bE.put_rn _ _ _)⟩;cases o.dst<;>simp[bE.put]
theorem Av {o:Oper}{a:bE}{n:Nat}{h:Hp}{m:Out iW}(e:C.am (fF P Gl a.eval o) n h=some m)(hn:m.hi=m.nx){v:AV}(hm:m.val=.val v\/(m.val=.skip/\v=.undef)) :
  jU P Gl Gm Kp 1 o a n h=some {val:=.put v,nx:=m.nx,hi:=m.nx,hp:=m.hp,rd:=m.rd,wr:=m.wr}:=by
 have:=GM (Gm:=Gm) (Kp:=Kp) (r:=.put v) e (by
  rcases hm with hm | ⟨hm,rfl⟩
  .exact .inr (.inl ⟨v,hm,rfl⟩)
  .exact .inl ⟨hm,rfl⟩)
 rw[this];simp[Out.seq,hn]
theorem Ds.plain {ops:Array Oper}{x:Ctx}{B:Nat->Prop}{n0:Nat}{h0:Hp}{E:Env}{recs:kO}{s:rQ}(D:Ds ops x B n0 h0 E recs s){i:Nat}{o:Oper}(ho:ops[i]?=some o)(hB:∀ t,n0<=t->B t){m:Out iW}
  (e:C.am (fF P Gl s.act.eval o) s.hi s.hp=some m) (f:Fr s.hi s.hp m) (hn:m.hi=m.nx) {rs ws ns:List Nat} (h1:dT m.rd (jK.plain rs ws ns).R) (h2:dT m.wr (jK.plain rs ws ns).W) (h3:∀ t ∈ ns,s.hi<=t) (hw:∀ t ∈ ws,B t)
  (hd:iX x.L o.dst=true) (v:AV) (ret:Nat) (hr:ret=(bif Nat.blt s.hi m.nx then m.nx else s.ret)) :
  Ds ops x B n0 h0 (E.put o.dst v) ((i,.plain rs ws ns)::recs) {act:=s.act.put o.dst v,ret,hi:=m.nx,hp:=m.hp,recs:={i,n:=s.hi,hi:=m.nx,rd:=m.rd,wr:=m.wr}::s.recs,rd:=s.rd|||m.rd,wr:=s.wr|||m.wr} where
 hE:=D.hE.put hd v
 r0:=by
  have:=D.r0;have:=D.r1;have:=f.le;subst hr;cases Nat.blt s.hi m.nx<;>simp<;>omega
 r1:=by
  have:=D.r1;have:=f.le;subst hr;show (bif Nat.blt s.hi m.nx then m.nx else s.ret)<=m.nx;cases Nat.blt s.hi m.nx<;>simp<;>omega
 lt:=f.lt
 wb:=fun t M=>by
  simp only[Nat.testBit_or,Bool.or_eq_true]at M;rcases M with M | M
  .exact D.wb t M
  .rcases h2 t M with h | h
   .exact hw t h
   .exact hB t (by have:=h3 t h;have:=D.r0;have:=D.r1;omega)
 keep:=fun t M=>by
  simp only[Nat.testBit_or,Bool.or_eq_false_iff]at M;exact(f.keep t M.2).trans (D.keep t M.1)
 low:=fun t M=>by
  show t<m.nx;have U:=f.le;simp only[Nat.testBit_or,Bool.or_eq_true]at M;have q1:(s.rd|||s.wr).testBit t=true->t<m.nx:=fun h=>Nat.lt_of_lt_of_le (D.low t h) U;have q2:(m.rd|||m.wr).testBit t=true->t<m.nx:=fun h=>(by rw[<- hn];exact f.low t h);simp only[Nat.testBit_or,Bool.or_eq_true]at q1 q2;rcases M with(M | M) | (M | M)
  .exact q1 (.inl M)
  .exact q2 (.inl M)
  .exact q1 (.inr M)
  .exact q2 (.inr M)
 recs:=fun r Y=>by
  rcases List.mem_cons.1 Y with rfl | Y
  .obtain⟨k1,k2⟩:=Im e;refine⟨Nat.le_trans D.r0 D.r1,Nat.le_refl _,fun o' O hp=>?_,fun o' O hp=>?_,⟨o,ho⟩,.inr ⟨_,List.mem_cons_self,h1,h2,h3⟩⟩
   .rw[ho]at O;cases O;exact k1 hp
   .rw[ho]at O;cases O;exact k2 hp
  .exact(D.recs r Y).more f.le
theorem Ds.skip {ops:Array Oper}{x:Ctx}{B:Nat->Prop}{n0:Nat}{h0:Hp}{E:Env}{recs:kO}{s:rQ}(D:Ds ops x B n0 h0 E recs s){i:Nat}{o:Oper}(ho:ops[i]?=some o)(hd:iX x.L o.dst=true) :
  Ds ops x B n0 h0 (E.put o.dst .undef) recs {s with act:=s.act.put o.dst .undef,recs:={i,n:=s.hi,hi:=s.hi,rd:=0,wr:=0}::s.recs} where
 hE:=D.hE.put hd _
 r0:=D.r0
 r1:=D.r1
 lt:=D.lt
 wb:=D.wb
 keep:=D.keep
 low:=D.low
 recs:=fun r M=>by
  rcases List.mem_cons.1 M with rfl | M
  .exact⟨Nat.le_trans D.r0 D.r1,Nat.le_refl _,fun _ _ _=>⟨rfl,rfl⟩,fun _ _ _=>rfl,⟨o,ho⟩,.inl ⟨rfl,rfl⟩⟩
  .exact D.recs r M
theorem rC {x:Ctx}{B:Nat->Prop}{k:dZ}{ops:Array Oper}{ps un:List (Nat×Nat)}(hok:uK ops ps un=true){n0:Nat}{h0:Hp}(hl0:aE n0 h0)(hB:∀ t,n0<=t->B t){j:Nat}{oj:Oper}(hoj:ops[j]?=some oj)(hcj:oA oj.op=true){v:AV}{hj:Hp} :
  ∀(l:List Oper) (i:Nat) (ix:List (Nat×Tmp)) (E:Env) (recs:kO) (s:rQ),j<i->(∀ q,ops[i+q]?=l[q]?)->Ph ops ix->(∀ r ∈ s.recs,r.i<i)->Ds ops x B n0 h0 E recs s->aE s.hi hj->(∀ t,s.wr.testBit t=false->hj.get t=h0.get t)->
  jF P Gl x.L B k ps un n0 j v hj l i ix E s.hi s.hp recs->
  ∃ F out E',gR P Gl Gm Kp F ops (jS ops) j i l v hj s=some out/\Fr n0 h0 out/\dT out.wr B/\Env.at x E' out.val.2/\k out.val.1 E' out.nx out.hp
 |[],i,ix,E,recs,s,hji,hops,hix,hlt,D,hlj,hkj,hv=>by
  unfold jF at hv;obtain⟨h1,h2⟩:=Dh hv;have a5:nL ((jS ops).getD j 0) j s.recs=true:=by
   refine zA fun r M=>?_;have R:=D.recs r M;rcases Nat.lt_trichotomy r.i j with hc | hc | hc
   .obtain⟨y,hy⟩:=R.ex;rcases (oT hok).2 j r.i oj y hc hoj hy with⟨a,_⟩ | ⟨_,a,_⟩
    .exact .inr (.inl a)
    .refine .inr (.inr ?_);have a6:jP oj.op=false/\kM oj.op=false:=by
      revert hcj;cases oj.op<;>simp[oA,jP,kM]
      rename_i c;obtain⟨cl,ar,at'⟩:=c;cases cl<;>simp[oA,kM,jP]
     rcases a with a | a | ⟨a,_⟩ | a
     .rw[a6.1]at a;cases a
     .intro t O;rw[(R.pu y hy a).2]at O;simp at O
     .rw[a6.2]at a;cases a
     .rcases R.ft with⟨_,e2⟩ | ⟨f,hf,_,b2,b3⟩
      .intro t O;rw[e2]at O;simp at O
      .intro t O;rcases h2 r.i f hf with c1 | ⟨_,c1⟩ | c1
       .omega
       .rw[a]at c1;cases c1
       .cases f with
        |plain rs ws ns=>
         simp only[AF]at c1;subst c1;rcases b2 t O with h | h
         .cases h
         .exact b3 t h
        |call _ _ _=>exact c1.elim
   .exact .inl hc
   .refine .inr (.inr ?_);rcases R.ft with⟨_,e2⟩ | ⟨f,hf,_,b2,b3⟩
    .intro t O;rw[e2]at O;simp at O
    .intro t O;rcases h2 r.i f hf with c1 | ⟨c1,_⟩ | c1
     .omega
     .omega
     .cases f with
      |plain rs ws ns=>
       simp only[AF]at c1;subst c1;rcases b2 t O with h | h
       .cases h
       .exact b3 t h
      |call _ _ _=>exact c1.elim
  have a4:=fun t=>mT (anc:=(jS ops).getD j 0) (u:=j) (t:=t) (l:=s.recs) (h:=hj);have a3:aE s.hi (gG hj ((jS ops).getD j 0) j s.recs):=fun t O=>by
   rcases a4 t with h | ⟨h,_⟩
   .rw[h];exact hlj t O
   .exact h
  obtain⟨g1,g2,g3⟩:=Bb ops.toList s.act;refine⟨0,{val:=(.pan v,forget s.act ops.toList),nx:=s.hi,hi:=s.hi,hp:=gG hj ((jS ops).getD j 0) j s.recs,rd:=s.rd,wr:=s.wr},[],?_,?_,D.wb,⟨Env.of.nil (g1.trans D.hE.toof.len),g2.trans D.hE.ds,g3.trans D.hE.rn⟩,?_⟩
  .unfold gR;rw[a5];rfl
  .refine⟨Nat.le_trans D.r0 D.r1,Nat.le_refl _,a3,fun t O=>?_,D.low⟩;show (gG hj ((jS ops).getD j 0) j s.recs).get t=_;rcases a4 t with h | ⟨h,r,M,h3,_⟩
   .rw[h];exact hkj t O
   .rw[h,hl0 t (Nat.le_trans (D.recs r M).lo h3)]
  .refine h1 s.hi _ (Nat.le_trans D.r0 D.r1) a3 fun t O=>?_;rcases a4 t with h | ⟨h,r,M,h3,_⟩
   .exact h
   .have:=(D.recs r M).lo;omega
 |o::l,i,ix,E,recs,s,hji,hops,hix,hlt,D,hlj,hkj,hv=>by
  have U:∀ q,ops[i+1+q]?=l[q]?:=fun q=>(by have:=hops (q+1);rw[show i+(q+1)=i+1+q by omega]at this;simpa using this);have ho:ops[i]?=some o:=(by simpa using hops 0);unfold jF at hv;rcases (oT hok).2 i j o oj hji ho hoj with⟨hb,hu⟩ | ⟨hb,_,hu⟩
  .rw[hu]at hv;obtain⟨F,out,E',e,r⟩:=rC hok hl0 hB hoj hcj l (i+1) ix E recs s om U hix (fun r M=>by have:=hlt r M;omega) D hlj hkj hv;exact⟨F+1,out,E',by unfold gR;rw[hb];exact e,r⟩
  .rw[hu hcj]at hv;simp only[cond_true]at hv;obtain⟨hg,M | M⟩:=xS hix D.hE hv
   .obtain⟨hw,a1,M⟩:=M;rw[Bool.and_eq_true]at a1;obtain⟨m,rs,ws,ns,e,f,hn,h1,h2,h3,Y⟩:=Wa D.hE a1.1 D.lt M;obtain⟨a8,Y⟩:=rA Y;obtain⟨k1,k2⟩:=Im e;have go:∀ v',(m.val=.val v'\/(m.val=.skip/\v'=.undef))->fK ps i (.plain rs ws ns) (jF P Gl x.L B k ps un n0 j v hj l (i+1) (kQ ix i o.dst) (E.put o.dst v') m.nx m.hp ((i,.plain rs ws ns)::recs)) recs->
      ∃ F out E',gR P Gl Gm Kp F ops (jS ops) j i (o::l) v hj s=some out/\Fr n0 h0 out/\dT out.wr B/\Env.at x E' out.val.2/\k out.val.1 E' out.nx out.hp:=by
     intro v' hm Y;obtain⟨Y,a7⟩:=mB Y;have a2:=vJ hok ho D.recs hlt h1 h2 k1 k2 a7;have e1:=Av (Gm:=Gm) (Kp:=Kp) e hn hm;have D0:=D.plain ho hB e f hn h1 h2 h3 a8 a1.2 v' _ rfl;have D':Ds ops x B n0 h0 (E.put o.dst v') ((i,.plain rs ws ns)::recs) {act:=s.act.put o.dst v',ret:=s.ret,hi:=m.nx,hp:=m.hp,recs:={i,n:=s.hi,hi:=m.nx,rd:=m.rd,wr:=m.wr}::s.recs,rd:=s.rd|||m.rd,wr:=s.wr|||m.wr}:=
      ⟨D0.hE,D.r0,Nat.le_trans D.r1 f.le,D0.lt,D0.wb,D0.keep,D0.low,D0.recs⟩
     obtain⟨F,out,E',e2,r⟩:=rC hok hl0 hB hoj hcj l (i+1) _ _ _ _ om U (hix.put ho) (fun r M=>by
      rcases List.mem_cons.1 M with rfl | M
      .show i<i+1;omega
      .have:=hlt r M;omega) D' (fun t O=>hlj t (Nat.le_trans f.le O)) (fun t O=>hkj t (by
       simp only[Nat.testBit_or,Bool.or_eq_false_iff]at O;exact O.1)) Y
     refine⟨F+2,out,E',?_,r⟩;unfold gR;rw[hb];simp only[cond_false,hg,hw,cond_true];rw[pP (Nat.le_add_left 1 F) o _ _ _ _ e1];simp only[a2,cond_true];exact(gC F).rest _ _ _ _ _ _ _ _ _ e2
    unfold Dm at Y;cases hmv:m.val with
    |val v'=>rw[hmv]at Y;exact go v' (.inl hmv) Y
    |skip=>rw[hmv]at Y;exact go .undef (.inr ⟨hmv,rfl⟩) Y
    |_=>rw[hmv]at Y;exact Y.elim
   .obtain⟨hw,a1,M⟩:=M;obtain⟨F,out,E',e2,r⟩:=rC hok hl0 hB hoj hcj l (i+1) _ _ _ _ om U (hix.put ho) (fun r M=>by
      rcases List.mem_cons.1 M with rfl | M
      .show i<i+1;omega
      .have:=hlt r M;omega) (D.skip ho a1) hlj hkj M
    refine⟨F+1,out,E',?_,r⟩;unfold gR;rw[hb];simp only[cond_false,hg,hw,cond_true];exact e2
theorem Ye {f k:Nat}(hk:f<=k){ops:Array Oper}{bf:List Nat}{i:Nat}{l:List Oper}{s:rQ}{out:Out (mQ×bE)}(e:fX P Gl Gm Kp f ops bf i l s=some out):fX P Gl Gm Kp k ops bf i l s=some out:=by
 induction hk with
 |refl=>exact e
 |step _ ih=>exact(gC _).draw _ _ _ _ _ _ ih
theorem BB {f k:Nat}(hk:f<=k){ops:Array Oper}{bf:List Nat}{j i:Nat}{l:List Oper}{v:AV}{h:Hp}{s:rQ}{out:Out (mQ×bE)}(e:gR P Gl Gm Kp f ops bf j i l v h s=some out):gR P Gl Gm Kp k ops bf j i l v h s=some out:=by
 induction hk with
 |refl=>exact e
 |step _ ih=>exact(gC _).rest _ _ _ _ _ _ _ _ _ ih
inductive AM.Al {α:Type} (p:α->Prop):AM α->Prop where
 |ret (a:α) (h:p a):AM.Al p (.ret a)
 |fail:AM.Al p .fail
 |get (o:Nat) (k:aK->AM α) (h:∀ x,AM.Al p (k x)):AM.Al p (.get o k)
 |set (o:Nat) (x:aK) (k:AM α) (h:AM.Al p k):AM.Al p (.set o x k)
 |new (x:aK) (k:Nat->AM α) (h:∀ n,AM.Al p (k n)):AM.Al p (.new x k)
 |del (o:Nat) (k:AM α) (h:AM.Al p k):AM.Al p (.del o k)
theorem AM.Al.bind {α β:Type}{p:β->Prop}{f:α->AM β}(hf:∀ a,AM.Al p (f a)):∀ m:AM α,AM.Al p (m.bind f)
 |.ret a=>hf a
 |.fail=>.fail
 |.get o k=>.get o _ fun x=>AM.Al.bind hf (k x)
 |.set o x k=>.set o x _ (AM.Al.bind hf k)
 |.new x k=>.new x _ fun n=>AM.Al.bind hf (k n)
 |.del o k=>.del o _ (AM.Al.bind hf k)
theorem AM.Al.run {α:Type}{p:α->Prop}{m:AM α}(h:AM.Al p m):∀{n:Nat}{hp:Hp}{rd wr:Nat}{out:Out α},m.run n hp rd wr=some out->p out.val:=by
 induction h with
 |ret a h=>intro n hp rd wr out e;cases e;exact h
 |fail=>intro n hp rd wr out e;cases e
 |get o k _ ih=>
  intro n hp rd wr out e;unfold AM.run at e;split at e
  .exact ih _ e
  .cases e
 |set o x k _ ih=>
  intro n hp rd wr out e;unfold AM.run at e;split at e
  .exact ih e
  .cases e
 |new x k _ ih=>intro n hp rd wr out e;exact ih _ e
 |del o k _ ih=>
  intro n hp rd wr out e;unfold AM.run at e;split at e
  .exact ih e
  .cases e
def noEnter:iW->Prop
 |.enter _ _=>False
 |_=>True
theorem DJ (m:AM AV):AM.Al noEnter (m.bind oK):=AM.Al.bind (fun _=>.ret _ trivial) m
theorem al_u (m:AM Unit):AM.Al noEnter (m.bind HW):=AM.Al.bind (fun _=>.ret _ trivial) m
theorem Xn {f:FuncId}{args:List AV}{n:Nat}{h:Hp}{m:Out iW}(e:(aT P f args).run n h 0 0=some m):m={val:=.enter f args,nx:=n,hi:=n,hp:=h,rd:=0,wr:=0}:=by
 unfold aT at e;cases hf:P.funcs[f]? with
 |none=>rw[hf]at e;cases e
 |some fn=>
  rw[hf]at e;simp only at e;cases hb:fn.body with
  |none=>rw[hb]at e;cases e
  |some c=>
   rw[hb]at e;simp only at e
   cases hn : fn.name == "runtime.NumGoroutine" with
   |true=>rw[hn]at e;cases e
   |false=>rw[hn]at e;cases e;rfl
theorem Qo {o:Oper}{ρ:Operand->AV}{n:Nat}{h:Hp}{m:Out iW}(e:C.am (fF P Gl ρ o) n h=some m){g:FuncId}{args:List AV}(hv:m.val=.enter g args) :
  oA o.op=true/\m.rd=0/\m.wr=0/\m.nx=n/\m.hp=h:=by
 have M:AM.Al noEnter (fF P Gl ρ o)->oA o.op=true/\m.rd=0/\m.wr=0/\m.nx=n/\m.hp=h:=fun Y=>by
  have:=Y.run e;rw[hv]at this;exact this.elim
 obtain⟨d,op,ty,pos,af,gd⟩:=o;cases op<;>first | exact M .fail | exact M (DJ _) | exact M (al_u _) | exact M (.ret _ trivial) | skip
 case pick c a b=>exact M (by rw[Af];unfold Wj;split<;>constructor;trivial)
 case alloc t=>exact M (by
  rw[Fb];unfold Pn;cases bK P t with
  |none=>exact .fail
  |some z=>
   cases hz:z.whole
   .simp only[hz,cond_false];exact .fail
   .simp only[hz,cond_true];exact .new _ _ fun _=>.ret _ trivial)
 case box t x=>exact M (by
  rw[Vm];cases (ρ x).whole
  .exact .fail
  .exact .new _ _ fun _=>.ret _ trivial)
 case nilCheck x=>exact M (by rw[qD];unfold nQ;split<;>first | exact .fail | exact .ret _ trivial)
 case makeInterface t x=>exact M (by rw[lA];unfold Bu;split<;>first | exact .fail | exact .ret _ trivial)
 case makeFunc f a c=>exact M (by cases f<;>first | exact .fail | exact .ret _ trivial)
 case makeMap t r=>exact M (by
  simp only[fF];cases r with
  |none=>exact .new _ _ fun _=>.ret _ trivial
  |some x=>
   repeat' (first | exact AM.Al.fail | exact AM.Al.new _ _ fun _=>AM.Al.ret _ trivial | split))
 case range t x=>exact M (by
  simp only[fF];split
  .exact .new _ _ fun _=>.ret _ trivial
  .exact .fail)
 case extract t i=>exact M (by
  rw[rX];unfold pQ;split
  .split<;>first | exact .fail | exact .ret _ trivial
  .exact .fail)
 case panic x=>exact M (by rw[Ff];unfold Cg;split<;>first | exact .fail | exact .ret _ trivial)
 case defer c=>exact M (by
  simp only[fF];split
  .split<;>first | exact .fail | exact .ret _ trivial
  .exact .fail)
 case call c=>
  obtain⟨callee,U,O⟩:=c;cases callee with
  |value f=>
   refine⟨rfl,?_⟩;have e:(Ao P (ρ f) (U.toList.map ρ)).run n h 0 0=some m:=e;unfold Ao at e;split at e
   .have:=Xn e;subst this;exact⟨rfl,rfl,rfl,rfl⟩
   .cases e;cases hv
   .cases e
  |invoke r mt=>exact M .fail
  |builtin b=>exact M (by
    simp only[fF];generalize U.toList.map ρ=l;split
    .cases O.size==2
     .exact .fail
     .exact DJ _
    .exact DJ _
    .exact DJ _
    .exact DJ _
    .exact .ret _ trivial
    .exact .ret _ trivial
    .exact .fail)
theorem Fh {o:Op}(h:oA o=true):jP o=false/\kM o=false:=by
 revert h;cases o<;>simp[oA,jP,kM]
 rename_i c;obtain⟨cl,M,at'⟩:=c;cases cl<;>simp[oA,kM,jP]
theorem rB {x:Ctx}{B:Nat->Prop}{k:dZ}{ops:Array Oper}{ps un:List (Nat×Nat)}(hok:uK ops ps un=true){n0:Nat}{h0:Hp}(hl0:aE n0 h0)(hB:∀ t,n0<=t->B t) :
  ∀(l:List Oper) (i:Nat) (ix:List (Nat×Tmp)) (E:Env) (recs:kO) (s:rQ),(∀ q,ops[i+q]?=l[q]?)->Ph ops ix->(∀ r ∈ s.recs,r.i<i)->Ds ops x B n0 h0 E recs s->
  lO P Gl Gm Kp x.L B k ps un n0 l i ix E s.hi s.hp recs->
  ∃ F out E',fX P Gl Gm Kp F ops (jS ops) i l s=some out/\Fr n0 h0 out/\dT out.wr B/\Env.at x E' out.val.2/\k out.val.1 E' out.nx out.hp
 |[],i,ix,E,recs,s,hops,hix,hlt,D,hv=>by
  unfold lO at hv;have a5:n0<=(bif Hp.below s.ret s.hp then s.ret else s.hi)/\(bif Hp.below s.ret s.hp then s.ret else s.hi)<=s.hi/\aE (bif Hp.below s.ret s.hp then s.ret else s.hi) s.hp:=by
   have:=D.r0;have:=D.r1;cases hb:Hp.below s.ret s.hp with
   |true=>exact⟨this |> fun _=>D.r0,D.r1,uI hb⟩
   |false=>exact⟨Nat.le_trans D.r0 D.r1,Nat.le_refl _,D.lt⟩
  exact⟨0,{val:=(.normal,s.act),nx:=(bif Hp.below s.ret s.hp then s.ret else s.hi),hi:=s.hi,hp:=s.hp,rd:=s.rd,wr:=s.wr},E,by unfold fX;rfl,⟨a5.1,a5.2.1,a5.2.2,D.keep,D.low⟩,D.wb,D.hE,hv _ a5.1 a5.2.1 (.inr a5.2.2)⟩
 |o::l,i,ix,E,recs,s,hops,hix,hlt,D,hv=>by
  have a2:∀ q,ops[i+1+q]?=l[q]?:=fun q=>(by have:=hops (q+1);rw[show i+(q+1)=i+1+q by omega]at this;simpa using this);have ho:ops[i]?=some o:=(by simpa using hops 0);unfold lO at hv;obtain⟨hg,hr | hr⟩:=xS hix D.hE hv
  .obtain⟨hw,a4,hr⟩:=hr;rw[Bool.and_eq_true]at a4;obtain⟨m,rs,ws,ns,e,f,hn,h1,h2,h3,hK⟩:=Wa D.hE a4.1 D.lt hr;obtain⟨ai,hK⟩:=rA hK;obtain⟨k1,k2⟩:=Im e;have go:∀ v',(m.val=.val v'\/(m.val=.skip/\v'=.undef))->fK ps i (.plain rs ws ns) (lO P Gl Gm Kp x.L B k ps un n0 l (i+1) (kQ ix i o.dst) (E.put o.dst v') m.nx m.hp ((i,.plain rs ws ns)::recs)) recs->
     ∃ F out E',fX P Gl Gm Kp F ops (jS ops) i (o::l) s=some out/\Fr n0 h0 out/\dT out.wr B/\Env.at x E' out.val.2/\k out.val.1 E' out.nx out.hp:=by
    intro v' hm hK;obtain⟨hK,a6⟩:=mB hK;have a1:=vJ hok ho D.recs hlt h1 h2 k1 k2 a6;have e1:=Av (Gm:=Gm) (Kp:=Kp) e hn hm;have D':=D.plain ho hB e f hn h1 h2 h3 ai a4.2 v' _ rfl;obtain⟨F,out,E',e2,r⟩:=rB hok hl0 hB l (i+1) _ _ _ _ a2 (hix.put ho) (fun r hr=>by
     rcases List.mem_cons.1 hr with rfl | hr
     .show i<i+1;omega
     .have:=hlt r hr;omega) D' hK
    refine⟨F+2,out,E',?_,r⟩;unfold fX;simp only[hg,hw,cond_true];rw[pP (Nat.le_add_left 1 F) o _ _ _ _ e1];simp only[a1,cond_true];exact(gC F).draw _ _ _ _ _ _ e2
   unfold vA at hK;cases hmv:m.val with
   |val v'=>rw[hmv]at hK;exact go v' (.inl hmv) hK
   |skip=>rw[hmv]at hK;exact go .undef (.inr ⟨hmv,rfl⟩) hK
   |enter g args=>
    rw[hmv]at hK;obtain⟨Bd,ag,hK⟩:=Pk.ok hK;obtain⟨F1,M,e1,f1,w1,q1⟩:=hK.ok f.lt;obtain⟨p,e2,rfl⟩:=Wb e hmv e1;have ac:Nat.max m.hi (Nat.max M.hi M.nx)=M.hi:=by
     have:=f1.le;have:=f1.hi;rw[hn];simp only[Nat.max_def]
     repeat' split
     all_goals omega
    have a7:aE M.hi M.hp:=fun t Y=>f1.lt t (Nat.le_trans f1.hi Y);have q2:=q1 M.hi f1.hi a7;obtain⟨a3,O⟩:=Qo e hmv;have ab:dT (m.wr|||(M.wr|||0)) (jK.call Bd m.nx M.hi).W:=fun t Y=>by
     simp only[Nat.testBit_or,Bool.or_eq_true,O.2.1,Nat.zero_testBit,Bool.false_eq_true,false_or,or_false]at Y;exact⟨f1.low t (by simp[Y]),fun ae=>w1 t Y ae⟩
    have aa:dT (m.rd|||(M.rd|||0)) (jK.call Bd m.nx M.hi).R:=fun t Y=>by
     simp only[Nat.testBit_or,Bool.or_eq_true,O.1,Nat.zero_testBit,Bool.false_eq_true,false_or,or_false]at Y;exact f1.low t (by simp[Y])
    have U:jP o.op=false/\kM o.op=false/\oA o.op=true:=⟨(Fh a3).1,(Fh a3).2,a3⟩;have mk:∀(E1:Env) (act:bE),E1.at x act->Ds ops x B n0 h0 E1 ((i,.call Bd m.nx M.hi)::recs)
      {act,ret:=(bif Nat.blt s.hi M.nx then M.nx else s.ret),hi:=M.hi,hp:=M.hp,recs:={i,n:=s.hi,hi:=M.hi,rd:=m.rd|||(M.rd|||0),wr:=m.wr|||(M.wr|||0)}::s.recs,rd:=s.rd|||(m.rd|||(M.rd|||0)),wr:=s.wr|||(m.wr|||(M.wr|||0))}:=by
     intro E1 act ah;have ad:s.hi<=M.nx:=(by have:=f1.le;rw[O.2.2.1]at this;exact this);refine⟨ah,?_,?_,a7,fun t Y=>?_,fun t Y=>?_,fun t Y=>?_,fun r hm=>?_⟩
     .have:=D.r0;have:=D.r1;show n0<=(bif Nat.blt s.hi M.nx then M.nx else s.ret);cases Nat.blt s.hi M.nx<;>simp<;>omega
     .have:=D.r1;have:=f1.hi;show (bif Nat.blt s.hi M.nx then M.nx else s.ret)<=M.hi;cases Nat.blt s.hi M.nx<;>simp<;>omega
     .simp only[Nat.testBit_or,Bool.or_eq_true,O.2.1,Nat.zero_testBit,Bool.false_eq_true,false_or,or_false]at Y;rcases Y with Y | Y
      .exact D.wb t Y
      .by_cases hc:t<m.nx
       .exact ag t hc (w1 t Y hc)
       .exact hB t (by have:=D.r0;have:=D.r1;rw[O.2.2.1]at hc;omega)
     .simp only[Nat.testBit_or,Bool.or_eq_false_iff]at Y;have:=f1.keep t Y.2.2.1;rw[show ({act,ret:=(bif Nat.blt s.hi M.nx then M.nx else s.ret),hi:=M.hi,hp:=M.hp,recs:={i,n:=s.hi,hi:=M.hi,rd:=m.rd|||(M.rd|||0),wr:=m.wr|||(M.wr|||0)}::s.recs,rd:=s.rd|||(m.rd|||(M.rd|||0)),wr:=s.wr|||(m.wr|||(M.wr|||0))}:rQ).hp=M.hp from rfl,this,O.2.2.2];exact D.keep t Y.1
     .show t<M.hi;have q1:(s.rd|||s.wr).testBit t=true->t<M.hi:=fun h=>Nat.lt_of_lt_of_le (D.low t h) (Nat.le_trans ad f1.hi);have q2:(M.rd|||M.wr).testBit t=true->t<M.hi:=fun h=>f1.low t h;simp only[Nat.testBit_or,Bool.or_eq_true]at q1 q2;simp only[Nat.testBit_or,Bool.or_eq_true,O.1,O.2.1,Nat.zero_testBit,Bool.false_eq_true,false_or,or_false]at Y;rcases Y with(Y | Y) | (Y | Y)
      .exact q1 (.inl Y)
      .exact q2 (.inl Y)
      .exact q1 (.inr Y)
      .exact q2 (.inr Y)
     .rcases List.mem_cons.1 hm with rfl | hm
      .refine⟨Nat.le_trans D.r0 D.r1,Nat.le_refl _,fun o' a8 hp=>?_,fun o' a8 hp=>?_,⟨o,ho⟩,.inr ⟨_,List.mem_cons_self,aa,ab,trivial⟩⟩
       .rw[ho]at a8;cases a8;rw[U.1]at hp;cases hp
       .rw[ho]at a8;cases a8;rw[U.2.1]at hp;cases hp
      .exact(D.recs r hm).more (Nat.le_trans ad f1.hi)
    unfold xL at q2;have a9:∀ r ∈ ({i,n:=s.hi,hi:=M.hi,rd:=m.rd|||(M.rd|||0),wr:=m.wr|||(M.wr|||0)}::s.recs:List Rec),r.i<i+1:=fun r hr=>by
     rcases List.mem_cons.1 hr with rfl | hr
     .show i<i+1;omega
     .have:=hlt r hr;omega
    cases hov:M.val with
    |returned v=>
     rw[hov]at q2;obtain⟨q2,a6⟩:=mB q2;have a1:=vJ hok ho D.recs hlt aa ab (fun h=>by rw[U.1]at h;cases h) (fun h=>by rw[U.2.1]at h;cases h) a6;obtain⟨F2,out,E',e3,r⟩:=rB hok hl0 hB l (i+1) _ _ _ _ a2 (hix.put ho) a9 (mk (E.put o.dst v) (s.act.put o.dst v) (D.hE.put a4.2 v)) q2;refine⟨max (F1+1) F2+1,out,E',?_,r⟩;unfold fX;simp only[hg,hw,cond_true];rw[pP (Nat.le_max_left (F1+1) F2) o _ _ _ _ e2];simp only[Out.seq,hov,ac,a1,cond_true];exact Ye (Nat.le_max_right (F1+1) F2) e3
    |panicked v=>
     rw[hov]at q2;obtain⟨q2,a6⟩:=mB q2;have a1:=vJ hok ho D.recs hlt aa ab (fun h=>by rw[U.1]at h;cases h) (fun h=>by rw[U.2.1]at h;cases h) a6;have D0:=mk E s.act D.hE;obtain⟨F2,out,E',e3,r⟩:=rC (Gm:=Gm) (Kp:=Kp) hok hl0 hB ho U.2.2 l (i+1) ix E _ {act:=s.act,ret:=s.ret,hi:=M.hi,hp:=M.hp,recs:={i,n:=s.hi,hi:=M.hi,rd:=m.rd|||(M.rd|||0),wr:=m.wr|||(M.wr|||0)}::s.recs,rd:=s.rd|||(m.rd|||(M.rd|||0)),wr:=s.wr|||(m.wr|||(M.wr|||0))}
      om a2 hix a9 ⟨D0.hE,D.r0,Nat.le_trans D.r1 (Nat.le_trans (by have:=f1.le;rw[O.2.2.1]at this;exact this) f1.hi),D0.lt,D0.wb,D0.keep,D0.low,D0.recs⟩ a7 D0.keep q2
     refine⟨max (F1+1) F2+1,out,E',?_,r⟩;unfold fX;simp only[hg,hw,cond_true];rw[pP (Nat.le_max_left (F1+1) F2) o _ _ _ _ e2];simp only[Out.seq,hov,ac,a1,cond_true];exact BB (Nat.le_max_right (F1+1) F2) e3
   |_=>rw[hmv]at hK;exact hK.elim
  .obtain⟨hw,a4,hr⟩:=hr;obtain⟨F,out,E',e2,r⟩:=rB hok hl0 hB l (i+1) _ _ _ _ a2 (hix.put ho) (fun r hr=>by
     rcases List.mem_cons.1 hr with rfl | hr
     .show i<i+1;omega
     .have:=hlt r hr;omega) (D.skip ho a4) hr
   refine⟨F+1,out,E',?_,r⟩;unfold fX;simp only[hg,hw,cond_true,cond_false];exact e2
theorem bF.draw {x:Ctx}{E:Env}{n:Nat}{h:Hp}{B:Nat->Prop}{k:dZ}{id:Nat}{ops:List Oper}(ps un:List (Nat×Nat))(hok:uK ops.toArray ps un=true)(w:lO P Gl Gm Kp x.L B k ps un n ops 0 [] E n h []) :
  bF P Gl Gm Kp x (.region id ops.toArray true) E n h B k:=by
 refine⟨fun a hE O U=>?_⟩;obtain⟨F,out,E',e,r⟩:=rB (ops:=ops.toArray) hok O U ops 0 [] E [] {act:=a,ret:=n,hi:=n,hp:=h,recs:=[],rd:=0,wr:=0} (fun j=>by simp) (fun j d e=>by cases e) (fun r M=>by cases M)
  ⟨hE,Nat.le_refl _,Nat.le_refl _,O,cV,fun _ _=>rfl,fun t Y=>by simp at Y,fun r M=>by cases M⟩ w
 refine⟨F+1,out,E',?_,r⟩;unfold bD;simp only[(oT hok).1,cond_true];exact e
theorem Fa.draw {x:Ctx}{E:Env}{n:Nat}{h:Hp}{B:Nat->Prop}{k:dZ}{id:Nat}{ops:List Oper}(ps un:List (Nat×Nat))(hok:uK ops.toArray ps un=true)(w:lO P Gl Gm Kp x.L B k ps un n ops 0 [] E n h []) :
  Fa P Gl Gm Kp x (.region id ops.toArray true) E n h B k:=⟨bF.draw ps un hok w⟩
theorem IC (n:Nat)(h:Hp)(k:Nat->Prop):vNx n n h k=k n:=by
 unfold vNx;apply propext;exact⟨fun h=>h n (Nat.le_refl _) (Nat.le_refl _) (.inl rfl),fun h nx a b _=>by obtain rfl:=Nat.le_antisymm a b;exact h⟩
end
universe u
structure Tg {α:Sort u}(a:α):Type where
def rN (b:Bool)(X:Prop)(_:Tg X):Prop:=nF b X
def ZB (b:Bool)(X Y:Prop)(_:Tg X)(_:Tg Y):Prop:=NV b X Y
def Mm (v:AV)(X Y:Prop)(_:Tg X)(_:Tg Y):Prop:=uC v X Y
def Sn {α:Type}(m:AM α)(n:Nat)(h:Hp)(rs ws ns:List Nat)(k:α->Nat->Hp->List Nat->List Nat->List Nat->Prop)(_:Tg k):Prop:=mV m n h rs ws ns k
def NF (x:Option aK)(k:aK->Prop)(_:Tg k):Prop:=pU x k
def ZA (x:Option aK)(k:Nat->List AV->Prop)(_:Tg k):Prop:=GE x k
def bY (A X:Prop)(_:Tg X):Prop:=A/\X
def eL (n0 n:Nat)(h:Hp)(k:Nat->Prop)(_:Tg k):Prop:=vNx n0 n h k
def aC (n:Nat)(h:Hp)(k:Nat->Prop)(_:Tg k):Prop:=∀ n',n<=n'->aE n' h->k n'
def AG (b:Bool)(X Y:Prop)(_:Tg X)(_:Tg Y):Prop:=bif b then X else Y
section
variable (P:Program)(Gl:qC6)(Gm:qC7)(Kp:qC8)
def aA (f:FuncId)(args:List AV)(n:Nat)(h:Hp)(B:Nat->Prop)(Q:aS->Nat->Hp->Prop)(_:Tg Q):Prop:=aG P Gl Gm Kp f args n h B Q
def qT (f:Nat)(args:List AV)(n:Nat)(h:Hp)(B:Nat->Prop)(Q:aS->Nat->Hp->Prop)(_:Tg Q):Prop:=fI P Gl Gm Kp f args n h B Q
def aZ (f:FuncId)(args:List AV)(n:Nat)(h:Hp)(B:Nat->Prop)(Q:(Nat->Prop)->aS->Nat->Hp->Prop)(_:Tg Q):Prop:=Pk P Gl Gm Kp f args n h B Q
def cR (x:Ctx)(c:Code)(E:Env)(n:Nat)(h:Hp)(B:Nat->Prop)(k:dZ)(_:Tg c)(_:Tg k):Prop:=DG P Gl Gm Kp x c E n h B k
def aP (x:Ctx)(c:Code)(E:Env)(n:Nat)(h:Hp)(B:Nat->Prop)(k:dZ)(_:Tg c)(_:Tg k):Prop:=Fa P Gl Gm Kp x c E n h B k
end
section
variable {P:Program}{Gl:qC6}{Gm:qC7}{Kp:qC8}
theorem Cf (X t):rN true X t=X:=by simp[rN,nF]
theorem Mn (X Y t s):ZB true X Y t s=X:=by simp[ZB,NV]
theorem Gj (X Y t s):ZB false X Y t s=Y:=by simp[ZB,NV]
theorem Ce (b:Bool)(X Y t s):Mm (.bool b) X Y t s=ZB b X Y t s:=rfl
theorem Gg (X Y t s):AG true X Y t s=X:=rfl
theorem Cd (X Y t s):AG false X Y t s=Y:=rfl
theorem Gi (x k t):NF (some x) k t=k x:=rfl
theorem Ml (es xs k t):ZA (some (.arr es xs)) k t=k es xs:=rfl
theorem Mo (n h k t):eL n n h k t=k n:=IC n h k
theorem Gf (X t):bY True X t=X:=by simp[bY]
theorem Wh {α:Type}(a:α)(n h rs ws ns k t):Sn (.ret a) n h rs ws ns k t=k a n h rs ws ns:=rfl
theorem We {α:Type}(o)(f:aK->AM α)(n h rs ws ns k t):Sn (.get o f) n h rs ws ns k t=NF (h.get o) (fun x=>Sn (f x) n h (o::rs) ws ns k ⟨⟩) ⟨⟩:=rfl
theorem Wi {α:Type}(o x)(f:AM α)(n h rs ws ns k t):Sn (.set o x f) n h rs ws ns k t=NF (h.get o) (fun _=>Sn f n (h.put o x) rs (o::ws) ns k ⟨⟩) ⟨⟩:=rfl
theorem Wd {α:Type}(o)(f:AM α)(n h rs ws ns k t):Sn (.del o f) n h rs ws ns k t=NF (h.get o) (fun _=>Sn f n (h.del o) rs (o::ws) ns k ⟨⟩) ⟨⟩:=rfl
theorem Wg {α:Type}(x)(f:Nat->AM α)(n h rs ws ns k t):Sn (.new x f) n h rs ws ns k t=Sn (f n) (n+1) ((n,x)::h) rs ws (n::ns) k ⟨⟩:=rfl
theorem ZB.mk {b:Bool}{X Y:Prop}{t s}(h1:b=true->X)(h2:b=false->Y):ZB b X Y t s:=⟨h1,h2⟩
theorem qCJ {A X:Prop}{t}(h1:A)(h2:X):bY A X t:=⟨h1,h2⟩
theorem qCT {n0 n hp k t}(h:∀ nx,n0<=nx->nx<=n->k nx):eL n0 n hp k t:=fun nx a b _=>h nx a b
theorem eL.lt {n0 n hp k t}(hne:n0≠n)(h:∀ nx,n0<=nx->nx<=n->aE nx hp->k nx):eL n0 n hp k t:=fun nx a b c=>h nx a b (c.resolve_left hne)
theorem qCI {n h k t}(w:∀ n',n<=n'->aE n' h->k n'):aC n h k t:=w
theorem qC9 {n h k t}(w:∀{n'}{_:n<=n'}{_:aE n' h},k n'):aC n h k t:=fun a b c=>@w a b c
theorem qCK {f args n h B Q t}(w:aG P Gl Gm Kp f args n h B Q):aA P Gl Gm Kp f args n h B Q t:=w
theorem qT.mk {f args n h B Q t}(w:fI P Gl Gm Kp f args n h B Q):qT P Gl Gm Kp f args n h B Q t:=w
theorem qCN {f args n h}{B:Nat->Prop}{Q t}(Bd:Nat->Prop)(hB:∀ t,t<n->Bd t->B t)(w:aG P Gl Gm Kp f args n h Bd (Q Bd)):aZ P Gl Gm Kp f args n h B Q t:=⟨⟨Bd,hB,w⟩⟩
theorem NX (B:Nat->Prop)(X:Prop):xD B X []=X:=rfl
theorem IE (B:Nat->Prop)(X:Prop)(t:Nat)(l:List Nat):xD B X (t::l)=bY (B t) (xD B X l) ⟨⟩:=rfl
theorem CF (L B k)(i ix E n h):oL P Gl Gm Kp L B k [] i ix E n h=k .normal E n h:=rfl
theorem Us (L B k) (d op ty pos af) (l i ix E n h) : oL P Gl Gm Kp L B k (⟨d, op, ty, pos, af, none⟩ :: l) i ix E n h =
   rN (E.knowsAll (dI op) && iX L d) (Sn (fF P Gl E.eval ⟨d, op, ty, pos, af, none⟩) n h [] [] [] (fun r n' h' _ ws _ => xD B (uF P Gl Gm Kp (oL P Gl Gm Kp L B k l (i+1) (kQ ix i d)) k d E B r n' h') ws) ⟨⟩) ⟨⟩ := rfl
theorem MF (j want ix E):Yo j want ix E=match ix.lookup j with
 |some d=>match lk E d with
  |some (.bool b)=>.bool (b==want)
  |some .undef=>.bool false
  |_=>.unk
 |none=>.unk:=rfl
theorem IB (g ix E)(X Y:Prop):qZ g ix E X Y=match g with
 |none=>X
 |some (j,M)=>Mm (Yo j M ix E) X Y ⟨⟩ ⟨⟩:=by
 cases g with
 |none=>rfl
 |some g=>obtain⟨j,M⟩:=g;exact sZ j M ix E X Y
theorem Om (L B k) (d op ty pos af j want) (l i ix E n h) : oL P Gl Gm Kp L B k (⟨d, op, ty, pos, af, some (j, want)⟩ :: l) i ix E n h =
   Mm (Yo j want ix E) (rN (E.knowsAll (dI op) && iX L d) (Sn (fF P Gl E.eval ⟨d, op, ty, pos, af, some (j, want)⟩) n h [] [] [] (fun r n' h' _ ws _ => xD B (uF P Gl Gm Kp (oL P Gl Gm Kp L B k l (i+1) (kQ ix i d)) k d E B r n' h') ws) ⟨⟩) ⟨⟩)
     (rN (iX L d) (oL P Gl Gm Kp L B k l (i+1) (kQ ix i d) (E.put d .undef) n h) ⟨⟩) ⟨⟩ ⟨⟩ := by
  show _ = uC _ _ _
  rw [<- sZ]; rfl
theorem CI (l k d E B v n h):uF P Gl Gm Kp l k d E B (.val v) n h=l (E.put d v) n h:=rfl
theorem Uv (l k d E B n h):uF P Gl Gm Kp l k d E B .skip n h=l (E.put d .undef) n h:=rfl
theorem CG (l k d E B v n h):uF P Gl Gm Kp l k d E B (.pan v) n h=k (.pan v) E n h:=rfl
theorem Oq (l k d E B f args n h):uF P Gl Gm Kp l k d E B (.enter f args) n h=aA P Gl Gm Kp f args n h B (Vs l k d E) ⟨⟩:=by
 show aG P Gl Gm Kp f args n h B _=aG P Gl Gm Kp f args n h B _
 congr 1
theorem Ot (l k d E B f args n h):uF P Gl Gm Kp l k d E B (.round f args) n h=qT P Gl Gm Kp f args n h B (Vs l k d E) ⟨⟩:=by
 show fI P Gl Gm Kp f args n h B _=fI P Gl Gm Kp f args n h B _
 congr 1
theorem An (l k d E v n h):Vs l k d E (.returned v) n h=l (E.put d v) n h:=rfl
theorem Am (l k d E v n h):Vs l k d E (.panicked v) n h=k (.pan v) E n h:=rfl
theorem Nb (w k E n h):rT w k .normal E n h=w E n h:=rfl
theorem BE (w k i E n h):rT w k (.exit i) E n h=k (.exit i) E n h:=rfl
theorem BF (w k i E n h):rT w k (.goto i) E n h=k (.goto i) E n h:=rfl
theorem HG (w k E n h):rT w k .ret E n h=k .ret E n h:=rfl
theorem HF (w k v E n h):rT w k (.pan v) E n h=k (.pan v) E n h:=rfl
theorem Ib (w k E n h):wD w k .normal E n h=w E n h:=rfl
theorem Sg (w k i E n h):wD w k (.exit i) E n h=k (.exit i) E n h:=rfl
theorem Si (w k i E n h):wD w k (.goto i) E n h=k (.goto i) E n h:=rfl
theorem Zw (w k E n h):wD w k .ret E n h=k .ret E n h:=rfl
theorem Zv (w k v E n h):wD w k (.pan v) E n h=k (.pan v) E n h:=rfl
theorem Dy (i k E n h):nU i k .normal E n h=k .normal E n h:=rfl
theorem Pz (i k E n h):nU i k .ret E n h=k .ret E n h:=rfl
theorem Py (i k v E n h):nU i k (.pan v) E n h=k (.pan v) E n h:=rfl
theorem Kl (i k v E n h):nU i k (.goto v) E n h=k (.goto v) E n h:=rfl
theorem Kk (i j k E n h):nU i k (.exit j) E n h=AG (j==i) (k .normal E n h) (k (.exit j) E n h) ⟨⟩ ⟨⟩:=rfl
theorem Er (k E n h):uU k .normal E n h=k .normal E n h:=rfl
theorem Te (k E n h):uU k .ret E n h=k .ret E n h:=rfl
theorem Td (k v E n h):uU k (.pan v) E n h=k (.pan v) E n h:=rfl
theorem Oc (x B k E n h):dN P Gl Gm Kp x B .skip k E n h=k .normal E n h:=rfl
theorem Jf (x B l k E n h):dN P Gl Gm Kp x B (.label l) k E n h=k .normal E n h:=rfl
theorem Tz (x B k E n h):dN P Gl Gm Kp x B .ret k E n h=k .ret E n h:=rfl
theorem Nz (x B i k E n h):dN P Gl Gm Kp x B (.exit i) k E n h=k (.exit i) E n h:=rfl
theorem Oa (x B i k E n h):dN P Gl Gm Kp x B (.goto i) k E n h=k (.goto i) E n h:=rfl
theorem Ua (x B c d k E n h):dN P Gl Gm Kp x B (.seq c d) k E n h=dN P Gl Gm Kp x B c (rT (dN P Gl Gm Kp x B d k) k) E n h:=rfl
theorem Ex (L ds rn B i)(ops:List Oper)(k E n h):dN P Gl Gm Kp ⟨L,ds,rn⟩ B (.region i ops.toArray false) k E n h=oL P Gl Gm Kp L B k ops 0 [] E n h:=rfl
theorem Ny (x B i ops k E n h):dN P Gl Gm Kp x B (.region i ops true) k E n h=aP P Gl Gm Kp x (.region i ops true) E n h B k ⟨⟩ ⟨⟩:=rfl
theorem Nx (x B c d e k E n h):dN P Gl Gm Kp x B (.cond c d e) k E n h=rN (E.knows c) (Mm (E.eval c) (dN P Gl Gm Kp x B d k E n h) (dN P Gl Gm Kp x B e k E n h) ⟨⟩ ⟨⟩) ⟨⟩:=rfl
theorem Je (x B i c k E n h):dN P Gl Gm Kp x B (.block i c) k E n h=dN P Gl Gm Kp x B c (nU i k) E n h:=rfl
theorem Jh (x B c k E n h):dN P Gl Gm Kp x B (.scope c) k E n h=dN P Gl Gm Kp x B c (uU k) E n h:=rfl
theorem Ob (x B c k E n h):dN P Gl Gm Kp x B (.loop c) k E n h=cR P Gl Gm Kp x (.loop c) E n h B k ⟨⟩ ⟨⟩:=rfl
theorem Jg (x B f ps a c k E n h):dN P Gl Gm Kp x B (.rangeFunc f ps a c) k E n h=aP P Gl Gm Kp x (.rangeFunc f ps a c) E n h B k ⟨⟩ ⟨⟩:=rfl
theorem Ub (L B k ps un n0 i ix E n h recs):lO P Gl Gm Kp L B k ps un n0 [] i ix E n h recs=eL n0 n h (fun nx=>k .normal E nx h) ⟨⟩:=rfl
theorem Od (L B k ps un n0) (d op ty pos af) (l i ix E n h recs) : lO P Gl Gm Kp L B k ps un n0 (⟨d, op, ty, pos, af, none⟩ :: l) i ix E n h recs =
   rN (E.knowsAll (dI op) && iX L d) (Sn (fF P Gl E.eval ⟨d, op, ty, pos, af, none⟩) n h [] [] [] (fun r n' h' rs ws ns =>
     xD B (vA P Gl Gm Kp ps i d E B recs (lO P Gl Gm Kp L B k ps un n0 l (i+1) (kQ ix i d)) (fun v n h recs => jF P Gl L B k ps un n0 i v h l (i+1) ix E n h recs) r n' h' (.plain rs ws ns)) ws) ⟨⟩) ⟨⟩ := rfl
theorem Ji (L B k ps un n0) (d op ty pos af j want) (l i ix E n h recs) : lO P Gl Gm Kp L B k ps un n0 (⟨d, op, ty, pos, af, some (j, want)⟩ :: l) i ix E n h recs =
   Mm (Yo j want ix E) (rN (E.knowsAll (dI op) && iX L d) (Sn (fF P Gl E.eval ⟨d, op, ty, pos, af, some (j, want)⟩) n h [] [] [] (fun r n' h' rs ws ns =>
     xD B (vA P Gl Gm Kp ps i d E B recs (lO P Gl Gm Kp L B k ps un n0 l (i+1) (kQ ix i d)) (fun v n h recs => jF P Gl L B k ps un n0 i v h l (i+1) ix E n h recs) r n' h' (.plain rs ws ns)) ws) ⟨⟩) ⟨⟩)
   (rN (iX L d) (lO P Gl Gm Kp L B k ps un n0 l (i+1) (kQ ix i d) (E.put d .undef) n h recs) ⟨⟩) ⟨⟩ ⟨⟩ := by
  show _ = uC _ _ _
  rw [<- sZ]; rfl
theorem Ut (ps i d E B recs l rest v n h f):vA P Gl Gm Kp ps i d E B recs l rest (.val v) n h f=fK ps i f (l (E.put d v) n h ((i,f)::recs)) recs:=rfl
theorem On (ps i d E B recs l rest n h f):vA P Gl Gm Kp ps i d E B recs l rest .skip n h f=fK ps i f (l (E.put d .undef) n h ((i,f)::recs)) recs:=rfl
theorem Jl (ps i d E B recs l rest g args n h f):vA P Gl Gm Kp ps i d E B recs l rest (.enter g args) n h f=aZ P Gl Gm Kp g args n h B (xL ps i d E recs n l rest) ⟨⟩:=rfl
theorem zF (ps i d E recs n l rest Bd v n' h'):xL ps i d E recs n l rest Bd (.returned v) n' h'=fK ps i (.call Bd n n') (l (E.put d v) n' h' ((i,.call Bd n n')::recs)) recs:=rfl
theorem rI (ps i d E recs n l rest Bd v n' h'):xL ps i d E recs n l rest Bd (.panicked v) n' h'=fK ps i (.call Bd n n') (rest v n' h' ((i,.call Bd n n')::recs)) recs:=rfl
theorem Uu (ps i d E recs l v n h f):Dm ps i d E recs l (.val v) n h f=fK ps i f (l (E.put d v) n h ((i,f)::recs)) recs:=rfl
theorem Oo (ps i d E recs l n h f):Dm ps i d E recs l .skip n h f=fK ps i f (l (E.put d .undef) n h ((i,f)::recs)) recs:=rfl
theorem Uw (L B k ps un n0 j v hj i ix E n h recs):jF P Gl L B k ps un n0 j v hj [] i ix E n h recs=Ew ps j (gN k n0 v hj) recs:=rfl
theorem Ou (L B k ps un n0 j v hj) (d op ty pos af g l i ix E n h recs) : jF P Gl L B k ps un n0 j v hj (⟨d, op, ty, pos, af, g⟩ :: l) i ix E n h recs =
   AG (Ci un j i) (qZ g ix E (rN (E.knowsAll (dI op) && iX L d) (Sn (fF P Gl E.eval ⟨d, op, ty, pos, af, g⟩) n h [] [] [] (fun r n' h' rs ws ns =>
          xD B (Dm ps i d E recs (jF P Gl L B k ps un n0 j v hj l (i+1) (kQ ix i d)) r n' h' (.plain rs ws ns)) ws) ⟨⟩) ⟨⟩)
        (rN (iX L d) (jF P Gl L B k ps un n0 j v hj l (i+1) (kQ ix i d) (E.put d .undef) n h recs) ⟨⟩))
    (jF P Gl L B k ps un n0 j v hj l (i+1) ix E n h recs) ⟨⟩ ⟨⟩ := rfl
theorem Tx (i f X recs):fK [] i f X recs=X:=by
 induction recs with
 |nil=>rfl
 |cons q r ih=>obtain⟨j,g⟩:=q;unfold fK;exact ih
theorem Tw (ps i f X):fK ps i f X []=X:=rfl
theorem Nw (ps i f X j g r):fK ps i f X ((j,g)::r)=AG (Ci ps j i) (bY (apart f g) (fK ps i f X r) ⟨⟩) (fK ps i f X r) ⟨⟩ ⟨⟩:=rfl
theorem ID (ps j X):Ew ps j X []=X:=rfl
theorem BP (ps j X i f r):Ew ps j X ((i,f)::r)=AG (i==j || (Nat.blt i j&&!Ci ps i j)) (Ew ps j X r) (bY (AF f) (Ew ps j X r) ⟨⟩) ⟨⟩ ⟨⟩:=rfl
theorem NG (j i):Ci [] j i=false:=rfl
theorem GP (a b l j i):Ci ((a,b)::l) j i=((a==j&&b==i) || Ci l j i):=rfl
theorem DK (p):qC p []=True:=rfl
theorem Wt (p t l):qC p (t::l)=(p t/\qC p l):=rfl
theorem DW (rs ws ns rs' ws' ns'):apart (.plain rs ws ns) (.plain rs' ws' ns')=(qC (fun t=>qC (t≠·) (rs'++(ws'++ns'))) (ws++ns)/\qC (fun t=>qC (t≠·) (ws'++ns')) rs):=rfl
theorem DV (rs ws ns Bd lo hi):apart (.plain rs ws ns) (.call Bd lo hi)=(qC (hi<=·) (ws++ns)/\qC (fun t=>hi<=t\/(t<lo/\¬Bd t)) rs):=rfl
theorem DU (rs ws ns Bd lo hi):apart (.call Bd lo hi) (.plain rs ws ns)=(ws++ns=[]/\qC (fun t=>t<lo/\¬Bd t) rs):=rfl
theorem Sm (rs ws ns):AF (.plain rs ws ns)=(ws=[]):=rfl
def NJ (Q:aS->Nat->Hp->Prop)(n:Nat)(h:Hp)(vs:List AV):Prop:=aC n h (fun n'=>Q (.returned (jR vs)) n' h) ⟨⟩
theorem HB (Q n h):NJ Q n h []=aC n h (fun n'=>Q (.returned (.tup [])) n' h) ⟨⟩:=rfl
theorem HC (Q n h v):NJ Q n h [v]=aC n h (fun n'=>Q (.returned v) n' h) ⟨⟩:=rfl
theorem BC (Q n h v u l):NJ Q n h (v::u::l)=aC n h (fun n'=>Q (.returned (.tup (v::u::l))) n' h) ⟨⟩:=rfl
theorem Ei (rs keep B Q E n h):gS P Gl rs keep B Q .normal E n h=gS P Gl rs keep B Q .ret E n h:=rfl
theorem Rs (rs keep B Q E n h):gS P Gl rs keep B Q .ret E n h=rN (iM E rs) (Sn (pW P Gl E rs) n h [] [] [] (fun vs n1 h1 _ ws1 _=>xD B (kU keep vs h1 [] fun vs h2 ws2=>xD B (NJ Q n1 h2 vs) ws2) ws1) ⟨⟩) ⟨⟩:=rfl
theorem Rr (rs keep B Q v E n h):gS P Gl rs keep B Q (.pan v) E n h=aC n h (fun n'=>Q (.panicked v) n' h) ⟨⟩:=rfl
theorem Ey (keep h ws k):kU keep [] h ws k=k [] h ws:=rfl
theorem Dl (keep x xs h ws k):kU keep (x::xs) h ws k=lP keep x h ws fun y h ws=>kU keep xs h ws fun ys h ws=>k (y::ys) h ws:=rfl
theorem Dk (v h ws k):lP false v h ws k=iQ v h ws k:=by cases v<;>rfl
theorem yG (o a b h ws k):lP true (.sl o a b) h ws k=k (.sl o a b) h ws:=rfl
theorem wY (h ws k):lP true .sl0 h ws k=k .sl0 h ws:=by simp[lP,iQ,fL,nF,eE]
theorem wZ (xs es b h ws k):lP true (.vec xs es b) h ws k=k (.vec xs es b) h ws:=by simp[lP,iQ,fL,nF,eE]
theorem BS (cs h ws k):iQ (.agg cs) h ws k=tA cs h ws fun ds h ws=>k (.agg ds) h ws:=rfl
theorem IG (o a b h ws k):iQ (.sl o a b) h ws k=wX o a b h ws k:=rfl
theorem eA (v h ws k)(hv:eE v=true):iQ v h ws k=k v h ws:=by
 cases v<;>first | (cases hv;done) | simp[iQ,fL,nF,eE]
theorem Ul (h ws k):tA [] h ws k=k [] h ws:=rfl
theorem Oj (x xs h ws k):tA (x::xs) h ws k=fL x h ws fun y h ws=>tA xs h ws fun ys h ws=>k (y::ys) h ws:=rfl
theorem BR (o a b h ws k):fL (.sl o a b) h ws k=wX o a b h ws k:=rfl
theorem bO (v h ws k)(hv:eE v=true):fL v h ws k=k v h ws:=by
 cases v<;>first | (cases hv;done) | simp[fL,nF,eE]
theorem Ue (k':IntKind)(i:Int)(h:Hp)(ws:List Nat)(k:iR):fL (.int k' i) h ws k=k (.int k' i) h ws:=bO _ h ws k rfl
theorem BW (k':IntKind)(i:Int)(h:Hp)(ws:List Nat)(k:iR):iQ (.int k' i) h ws k=k (.int k' i) h ws:=eA _ h ws k rfl
theorem Ui (s:List UInt8)(h:Hp)(ws:List Nat)(k:iR):fL (.str s) h ws k=k (.str s) h ws:=bO _ h ws k rfl
theorem CB (s:List UInt8)(h:Hp)(ws:List Nat)(k:iR):iQ (.str s) h ws k=k (.str s) h ws:=eA _ h ws k rfl
theorem Oe (b:Bool)(h:Hp)(ws:List Nat)(k:iR):fL (.bool b) h ws k=k (.bool b) h ws:=bO _ h ws k rfl
theorem Un (b:Bool)(h:Hp)(ws:List Nat)(k:iR):iQ (.bool b) h ws k=k (.bool b) h ws:=eA _ h ws k rfl
theorem Uh  (h:Hp)(ws:List Nat)(k:iR):fL (.sl0) h ws k=k (.sl0) h ws:=bO _ h ws k rfl
theorem BZ  (h:Hp)(ws:List Nat)(k:iR):iQ (.sl0) h ws k=k (.sl0) h ws:=eA _ h ws k rfl
theorem Uk (xs:List AV)(e:Nat)(b:Bool)(h:Hp)(ws:List Nat)(k:iR):fL (.vec xs e b) h ws k=k (.vec xs e b) h ws:=bO _ h ws k rfl
theorem CE (xs:List AV)(e:Nat)(b:Bool)(h:Hp)(ws:List Nat)(k:iR):iQ (.vec xs e b) h ws k=k (.vec xs e b) h ws:=eA _ h ws k rfl
theorem Oh  (h:Hp)(ws:List Nat)(k:iR):fL (.ptr0) h ws k=k (.ptr0) h ws:=bO _ h ws k rfl
theorem Uq  (h:Hp)(ws:List Nat)(k:iR):iQ (.ptr0) h ws k=k (.ptr0) h ws:=eA _ h ws k rfl
theorem Ud  (h:Hp)(ws:List Nat)(k:iR):fL (.if0) h ws k=k (.if0) h ws:=bO _ h ws k rfl
theorem BV  (h:Hp)(ws:List Nat)(k:iR):iQ (.if0) h ws k=k (.if0) h ws:=eA _ h ws k rfl
theorem Og  (h:Hp)(ws:List Nat)(k:iR):fL (.map0) h ws k=k (.map0) h ws:=bO _ h ws k rfl
theorem Up  (h:Hp)(ws:List Nat)(k:iR):iQ (.map0) h ws k=k (.map0) h ws:=eA _ h ws k rfl
theorem Uc  (h:Hp)(ws:List Nat)(k:iR):fL (.fn0) h ws k=k (.fn0) h ws:=bO _ h ws k rfl
theorem BU  (h:Hp)(ws:List Nat)(k:iR):iQ (.fn0) h ws k=k (.fn0) h ws:=eA _ h ws k rfl
theorem Uf (o:Nat)(h:Hp)(ws:List Nat)(k:iR):fL (.map o) h ws k=k (.map o) h ws:=bO _ h ws k rfl
theorem BX (o:Nat)(h:Hp)(ws:List Nat)(k:iR):iQ (.map o) h ws k=k (.map o) h ws:=eA _ h ws k rfl
theorem Ug (o i:Nat)(h:Hp)(ws:List Nat)(k:iR):fL (.ref o i) h ws k=k (.ref o i) h ws:=bO _ h ws k rfl
theorem BY (o i:Nat)(h:Hp)(ws:List Nat)(k:iR):iQ (.ref o i) h ws k=k (.ref o i) h ws:=eA _ h ws k rfl
theorem Jj (t:TypeId)(v:AV)(h:Hp)(ws:List Nat)(k:iR):fL (.iface t v) h ws k=k (.iface t v) h ws:=bO _ h ws k rfl
theorem Ol (t:TypeId)(v:AV)(h:Hp)(ws:List Nat)(k:iR):iQ (.iface t v) h ws k=k (.iface t v) h ws:=eA _ h ws k rfl
theorem Uj (vs:List AV)(h:Hp)(ws:List Nat)(k:iR):fL (.tup vs) h ws k=k (.tup vs) h ws:=bO _ h ws k rfl
theorem CC (vs:List AV)(h:Hp)(ws:List Nat)(k:iR):iQ (.tup vs) h ws k=k (.tup vs) h ws:=eA _ h ws k rfl
theorem Oi (xs:List AV)(e i:Nat)(h:Hp)(ws:List Nat)(k:iR):fL (.pvec xs e i) h ws k=k (.pvec xs e i) h ws:=bO _ h ws k rfl
theorem Ur (xs:List AV)(e i:Nat)(h:Hp)(ws:List Nat)(k:iR):iQ (.pvec xs e i) h ws k=k (.pvec xs e i) h ws:=eA _ h ws k rfl
theorem BQ (f:Fn)(a c:List AV)(h:Hp)(ws:List Nat)(k:iR):fL (.fn f a c) h ws k=k (.fn f a c) h ws:=bO _ h ws k rfl
theorem IF (f:Fn)(a c:List AV)(h:Hp)(ws:List Nat)(k:iR):iQ (.fn f a c) h ws k=k (.fn f a c) h ws:=eA _ h ws k rfl
theorem Of (o i:Nat)(h:Hp)(ws:List Nat)(k:iR):fL (.gref o i) h ws k=k (.gref o i) h ws:=bO _ h ws k rfl
theorem Uo (o i:Nat)(h:Hp)(ws:List Nat)(k:iR):iQ (.gref o i) h ws k=k (.gref o i) h ws:=eA _ h ws k rfl
theorem dW (k':IntKind)(i:Int):AV.one (.int k' i)=true:=rfl
theorem CL (k':IntKind)(i:Int):AV.whole (.int k' i)=true:=rfl
theorem Xt (k':IntKind)(i:Int):AV.cells (.int k' i)=[.int k' i]:=rfl
theorem dX (s:List UInt8):AV.one (.str s)=true:=rfl
theorem CP (s:List UInt8):AV.whole (.str s)=true:=rfl
theorem Xx (s:List UInt8):AV.cells (.str s)=[.str s]:=rfl
theorem dH (b:Bool):AV.one (.bool b)=true:=rfl
theorem Ux (b:Bool):AV.whole (.bool b)=true:=rfl
theorem Qe (b:Bool):AV.cells (.bool b)=[.bool b]:=rfl
theorem ND :AV.one (.sl0)=true:=rfl
theorem CO :AV.whole (.sl0)=true:=rfl
theorem Xw :AV.cells (.sl0)=[.sl0]:=rfl
theorem Ih (xs:List AV)(e:Nat)(b:Bool):AV.one (.vec xs e b)=true:=rfl
theorem CQ (xs:List AV)(e:Nat)(b:Bool):AV.whole (.vec xs e b)=true:=rfl
theorem Xy (xs:List AV)(e:Nat)(b:Bool):AV.cells (.vec xs e b)=[.vec xs e b]:=rfl
theorem SC (o a b:Nat):AV.one (.sl o a b)=true:=rfl
theorem II (o a b:Nat):AV.whole (.sl o a b)=true:=rfl
theorem EM (o a b:Nat):AV.cells (.sl o a b)=[.sl o a b]:=rfl
theorem GJ :AV.one (.ptr0)=true:=rfl
theorem Va :AV.whole (.ptr0)=true:=rfl
theorem Qh :AV.cells (.ptr0)=[.ptr0]:=rfl
theorem NA :AV.one (.if0)=true:=rfl
theorem CK :AV.whole (.if0)=true:=rfl
theorem Xs :AV.cells (.if0)=[.if0]:=rfl
theorem GI :AV.one (.map0)=true:=rfl
theorem Uz :AV.whole (.map0)=true:=rfl
theorem Qg :AV.cells (.map0)=[.map0]:=rfl
theorem MZ :AV.one (.fn0)=true:=rfl
theorem CJ :AV.whole (.fn0)=true:=rfl
theorem Xr :AV.cells (.fn0)=[.fn0]:=rfl
theorem NB (o:Nat):AV.one (.map o)=true:=rfl
theorem CM (o:Nat):AV.whole (.map o)=true:=rfl
theorem Xu (o:Nat):AV.cells (.map o)=[.map o]:=rfl
theorem NC (o i:Nat):AV.one (.ref o i)=true:=rfl
theorem CN (o i:Nat):AV.whole (.ref o i)=true:=rfl
theorem Xv (o i:Nat):AV.cells (.ref o i)=[.ref o i]:=rfl
theorem AC (t:TypeId)(v:AV):AV.one (.iface t v)=true:=rfl
theorem Ow (t:TypeId)(v:AV):AV.whole (.iface t v)=true:=rfl
theorem Kq (t:TypeId)(v:AV):AV.cells (.iface t v)=[.iface t v]:=rfl
theorem GK (xs:List AV)(e i:Nat):AV.one (.pvec xs e i)=true:=rfl
theorem Vb (xs:List AV)(e i:Nat):AV.whole (.pvec xs e i)=true:=rfl
theorem Qi (xs:List AV)(e i:Nat):AV.cells (.pvec xs e i)=[.pvec xs e i]:=rfl
theorem SB (f:Fn)(a c:List AV):AV.one (.fn f a c)=true:=rfl
theorem IH (f:Fn)(a c:List AV):AV.whole (.fn f a c)=true:=rfl
theorem EK (f:Fn)(a c:List AV):AV.cells (.fn f a c)=[.fn f a c]:=rfl
theorem GH (o i:Nat):AV.one (.gref o i)=true:=rfl
theorem Uy (o i:Nat):AV.whole (.gref o i)=true:=rfl
theorem Qf (o i:Nat):AV.cells (.gref o i)=[.gref o i]:=rfl
theorem aB (cs:List AV):AV.whole (.agg cs)=cs.all AV.one:=rfl
theorem Xq (cs:List AV):AV.cells (.agg cs)=cs:=rfl
theorem Um (o off len h ws k):wX o off len h ws k=ZA (h.get o) (fun es xs=>bY (off+len<=xs.length/\∀ x ∈ (xs.drop off).take len,lG x=true) (k (.vec ((xs.drop off).take len) es false) (h.del o) (o::ws)) ⟨⟩) ⟨⟩:=rfl
theorem AY (E):pW P Gl E []=.ret []:=rfl
theorem AZ (E t r):pW P Gl E (.tmp t::r)=(pW P Gl E r).bind fun l=>.ret ((lk E t).getD .undef::l):=rfl
theorem Ta (E t p r):pW P Gl E (.cell p t::r)=(rM P Gl t ((lk E p).getD .undef)).bind fun v=>(pW P Gl E r).bind fun l=>.ret (v::l):=rfl
theorem Ir (E):iM E []=true:=rfl
theorem Is (E t r):iM E (.tmp t::r)=((lk E t).isSome&&iM E r):=rfl
theorem Em (E t p r):iM E (.cell p t::r)=((lk E p).isSome&&iM E r):=rfl
theorem Iu (v):jR [v]=v:=rfl
theorem Ix (v u l):jR (v::u::l)=.tup (v::u::l):=rfl
theorem TE (P:Program)(t:TypeId)(cs:List AV)(i:Nat):cN P t cs i=match dR P t,bN P t with
 |some true,some n=>(sub cs i n).map .agg
 |some false,some _=>cs[i]?
 |_,_=>none:=rfl
theorem getElem?_arr {α:Type}(l:List α)(i:Nat):l.toArray[i]?=l[i]?:=List.getElem?_toArray
theorem Yl (p cs):gW p cs []=some cs:=rfl
theorem Qq (p cs i v r):gW p cs ((i,v)::r)=match p i with
  |some (off,size)=>bif v.whole&&v.cells.length==size then
    match splice cs off v.cells with
    |some cs=>gW p cs r
    |none=>none
   else none
  |none=>none:=rfl
theorem Ed (es agg xs):jA es agg xs []=some xs:=rfl
theorem Ay (es agg xs i v r):jA es agg xs ((i,v)::r)=bif v.whole&&v.cells.length==es&&oV agg v&&Nat.blt i xs.length then jA es agg (xs.set i v) r else none:=rfl
end
attribute [go_sem ↓] HB HC BC CF Us Om CI Uv CG Oq Ot An Am Nb BE BF HG HF
 Ib Sg Si Zw Zv Dy Pz Py Kl Kk Er Te Td
 Oc Jf Tz Nz Oa Ua Ex Ny Nx Je Jh Ob Jg
 Ub Od Ji Ut On Jl zF rI Uu Oo Uw Ou Tx Tw Nw ID BP IB
 NX IE Cf Mn Gj Ce Gg Cd Gi Ml Mo Gf Wh We Wi Wd Wg
 Ei Rs Rr Ey Dl Dk yG wY wZ BS IG Ul Oj BR Um Ue BW Ui CB Oe Un Uh BZ Uk CE Oh Uq Ud BV Og Up Uc BU Uf BX Ug BY Jj Ol Uj CC Oi Ur BQ IF Of Uo
attribute [go_sem] Cf Mn Gj Ce Gg Cd Gi Ml Mo Gf Wh We Wi Wd Wg bO eA
 MF AY AZ Ta Ir Is Em Iu Ix
 MQ RU EY EU Yg Kx EW Yk Yj Yh Yi eval_global eval_func
 Eh Hv Zs Lq Hw Rn Qn Qm Qa GW GV Rj Ri Pt Xi
 bM aX qJ qI Hm lX
 EC DZ ED DY EA Xk Sl Sk NW NS Ka Ad Af Sp Fb Jx Vm Ww Ae DO Xc qD
 El Bw By Fc DT Jz lA vG xH Dv Xb Dt Wz Du Xa Pr Dw Pq
 DR Ag rX Eb Ea Ff Ik Wx Kn Hf Po IX IY IZ Pp Zu Rz Ti Pm Jw Jv
 dI dW CL Xt dX CP Xx dH Ux Qe ND CO Xw Ih CQ Xy SC II EM GJ Va Qh NA CK Xs GI Uz Qg MZ CJ Xr NB CM Xu NC CN Xv AC Ow Kq GK Vb Qi SB IH EK GH Uy Qf aB Xq cond_true cond_false Bool.and_true Bool.true_and Bool.and_self Bool.false_and Bool.and_false Bool.or_false Bool.false_or Bool.or_true Bool.true_or Bool.not_true Bool.not_false Option.isSome_some Option.isSome_none Option.getD_some Option.map_some Option.map_none Option.bind_some
 List.map_cons List.map_nil List.all_cons List.all_nil List.cons_append List.nil_append List.append_nil List.getElem?_cons_succ List.getElem?_cons_zero List.lookup_cons List.lookup_nil
 Option.toList_some Option.toList_none List.length_cons List.length_nil List.size_toArray getElem?_arr List.drop_zero List.drop_succ_cons List.take_zero List.take_succ_cons List.set_cons_zero List.set_cons_succ List.replicate_succ List.replicate_zero
 NG GP DK Wt DW DV DU Sm Yl Qq Ed Ay splice sub oV Nu decide_true decide_false and_true true_and BEq.rfl
section
variable (P:Program)(t:TypeId)(lit:Bool)(k:IntKind)(a b:Int)(s u:List UInt8)
theorem JF:cL P .add t lit (.int k a) (.int k b)=some (.int k (k.wrap (a+b))):=by simp[cL,gZ]
theorem JQ:cL P .sub t lit (.int k a) (.int k b)=some (.int k (k.wrap (a-b))):=by simp[cL,gZ]
theorem JL:cL P .mul t lit (.int k a) (.int k b)=some (.int k (k.wrap (a*b))):=by simp[cL,gZ]
theorem JN:cL P .quo t lit (.int k a) (.int k b)=if b=0 then none else some (.int k (k.wrap (a.tdiv b))):=by simp[cL,gZ]
theorem JO:cL P .rem t lit (.int k a) (.int k b)=if b=0 then none else some (.int k (a.tmod b)):=by simp[cL,gZ]
theorem JG:cL P .eql t lit (.int k a) (.int k b)=some (.bool (decide (a=b))):=by
 simp[cL,gZ];by_cases h:a=b<;>simp[h]
theorem JM:cL P .neq t lit (.int k a) (.int k b)=some (.bool (!decide (a=b))):=by
 simp[cL,gZ];by_cases h:a=b<;>simp[h]
theorem JK:cL P .lss t lit (.int k a) (.int k b)=some (.bool (decide (a<b))):=by simp[cL,gZ]
theorem JJ:cL P .leq t lit (.int k a) (.int k b)=some (.bool (decide (a<=b))):=by simp[cL,gZ]
theorem JI:cL P .gtr t lit (.int k a) (.int k b)=some (.bool (decide (a>b))):=by simp[cL,gZ]
theorem JH:cL P .geq t lit (.int k a) (.int k b)=some (.bool (decide (a ≥ b))):=by simp[cL,gZ]
theorem Kg:cL P .eql t lit (.str s) (.str u)=some (.bool (s==u)):=rfl
theorem Kj:cL P .neq t lit (.str s) (.str u)=some (.bool (!(s==u))):=rfl
theorem Ki:cL P .lss t lit (.str s) (.str u)=some (.bool (qE s u)):=rfl
theorem Kh:cL P .gtr t lit (.str s) (.str u)=some (.bool (!(qE s u || s==u))):=rfl
theorem Kf:cL P .add t lit (.str s) (.str u)=bif Nat.ble (s.length+u.length) 9223372036854775807 then some (.str (s++u)) else none:=rfl
theorem JP:cL P .shl t lit (.int k a) (.int .i64 b)=if b<0 then none else some (.int k (k.wrap (a*2 ^ (min b.toNat k.bits)))):=rfl
end
theorem OB (x:Int)(h:-9223372036854775808<=x/\x<=9223372036854775807):IntKind.i64.wrap x=x:=by
 unfold IntKind.wrap;simp[IntKind.bits,IntKind.signed];split<;>omega
theorem IK (x:Int)(h:0<=x/\x<=255):IntKind.u8.wrap x=x:=by
 unfold IntKind.wrap;simp[IntKind.bits,IntKind.signed]<;>omega
theorem OA (x:Int)(h:-2147483648<=x/\x<=2147483647):IntKind.i32.wrap x=x:=by
 unfold IntKind.wrap;simp[IntKind.bits,IntKind.signed];split<;>omega
theorem PD (a b:Nat):Nat.ble a b=decide (a<=b):=by
 cases h:Nat.ble a b with
 |true=>simp at h;simp[h]
 |false=>
  have:¬a<=b:=fun M=>by
   have:Nat.ble a b=true:=(by simpa using M);rw[h]at this;cases this
  simp[this]
attribute [go_sem] JF JQ JL JN JO JG JM JK JJ JI JH Kg Kj Ki Kh Kf JP OB IK OA PD
section
variable {P:Program}{Gl:qC6}{Gm:qC7}{Kp:qC8}
theorem aG.code {f:FuncId}{fn:Func}{c:Code}{args:List AV}{keep:Bool}{n:Nat}{h:Hp}{B:Nat->Prop}{Q:aS->Nat->Hp->Prop}(L:Nat)(rs:List ResultVar)(hf:P.funcs[f]?=some fn)(hb:fn.body=some c)(hg:Gm f=none)
  (hk:Kp f=(keep,false)) (hL:args.length+(fn.ntmps-args.length)=L) (hr:fn.results.toList=rs)
  (w:(∀ t,n<=t->(n<=t\/B t))->aE n h->dN P Gl Gm Kp ⟨L,[],none⟩ (fun t=>n<=t\/B t) c (gS P Gl rs keep (fun t=>n<=t\/B t) Q) (nT 0 args) n h):aG P Gl Gm Kp f args n h B Q:=by
 subst hL;subst hr;exact aG.body hg hf hb hk (bF.lt fun O M=>aW (w M O))
theorem qCs {x:Ctx}{c:Code}{B:Nat->Prop}{k:dZ}(Inv:Nat->Env->Nat->Hp->Prop)
  (step:∀ m E n h,aE n h->(∀ t,n<=t->B t)->Inv m E n h->bF P Gl Gm Kp x c E n h B (wD (fun E' n' h'=>∃ m' E0,m'<m/\E0.sub E'/\Inv m' E0 n' h') k)) :
  ∀ m {E0 E:Env}{n:Nat}{h:Hp},E0.sub E->Inv m E0 n h->bF P Gl Gm Kp x (.loop c) E n h B k:=by
 intro m
 induction m using Nat.strongRecOn with
 |_ m ih=>
  intro E0 E n h hs hi;refine bF.less hs (bF.lt fun hl Y=>bF.loop ((step m E0 n h hl Y hi).imp fun ex E' n' h' _ _ _ U=>?_));cases ex with
  |normal=>
   obtain⟨m',_,hm,O,M⟩:=U;exact ih m' hm O M
  |_=>exact U
theorem qCP {x:Ctx}{E:Env}{n:Nat}{h:Hp}{B:Nat->Prop}{k:dZ}{id:Nat}{ops:List Oper}{t s}(ps un:List (Nat×Nat))(hok:uK ops.toArray ps un=true)(w:lO P Gl Gm Kp x.L B k ps un n ops 0 [] E n h []) :
  aP P Gl Gm Kp x (.region id ops.toArray true) E n h B k t s:=⟨bF.draw ps un hok w⟩
def aU (Inv:Nat->Env->Nat->Hp->Prop)(m:Nat)(E':Env)(n':Nat)(h':Hp)(_:Tg Inv):Prop:=∃ m' E0,m'<m/\E0.sub E'/\Inv m' E0 n' h'
theorem qCR {Inv:Nat->Env->Nat->Hp->Prop}{m:Nat}{E':Env}{n':Nat}{h':Hp}{t}(m':Nat)(E0:Env)(h1:m'<m)(h2:E0.sub E')(h3:Inv m' E0 n' h'):aU Inv m E' n' h' t:=⟨m',E0,h1,h2,h3⟩
theorem qCQ {x:Ctx}{c:Code}{B:Nat->Prop}{k:dZ}(Inv:Nat->Env->Nat->Hp->Prop)(m:Nat){E0 E:Env}{n:Nat}{h:Hp}(hs:E0.sub E)(hi:Inv m E0 n h)
  (step:∀ m E n h,aE n h->(∀ t,n<=t->B t)->Inv m E n h->dN P Gl Gm Kp x B c (wD (fun E' n' h'=>aU Inv m E' n' h' ⟨⟩) k) E n h) {t s}:cR P Gl Gm Kp x (.loop c) E n h B k t s:=
 ⟨qCs Inv (fun m E n h a b c=>aW (step m E n h a b c)) m hs hi⟩
end
def dC (cs:List AV)(i:Nat):Option AV:=cs[i]?
def iP (n:Nat)(cs:List AV)(i:Nat):Option AV:=(sub cs i n).map .agg
def dM (f:List AV->Nat->Option AV)(es:Nat)(xs:List AV)(i:Nat):Option AV:=
 match xs[i / es]? with
 |some .unk=>none
 |some x=>f x.cells (i % es)
 |none=>none
def dQ (n:Nat)(cs:List AV)(i:Nat)(v:AV):Option (List AV):=bif v.whole&&(n==v.cells.length) then splice cs i v.cells else none
def fE (n:Nat)(es:Nat)(xs:List AV)(i:Nat)(v:AV):Option (List AV):=
 match xs[i / es]? with
 |some .unk=>none
 |some x=>match dQ n x.cells (i % es) v with
  |some cs=>bif cs.all AV.one then some (xs.set (i / es) (lJ x cs)) else none
  |none=>none
 |none=>none
def kR:AV->AM AV
 |.sl0=>.ret (.int .i64 0)
 |.vec xs _ _=>.ret (.int .i64 xs.length)
 |.sl _ _ n=>.ret (.int .i64 n)
 |_=>.fail
def Rx:AV->AM AV
 |.str s=>.ret (.int .i64 s.length)
 |_=>.fail
def RS:AV->AM AV
 |.map0=>.ret (.int .i64 0)
 |.map o=>.get o fun
   |.map kv=>.ret (.int .i64 kv.length)
   |_=>.fail
 |_=>.fail
def FQ (es:Nat)(xs:List AV)(es':Nat):Option Nat->AM AV
 |some k=>bif es==es' then .ret (.pvec xs es (k*es)) else .fail
 |none=>.fail
def FP (es es' o off:Nat):Option Nat->AM AV
 |some k=>bif es==es' then .ret (.ref o ((off+k)*es)) else .fail
 |none=>.fail
def rK (es:Nat)(x i:AV):AM AV:=
 match i with
 |.int _ i=>match x with
  |.vec xs es' _=>FQ es xs es' (inside i xs.length)
  |.sl o off len=>.get o fun
    |.arr es' _=>FP es es' o off (inside i len)
    |_=>.fail
  |_=>.fail
 |_=>.fail
def FO (s:List UInt8):Option Nat->AM AV
 |some k=>match s[k]? with
  |some b=>.ret (.int .u8 b.toNat)
  |none=>.fail
 |none=>.fail
def Vw (x i:AV):AM AV:=
 match i,x with
 |.int _ i,.str s=>FO s (inside i s.length)
 |_,_=>.fail
def Gp (s:List UInt8):Option Nat->Option Nat->AM AV
 |some l,some h=>bif Nat.ble l h&&Nat.ble h s.length then .ret (.str ((s.drop l).take (h-l))) else .fail
 |_,_=>.fail
def tN (x:AV)(lo hi mx:Option AV):AM AV:=
 match x,mx with
 |.str s,none=>Gp s (dE lo 0) (dE hi s.length)
 |_,_=>.fail
def Nh (es:Nat)(xs:List AV)(es':Nat)(full:Bool)(im ih:Bool):Option Nat->Option Nat->Option Nat->AM AV
 |some l,some h,some m=>
   bif es==es'&&Nat.ble l h&&Nat.ble h m&&Nat.ble m xs.length&&!(im&&!ih) then
    .ret (.vec ((xs.drop l).take (h-l)) es (bif im then m==h else full&&h==xs.length))
   else .fail
 |_,_,_=>.fail
def Ng (es o off:Nat)(mx:Option AV)(ih:Bool):Option Nat->Option Nat->AM AV
 |some l,some h=>.get o fun
   |.arr es' xs=>
    bif es'==es&&Nat.ble l h then
     match mx with
     |none=>bif Nat.ble (off+h) xs.length then .ret (.sl o (off+l) (h-l)) else .fail
     |some (.int _ (.ofNat m))=>bif ih&&Nat.ble (off+m) xs.length&&l==h&&h==m then .ret (.vec [] es' true) else .fail
     |some _=>.fail
    else .fail
   |_=>.fail
 |_,_=>.fail
def Tf (mx ih:Bool):Option Nat->Option Nat->Option Nat->AM AV
 |some 0,some 0,some 0=>bif mx&&!ih then .fail else .ret .sl0
 |_,_,_=>.fail
def oH (es:Nat)(x:AV)(lo hi mx:Option AV):AM AV:=
 match x with
 |.sl0=>Tf mx.isSome hi.isSome (dE lo 0) (dE hi 0) (dE mx 0)
 |.vec xs es' full=>Nh es' xs es full mx.isSome hi.isSome (dE lo 0) (dE hi xs.length) (dE mx xs.length)
 |.sl o off len=>Ng es o off mx hi.isSome (dE lo 0) (dE hi len)
 |_=>.fail
def Kc (es bytes:Nat)(s:AV)(news:List AV):AM AV:=
    match s with
    |.sl0=>match news with
     |[]=>.ret .sl0
     |_::_=>bif lV news.length bytes then .new (.arr es news) fun o=>.ret (.sl o 0 news.length) else .fail
    |.vec xs es' full=>bif es==es' then
      match news with
      |[]=>.ret s
      |_::_=>bif full&&lV (xs.length+news.length) bytes then .new (.arr es (xs++news)) fun o=>.ret (.sl o 0 (xs.length+news.length)) else .fail
     else .fail
    |.sl o off len=>.get o fun
     |.arr es' xs=>bif es==es'&&lV (len+news.length) bytes then
       match news with
       |[]=>.ret s
       |_::_=>
        bif Nat.ble (off+len+news.length) xs.length then
         .set o (.arr es (xs.take (off+len)++(news++xs.drop (off+len+news.length)))) (.ret (.sl o off (len+news.length)))
        else bif off+len==xs.length then
         .del o (.new (.arr es (xs.drop off++news)) fun o'=>.ret (.sl o' 0 (len+news.length)))
        else .fail
      else .fail
     |_=>.fail
    |_=>.fail
def jN (es bytes:Nat)(s x:AV):AM AV:=(nV x es).bind fun news=>bif !(news.all AV.whole) then .fail else Kc es bytes s news
def eM (es:Nat)(agg:Bool)(z:AV)(len:Nat)(parts:List (Nat×AV)):AM AV:=
 match jA es agg (List.replicate len z) parts with
 |some xs=>.ret (.vec xs es true)
 |none=>.fail
def Ie (es bytes:Nat)(agg:Bool)(z:AV)(len cap:AV):AM AV:=
 match len,cap with
 |.int .i64 (.ofNat l),.int .i64 (.ofNat c)=>
   bif Nat.ble l c&&Nat.ble c 9223372036854775807&&lV c bytes then .new (.arr es (List.replicate c z)) fun o=>.ret (.sl o 0 l) else .fail
 |_,_=>.fail
def Ia (z:AV)(ok:Bool):Option AV->AM AV
 |some v=>.ret (bif ok then .tup [v,.bool true] else v)
 |none=>.ret (bif ok then .tup [z,.bool false] else z)
def Lt (z:AV)(ok:Bool):Option (Option AV)->AM AV
 |some r=>Ia z ok r
 |none=>.fail
def oX (z:AV)(m k:AV)(ok:Bool):AM AV:=
 match m with
 |.map0=>Ia z ok none
 |.map o=>.get o fun
  |.map kv=>Lt z ok (mY k kv)
  |_=>.fail
 |_=>.fail
def sY (m k v:AV):AM Unit:=
 match m with
 |.map o=>.get o fun
  |.map kv=>match jM k v kv with
   |some kv'=>.set o (.map kv') (.ret ())
   |none=>.fail
  |_=>.fail
 |_=>.fail
def isStr:AV->Bool
 |.str _=>true
 |_=>false
def qBA:AV->Bool
 |.int _ _=>true
 |_=>false
def qA8:AV->Bool
 |.bool _=>true
 |_=>false
def Df (z:Option AV)(x:AV)(asserted:TypeId)(ok:Bool):AM AV:=
 match x with
 |.if0=>bif ok then (match z with | some z=>.ret (.tup [z,.bool false]) | none=>.fail) else .fail
 |.iface t v=>
  if t=asserted then .ret (bif ok then .tup [v,.bool true] else v)
  else bif ok then (match z with | some z=>.ret (.tup [z,.bool false]) | none=>.fail) else .fail
 |_=>.fail
def vM (k:IntKind)(x:AV):AM AV:=
 match x with
 |.int _ n=>.ret (.int k (k.wrap n))
 |_=>.fail
def KG (x:AV):AM AV:=
 match x with
 |.int _ n=>.ret (.str (Utf8.encode n).data.toList)
 |.str s=>.ret (.str s)
 |_=>.fail
def Yc (x:AV):AM AV:=bif !(Zp x) then .fail else (nV x 1).bind fun xs=>match bytesOf xs with
   |some l=>.ret (.str l)
   |none=>.fail
section
variable {P:Program}{t e:TypeId}
theorem cZ (h1:dR P t=some false){n:Nat}(h2:bN P t=some n)(cs:List AV)(i:Nat):cN P t cs i=dC cs i:=by unfold cN;rw[h1,h2];rfl
theorem iF (h1:dR P t=some true){n:Nat}(h2:bN P t=some n)(cs:List AV)(i:Nat):cN P t cs i=iP n cs i:=by unfold cN;rw[h1,h2];rfl
theorem cQ (h1:dR P t=some false){n:Nat}(h2:bN P t=some n)(es:Nat)(xs:List AV)(i:Nat):cF P t es xs i=dM dC es xs i:=by
 unfold cF dM;cases xs[i / es]? with
 |none=>rfl
 |some x=>cases x<;>first | rfl | exact cZ h1 h2 _ _
theorem fD (h1:dR P t=some true){n:Nat}(h2:bN P t=some n)(es:Nat)(xs:List AV)(i:Nat):cF P t es xs i=dM (iP n) es xs i:=by
 unfold cF dM;cases xs[i / es]? with
 |none=>rfl
 |some x=>cases x<;>first | rfl | exact iF h1 h2 _ _
theorem dD {n:Nat}(h2:bN P t=some n)(cs:List AV)(i:Nat)(v:AV):dP P t cs i v=dQ n cs i v:=by
 unfold dP dQ;rw[h2];rfl
theorem cH {n:Nat}(h2:bN P t=some n)(es:Nat)(xs:List AV)(i:Nat)(v:AV):cP P t es xs i v=fE n es xs i v:=by
 unfold cP fE;cases xs[i / es]? with
 |none=>rfl
 |some x=>cases x<;>first | rfl | (simp only[dD h2];rfl)
theorem mJ (h:P.underlying t=some (.slice e))(x:AV):pK P #[t] x=kR x:=by
 unfold pK;simp only[List.getElem?_toArray,List.getElem?_cons_zero,h];cases x<;>rfl
theorem GA (h:P.underlying t=some .string)(x:AV):pK P #[t] x=Rx x:=by
 unfold pK;simp only[List.getElem?_toArray,List.getElem?_cons_zero,h];cases x<;>rfl
theorem qN (h:P.underlying t=some (.slice e)){es:Nat}(h2:bN P e=some es)(x i:AV):dU P t x i=rK es x i:=by
 unfold dU rK;cases i<;>try rfl
 simp only[h,h2];cases x<;>try rfl
theorem RO (h:P.underlying t=some .string)(x i:AV):sG P t x i=Vw x i:=by
 unfold sG Vw;cases i<;>try rfl
 simp only[h];cases x<;>rfl
theorem BH (h:P.underlying t=some .string)(x:AV)(lo hi mx:Option AV):lK P t x lo hi mx=tN x lo hi mx:=by
 unfold lK tN;rw[h];cases x<;>try (cases mx<;>rfl)
 cases mx with
 |none=>simp only;cases dE lo 0<;>cases dE hi _<;>rfl
 |some m=>simp only;cases dE lo 0<;>cases dE hi _<;>rfl
theorem wS (h:P.underlying t=some (.slice e)){es:Nat}(h2:bN P e=some es)(x:AV)(lo hi mx:Option AV):lK P t x lo hi mx=oH es x lo hi mx:=by
 unfold lK oH;rw[h];cases x<;>try rfl
 .simp only[h2,Tf];cases dE lo 0 with
  |none=>rfl
  |some l=>
   cases dE hi 0 with
   |none=>cases l<;>rfl
   |some u=>
    cases dE mx 0 with
    |none=>cases l<;>cases u<;>rfl
    |some m=>cases l<;>cases u<;>cases m<;>first | rfl | (cases mx<;>cases hi<;>rfl)
 .rename_i xs es' f;simp only[h2];cases dE lo 0<;>cases dE hi xs.length<;>cases dE mx xs.length<;>first | rfl | (cases mx<;>cases hi<;>rfl)
 .rename_i o off len;simp only[h2];cases dE lo 0<;>cases dE hi len<;>rfl
theorem kP (h1:oI P t=some e){u:TypeId}{ud:TypeDesc}(h2:P.underlying u=some ud)(h3:qL ud=false){es bytes:Nat}(h4:bN P e=some es)(h5:qY P e=some bytes){z:AV}(h6:bK P e=some z)
  (h7:(es==0 || !(z.whole&&z.cells.length==es))=false) (s x:AV):jH P #[t,u] s x=jN es bytes s x:=by
 unfold jH jN;simp only[List.getElem?_toArray,List.getElem?_cons_zero,List.getElem?_cons_succ,h1,h2,h4,h5,h6,h3,Bool.false_or,h7,cond_false]
 congr 1
theorem dB (h1:oI P t=some e){es:Nat}{agg:Bool}{z:AV}(h2:bN P e=some es)(h3:dR P e=some agg)(h4:bK P e=some z)(len:Nat)(h5:(Nat.ble (len*es) 16777216&&!(es==0)&&z.cells.length==es&&z.whole&&oV agg z)=true)
  (parts:List (Nat×AV)):bU P t len parts=eM es agg z len parts:=by
 unfold bU eM;simp only[h1,h2,h3,h4,h5,cond_true];cases jA es agg (List.replicate len z) parts<;>rfl
theorem Zx (h1:oI P t=some e){es bytes:Nat}{agg:Bool}{z:AV}(h2:bN P e=some es)(hb:qY P e=some bytes)(h3:dR P e=some agg)(h4:bK P e=some z)(h5:(!(es==0)&&z.cells.length==es&&z.whole&&oV agg z)=true)
  (len cap:AV):kJ P t len cap=Ie es bytes agg z len cap:=by
 unfold kJ Ie;simp only[h1];cases len<;>try rfl
 rename_i k l;cases k<;>try rfl
 cases l<;>try rfl
 rename_i l;cases cap<;>try rfl
 rename_i k c;cases k<;>try rfl
 cases c<;>try rfl
 rename_i c;simp only[h2,hb,h3,h4];simp only[Bool.and_eq_true]at h5;obtain⟨⟨⟨a,b⟩,c'⟩,d⟩:=h5;simp only[a,b,c',d,Bool.and_true]
theorem sK {k:TypeId}(h:P.underlying t=some (.map k e)){z:AV}(h2:bK P e=some z)(m x:AV)(ok:Bool)(hk:nJ P k x=true):kH P t m x ok=oX z m x ok:=by
 unfold kH oX;simp only[h,hk,cond_true,h2];cases m<;>rfl
theorem wV {k:TypeId}(h:P.underlying t=some (.map k e))(m x v:AV)(hk:nJ P k x=true):fY P t m x v=sY m x v:=by
 unfold fY sY;simp only[h,hk,cond_true];cases m<;>rfl
theorem mH (h:P.underlying t=some .string)(s:List UInt8):nJ P t (.str s)=true:=by unfold nJ;rw[h]
theorem Gt {d:TypeDesc}(h:P.underlying t=some d)(hd:∀ ms,d≠.interface ms)(x:AV)(xt:TypeId)(ok:Bool):iA P x xt t ok=Df (bK P t) x t ok:=by
 unfold iA Df;rw[h];cases d<;>first | (exact absurd rfl (hd _)) | (cases x<;>rfl)
theorem Kt {s:TypeId}{ds:TypeDesc}(h0:P.underlying s=some ds)(hds:∀ u,ds≠.slice u){k:IntKind}(h:P.underlying t=some (.int k))(x:AV):lD P s t x=vM k x:=by
 unfold lD vM;rw[h0,h];cases ds<;>first | (exact absurd rfl (hds _)) | (cases x<;>rfl)
theorem Vx {d:TypeDesc}(h:P.underlying t=some d)(hd:∀ ms,d≠.interface ms)(x:AV):Bu P t x=.ret (.val (.iface t x)):=by
 unfold Bu;rw[h];cases d<;>first | (exact absurd rfl (hd _)) | rfl
theorem aH {f : FuncId}{fn : Func}{c : Code} (h : P.funcs[f]? = some fn) (h1 : fn.body = some c) (h2 : (fn.name == "runtime.NumGoroutine") = false) (args : List AV) : aT P f args = .ret (.enter f args) := by
 unfold aT;simp only[h,h1,h2,cond_false]
end
theorem Bj (k n:Nat)(h:k<n):inside (k:Int) n=some k:=by
 show (bif Nat.blt k n then some k else none)=_;rw[Qa,decide_eq_true h];rfl
theorem Km (d:Nat):dE none d=some d:=rfl
theorem Qb (k:IntKind)(n d:Nat):dE (some (.int k (n:Int))) d=some n:=rfl
def gP (f:List AV->Nat->Option AV)(x:Option AV)(off:Nat):Option AV:=
 match x with
 |some .unk=>none
 |some x=>f x.cells off
 |none=>none
theorem Cm (f:List AV->Nat->Option AV)(es:Nat)(xs:List AV)(k off:Nat)(h:off<es):dM f es xs (k*es+off)=gP f xs[k]? off:=by
 unfold dM gP;have h1:(k*es+off) / es=k:=(by rw[Nat.mul_comm,Nat.mul_add_div om,Nat.div_eq_of_lt h];rfl);have h2:(k*es+off) % es=off:=(by rw[Nat.mul_comm,Nat.mul_add_mod,Nat.mod_eq_of_lt h]);rw[h1,h2]
theorem Sz (f:List AV->Nat->Option AV)(es:Nat)(xs:List AV)(k:Nat)(h:0<es):dM f es xs (k*es)=gP f xs[k]? 0:=Cm f es xs k 0 h
theorem AL (f:List AV->Nat->Option AV)(cs:List AV)(off:Nat):gP f (some (.agg cs)) off=f cs off:=rfl
theorem AR (f:List AV->Nat->Option AV)(v:AV)(off:Nat)(h:v.one=true):gP f (some v) off=f [v] off:=by cases v<;>first | (cases h;done) | rfl
theorem AP (k':IntKind)(i:Int)(f:List AV->Nat->Option AV)(off:Nat):gP f (some (.int k' i)) off=f [.int k' i] off:=rfl
theorem AU (s:List UInt8)(f:List AV->Nat->Option AV)(off:Nat):gP f (some (.str s)) off=f [.str s] off:=rfl
theorem Ss (b:Bool)(f:List AV->Nat->Option AV)(off:Nat):gP f (some (.bool b)) off=f [.bool b] off:=rfl
theorem AT  (f:List AV->Nat->Option AV)(off:Nat):gP f (some (.sl0)) off=f [.sl0] off:=rfl
theorem AW (xs:List AV)(e:Nat)(b:Bool)(f:List AV->Nat->Option AV)(off:Nat):gP f (some (.vec xs e b)) off=f [.vec xs e b] off:=rfl
theorem Sw  (f:List AV->Nat->Option AV)(off:Nat):gP f (some (.ptr0)) off=f [.ptr0] off:=rfl
theorem AO  (f:List AV->Nat->Option AV)(off:Nat):gP f (some (.if0)) off=f [.if0] off:=rfl
theorem Sv  (f:List AV->Nat->Option AV)(off:Nat):gP f (some (.map0)) off=f [.map0] off:=rfl
theorem AN  (f:List AV->Nat->Option AV)(off:Nat):gP f (some (.fn0)) off=f [.fn0] off:=rfl
theorem AQ (o:Nat)(f:List AV->Nat->Option AV)(off:Nat):gP f (some (.map o)) off=f [.map o] off:=rfl
theorem AS (o i:Nat)(f:List AV->Nat->Option AV)(off:Nat):gP f (some (.ref o i)) off=f [.ref o i] off:=rfl
theorem Mz (t:TypeId)(v:AV)(f:List AV->Nat->Option AV)(off:Nat):gP f (some (.iface t v)) off=f [.iface t v] off:=rfl
theorem Sy (xs:List AV)(e i:Nat)(f:List AV->Nat->Option AV)(off:Nat):gP f (some (.pvec xs e i)) off=f [.pvec xs e i] off:=rfl
theorem GZ (g:Fn)(a c:List AV)(f:List AV->Nat->Option AV)(off:Nat):gP f (some (.fn g a c)) off=f [.fn g a c] off:=rfl
theorem Su (o i:Nat)(f:List AV->Nat->Option AV)(off:Nat):gP f (some (.gref o i)) off=f [.gref o i] off:=rfl
theorem Dn (n es:Nat)(xs:List AV)(k off:Nat)(v:AV)(h:off<es):fE n es xs (k*es+off) v=match xs[k]? with
 |some .unk=>none
 |some x=>match dQ n x.cells off v with
  |some cs=>bif cs.all AV.one then some (xs.set k (lJ x cs)) else none
  |none=>none
 |none=>none:=by
 unfold fE;have h1:(k*es+off) / es=k:=(by rw[Nat.mul_comm,Nat.mul_add_div om,Nat.div_eq_of_lt h];rfl);have h2:(k*es+off) % es=off:=(by rw[Nat.mul_comm,Nat.mul_add_mod,Nat.mod_eq_of_lt h]);rw[h1,h2]
theorem MV {a b:Nat}(h:a<=b):(a<=b)=True:=eq_true h
theorem MD (a b:Nat):((a:Int)+(b:Int))=((a+b:Nat):Int):=(Int.natCast_add a b).symm
theorem FB (a:Nat):((a:Int)+1)=((a+1:Nat):Int):=rfl
theorem FC (a:Nat):((a:Int)+2)=((a+2:Nat):Int):=rfl
theorem ME (a b:Nat)(h:b<=a):((a:Int)-(b:Int))=((a-b:Nat):Int):=om
theorem FD (a:Nat)(h:1<=a):((a:Int)-1)=((a-1:Nat):Int):=om
attribute [go_sem] Cm Sz AL AR AP AU Ss AT AW Sw AO Sv AN AQ AS Mz Sy GZ Su Dn MV MD FB FC ME FD true_or or_true
attribute [go_sem] dC iP dQ kR Rx RS FQ FP rK FO Vw Gp tN Nh Ng Tf oH Kc jN eM Ie Ia Lt oX sY Df vM KG Yc Bj Km Qb nV Zp lJ
def qCU:=@gP.eq_1
theorem tH {h:Hp}{n o:Nat}{x:aK}(hl:aE n h)(hx:h.get o=some x):o<n:=hl.lt_of_get hx
theorem Hz (h:Hp)(n:Nat)(x:aK):Hp.get ((n,x)::h) n=some x:=by simp[Hp.get]
theorem uN (h:Hp)(n t:Nat)(x:aK)(ht:t≠n):Hp.get ((n,x)::h) t=h.get t:=by
 have:(n==t)=false:=(by simp[Ne.symm ht]);simp[Hp.get,this]
structure Lo (n:Nat)(h:Hp)(X:List (Nat×aK))(n1:Nat)(h1:Hp):Prop where
 le:n<=n1
 lt:aE n1 h1
 keep:∀ t,t<n->h1.get t=h.get t
 hold:∀ q ∈ X,h1.get q.1=some q.2/\n<=q.1
 ord:X.Pairwise fun p q=>q.1<p.1
section
variable {n n1 n2:Nat}{h h1 h2:Hp}{X:List (Nat×aK)}
theorem Lo.start (hl:aE n h):Lo n h [] n h:=⟨Nat.le_refl _,hl,fun _ _=>rfl,fun _ M=>(by cases M),.nil⟩
theorem Lo.below (T:Lo n h X n1 h1):∀ q ∈ X,q.1<n1:=fun q M=>tH T.lt (T.hold q M).1
theorem Lo.quiet (T:Lo n h X n1 h1)(hle:n1<=n2)(hl:aE n2 h2)(k:∀ t,t<n1->h2.get t=h1.get t):Lo n h X n2 h2:=
 ⟨Nat.le_trans T.le hle,hl,fun t O=>(k t (Nat.lt_of_lt_of_le O T.le)).trans (T.keep t O),fun q M=>⟨(k _ (T.below q M)).trans (T.hold q M).1,(T.hold q M).2⟩,T.ord⟩
theorem Lo.sub {Y:List (Nat×aK)}(T:Lo n h X n1 h1)(hs:Y.Sublist X):Lo n h Y n1 h1:=⟨T.le,T.lt,T.keep,fun q M=>T.hold q (hs.subset M),T.ord.sublist hs⟩
theorem Lo.cell (T:Lo n h X n1 h1)(x:aK):Lo n h ((n1,x)::X) (n1+1) ((n1,x)::h1):=by
 have O:=T.le;refine⟨by omega,fun t U=>by rw[uN _ _ _ _ om];exact T.lt t om,fun t U=>by rw[uN _ _ _ _ om];exact T.keep t U,fun q M=>?_,.cons T.below T.ord⟩;rcases List.mem_cons.1 M with rfl | M
 .exact⟨Hz _ _ _,O⟩
 .obtain⟨a,b⟩:=T.hold q M;exact⟨by rw[uN _ _ _ _ (by have:=T.below q M;omega)];exact a,b⟩
theorem Lo.setAt {X Y:List (Nat×aK)}{a:Nat}{x:aK}(T:Lo n h (X++(a,x)::Y) n1 h1)(y:aK):Lo n h (X++(a,y)::Y) n1 (h1.put a y):=by
 obtain⟨_,hc⟩:=T.hold (a,x) sm;have U:=T.below (a,x) sm;have O:=T.ord;rw[List.pairwise_append]at O;obtain⟨o1,o2,o3⟩:=O;rw[List.pairwise_cons]at o2;have hX:∀ q ∈ X,a<q.1:=fun q M=>o3 q M (a,x) sm;have hY:∀ q ∈ Y,q.1<a:=fun q M=>o2.1 q M;refine⟨T.le,fun t ht=>?_,fun t ht=>?_,fun q M=>?_,?_⟩
 .rw[qCf,if_neg (by simp only at U;omega)];exact T.lt t ht
 .rw[qCf,if_neg (by simp only at hc;omega)];exact T.keep t ht
 .have:q=(a,y)\/(q ∈ X\/q ∈ Y):=by
   rcases List.mem_append.1 M with M | M
   .exact .inr (.inl M)
   .rcases List.mem_cons.1 M with M | M
    .exact .inl M
    .exact .inr (.inr M)
  rcases this with rfl | M
  .exact⟨by rw[qCf,if_pos rfl],hc⟩
  .have a1:q.1≠a:=by
    rcases M with M | M
    .have:=hX q M;omega
    .have:=hY q M;omega
   have a2:q ∈ X++(a,x)::Y:=(by rcases M with M | M<;>simp[M]);obtain⟨u,w⟩:=T.hold q a2;exact⟨by rw[qCf,if_neg a1];exact u,w⟩
 .rw[List.pairwise_append];exact⟨o1,List.pairwise_cons.2 ⟨o2.1,o2.2⟩,fun p hp q M=>by
   rcases List.mem_cons.1 M with rfl | M
   .exact hX p hp
   .exact o3 p hp q (by simp[M])⟩
theorem Lo.delAt {X Y:List (Nat×aK)}{a:Nat}{x:aK}(T:Lo n h (X++(a,x)::Y) n1 h1):Lo n h (X++Y) n1 (h1.del a):=by
 obtain⟨_,hc⟩:=T.hold (a,x) sm;have O:=T.ord;rw[List.pairwise_append]at O;obtain⟨o1,o2,o3⟩:=O;rw[List.pairwise_cons]at o2;refine⟨T.le,fun t ht=>?_,fun t ht=>?_,fun q M=>?_,?_⟩
 .rw[qCe];split
  .rfl
  .exact T.lt t ht
 .rw[qCe,if_neg (by simp only at hc;omega)];exact T.keep t ht
 .have U:q.1≠a:=by
   rcases List.mem_append.1 M with M | M
   .have:=o3 q M (a,x) sm;simp only at this;omega
   .have:=o2.1 q M;simp only at this;omega
  have a1:q ∈ X++(a,x)::Y:=(by rcases List.mem_append.1 M with M | M<;>simp[M]);obtain⟨u,w⟩:=T.hold q a1;exact⟨by rw[qCe,if_neg U];exact u,w⟩
 .rw[List.pairwise_append];exact⟨o1,o2.2,fun p hp q M=>o3 p hp q (by simp[M])⟩
theorem Lo.set1 {a:Nat}{x:aK}{Y:List (Nat×aK)}(T:Lo n h ((a,x)::Y) n1 h1)(y:aK):Lo n h ((a,y)::Y) n1 (h1.put a y):=Lo.setAt (X:=[]) T y
theorem Lo.del1 {a:Nat}{x:aK}{Y:List (Nat×aK)}(T:Lo n h ((a,x)::Y) n1 h1):Lo n h (Y) n1 (h1.del a):=Lo.delAt (X:=[]) T
theorem Lo.g1 {a:Nat}{x:aK}{Y:List (Nat×aK)}(T:Lo n h ((a,x)::Y) n1 h1):h1.get a=some x:=(T.hold (a,x) sm).1
theorem Lo.set2 {a:Nat}{x:aK}{p:Nat×aK}{Y:List (Nat×aK)}(T:Lo n h (p::(a,x)::Y) n1 h1)(y:aK):Lo n h (p::(a,y)::Y) n1 (h1.put a y):=Lo.setAt (X:=[p]) T y
theorem Lo.del2 {a:Nat}{x:aK}{p:Nat×aK}{Y:List (Nat×aK)}(T:Lo n h (p::(a,x)::Y) n1 h1):Lo n h (p::Y) n1 (h1.del a):=Lo.delAt (X:=[p]) T
theorem Lo.g2 {a:Nat}{x:aK}{p:Nat×aK}{Y:List (Nat×aK)}(T:Lo n h (p::(a,x)::Y) n1 h1):h1.get a=some x:=(T.hold (a,x) sm).1
theorem Lo.set3 {a:Nat}{x:aK}{p q:Nat×aK}{Y:List (Nat×aK)}(T:Lo n h (p::q::(a,x)::Y) n1 h1)(y:aK):Lo n h (p::q::(a,y)::Y) n1 (h1.put a y):=Lo.setAt (X:=[p,q]) T y
theorem Lo.del3 {a:Nat}{x:aK}{p q:Nat×aK}{Y:List (Nat×aK)}(T:Lo n h (p::q::(a,x)::Y) n1 h1):Lo n h (p::q::Y) n1 (h1.del a):=Lo.delAt (X:=[p,q]) T
theorem Lo.g3 {a:Nat}{x:aK}{p q:Nat×aK}{Y:List (Nat×aK)}(T:Lo n h (p::q::(a,x)::Y) n1 h1):h1.get a=some x:=(T.hold (a,x) sm).1
theorem Lo.set4 {a:Nat}{x:aK}{p q r:Nat×aK}{Y:List (Nat×aK)}(T:Lo n h (p::q::r::(a,x)::Y) n1 h1)(y:aK):Lo n h (p::q::r::(a,y)::Y) n1 (h1.put a y):=Lo.setAt (X:=[p,q,r]) T y
theorem Lo.del4 {a:Nat}{x:aK}{p q r:Nat×aK}{Y:List (Nat×aK)}(T:Lo n h (p::q::r::(a,x)::Y) n1 h1):Lo n h (p::q::r::Y) n1 (h1.del a):=Lo.delAt (X:=[p,q,r]) T
theorem Lo.g4 {a:Nat}{x:aK}{p q r:Nat×aK}{Y:List (Nat×aK)}(T:Lo n h (p::q::r::(a,x)::Y) n1 h1):h1.get a=some x:=(T.hold (a,x) sm).1
theorem Lo.set5 {a:Nat}{x:aK}{p q r u:Nat×aK}{Y:List (Nat×aK)}(T:Lo n h (p::q::r::u::(a,x)::Y) n1 h1)(y:aK):Lo n h (p::q::r::u::(a,y)::Y) n1 (h1.put a y):=Lo.setAt (X:=[p,q,r,u]) T y
theorem Lo.g5 {a:Nat}{x:aK}{p q r u:Nat×aK}{Y:List (Nat×aK)}(T:Lo n h (p::q::r::u::(a,x)::Y) n1 h1):h1.get a=some x:=(T.hold (a,x) sm).1
theorem Lo.g6 {a:Nat}{x:aK}{p q r u v:Nat×aK}{Y:List (Nat×aK)}(T:Lo n h (p::q::r::u::v::(a,x)::Y) n1 h1):h1.get a=some x:=(T.hold (a,x) sm).1
theorem Lo.newc (T:Lo n h X n1 h1)(x y:aK):Lo n h ((n1,y)::X) (n1+1) (Hp.put ((n1,x)::h1) n1 y):=(T.cell x).set1 y
theorem Lo.drop2 {p q:Nat×aK}{Y:List (Nat×aK)}(T:Lo n h (p::q::Y) n1 h1):Lo n h (p::Y) n1 h1:=T.sub (.cons_cons _ (.cons _ (List.Sublist.refl _)))
theorem Lo.nx {nx:Nat}(T:Lo n h X n1 h1)(hle:n<=nx)(hl:aE nx h1):Lo n h X nx h1:=⟨hle,hl,T.keep,T.hold,T.ord⟩
theorem Lo.l1 {p:Nat×aK}{Y:List (Nat×aK)}(T:Lo n h (p::Y) n1 h1):p.1<n1/\n<=p.1:=⟨T.below p sm,(T.hold p sm).2⟩
theorem Lo.l2 {p q:Nat×aK}{Y:List (Nat×aK)}(T:Lo n h (p::q::Y) n1 h1):q.1<p.1/\n<=q.1:=⟨by have:=T.ord;rw[List.pairwise_cons]at this;exact this.1 q sm,(T.hold q sm).2⟩
theorem Lo.old (T:Lo n h X n1 h1)(hl:aE n h){a:Nat}{x:aK}(ha:h.get a=some x):h1.get a=some x:=(T.keep a (tH hl ha)).trans ha
end
section
variable {P:Program}{Gl:qC6}{Gm:qC7}{Kp:qC8}
theorem aA.lo {n n1:Nat}{h h1:Hp}{X:List (Nat×aK)}{f:FuncId}{args:List AV}{B:Nat->Prop}{Q t}(T:Lo n h X n1 h1)(k:∀ hX,Lo n h X n1 hX->aA P Gl Gm Kp f args n1 hX B Q t):aA P Gl Gm Kp f args n1 h1 B Q t:=k h1 T
theorem yF {ps:List (Nat×Nat)}{i:Nat}{f:jK}{X:Prop}(x:X):∀{recs:List (Nat×jK)},fK ps i f True recs->fK ps i f X recs
 |[],_=>x
 |(j,g)::r,h=>by
  unfold fK at h ⊢;cases hp:Ci ps j i with
  |true=>rw[hp]at h;exact⟨h.1,yF x h.2⟩
  |false=>rw[hp]at h;exact yF x h
theorem fC {ps i d E recs n l}{rest:AV->Nat->Hp->kO->Prop}{Bd:Nat->Prop}{v n' h'}(hc:fK ps i (.call Bd n n') True recs)(w:rest v n' h' ((i,.call Bd n n')::recs)):xL ps i d E recs n l rest Bd (.panicked v) n' h':=by
 rw[rI];exact yF w hc
theorem fW {L:Nat}{B:Nat->Prop}{k:dZ}{ps un:List (Nat×Nat)}{n0 j:Nat}{v:AV}{hj:Hp}{o:Oper}{l:List Oper}{i:Nat}{ix:List (Nat×Tmp)}{E:Env}{n:Nat}{h:Hp}{recs:kO}(hp:Ci un j i=false)
  (w:jF P Gl L B k ps un n0 j v hj l (i+1) ix E n h recs):jF P Gl L B k ps un n0 j v hj (o::l) i ix E n h recs:=by
 unfold jF;rw[hp];exact w
end
def oZ (R:dZ)(ex:mQ)(E:Env)(n:Nat)(h:Hp)(_:Tg R):Prop:=R ex E n h
theorem qCt {R:dZ}{ex:mQ}{E:Env}{n:Nat}{h:Hp}{t}(w:R ex E n h):oZ R ex E n h t:=w
section
variable {P:Program}{Gl:qC6}{Gm:qC7}{Kp:qC8}
theorem cR.cut {x:Ctx}{c:Code}{B:Nat->Prop}{k:dZ}(R:dZ)(Inv:Nat->Env->Nat->Hp->Prop)(m:Nat){E0 E:Env}{n:Nat}{h:Hp}(hs:E0.sub E)(hi:Inv m E0 n h)
  (step:∀ m E n h,aE n h->(∀ t,n<=t->B t)->Inv m E n h->dN P Gl Gm Kp x B c (wD (fun E' n' h'=>aU Inv m E' n' h' ⟨⟩) (fun ex E n h=>oZ R ex E n h ⟨⟩)) E n h)
  (hR:∀ ex E' n' h',n<=n'->aE n' h'->R ex E' n' h'->k ex E' n' h') {t s}:cR P Gl Gm Kp x (.loop c) E n h B k t s:=
 ⟨(qCs (k:=fun ex E n h=>oZ R ex E n h ⟨⟩) Inv (fun m E n h a b c=>aW (step m E n h a b c)) m hs hi).imp fun ex E' n' h' a b _ r=>hR ex E' n' h' a b r⟩
end
def yC:Nat->Code->Code
 |i+1,.seq a b=>.seq a (yC i b)
 |_,_=>.skip
def Cs:Nat->Code->Code
 |i+1,.seq _ b=>Cs i b
 |_,c=>c
theorem AI (i:Nat)(a b:Code):yC (i+1) (.seq a b)=.seq a (yC i b):=rfl
theorem tK (c:Code):yC 0 c=.skip:=by cases c<;>rfl
theorem BL (i:Nat)(a b:Code):Cs (i+1) (.seq a b)=Cs i b:=rfl
theorem tO (c:Code):Cs 0 c=c:=by cases c<;>rfl
attribute [go_sem ↓] AI tK BL tO
def fO (Inv:Env->Nat->Hp->Prop)(E:Env)(n:Nat)(h:Hp)(_:Tg Inv):Prop:=∃ E0,E0.sub E/\Inv E0 n h
theorem qCO {Inv:Env->Nat->Hp->Prop}{E:Env}{n:Nat}{h:Hp}{t}(E0:Env)(hs:E0.sub E)(hi:Inv E0 n h):fO Inv E n h t:=⟨E0,hs,hi⟩
section
variable {P:Program}{Gl:qC6}{Gm:qC7}{Kp:qC8}
theorem bF.split {x:Ctx}{B:Nat->Prop}{k:dZ}(Inv:Env->Nat->Hp->Prop):∀(i:Nat) (c:Code) {E:Env}{n:Nat}{h:Hp},dN P Gl Gm Kp x B (yC i c) (rT (fun E n h=>fO Inv E n h ⟨⟩) k) E n h->
  (∀ E n' h',n<=n'->aE n' h'->(∀ t,n'<=t->B t)->Inv E n' h'->dN P Gl Gm Kp x B (Cs i c) k E n' h')->bF P Gl Gm Kp x c E n h B k
 |0,c,E,n,h,w,w2=>by
  rw[tK]at w;obtain⟨E0,U,hi⟩:=w;rw[tO]at w2;exact bF.less U (bF.lt fun M O=>aW (w2 E0 n h (Nat.le_refl _) M O hi))
 |i+1,.seq a b,E,n,h,w,w2=>by
  have w:dN P Gl Gm Kp x B a (rT (fun E n h=>dN P Gl Gm Kp x B (yC i b) (rT (fun E n h=>fO Inv E n h ⟨⟩) k) E n h) (rT (fun E n h=>fO Inv E n h ⟨⟩) k)) E n h:=w;refine bF.seq ((aW w).imp fun ex E' n' h' a1 M _ w'=>?_);cases ex with
  |normal=>exact bF.split Inv i b w' fun E n2 h2 Y=>w2 E n2 h2 (Nat.le_trans a1 Y)
  |_=>exact w'
 |i+1,.skip,E,n,h,w,w2=>by obtain⟨E0,U,hi⟩:=w;exact bF.less U (bF.lt fun M O=>aW (w2 E0 n h (Nat.le_refl _) M O hi))
 |i+1,.region _ _ _,E,n,h,w,w2=>by obtain⟨E0,U,hi⟩:=w;exact bF.less U (bF.lt fun M O=>aW (w2 E0 n h (Nat.le_refl _) M O hi))
 |i+1,.cond _ _ _,E,n,h,w,w2=>by obtain⟨E0,U,hi⟩:=w;exact bF.less U (bF.lt fun M O=>aW (w2 E0 n h (Nat.le_refl _) M O hi))
 |i+1,.block _ _,E,n,h,w,w2=>by obtain⟨E0,U,hi⟩:=w;exact bF.less U (bF.lt fun M O=>aW (w2 E0 n h (Nat.le_refl _) M O hi))
 |i+1,.loop _,E,n,h,w,w2=>by obtain⟨E0,U,hi⟩:=w;exact bF.less U (bF.lt fun M O=>aW (w2 E0 n h (Nat.le_refl _) M O hi))
 |i+1,.rangeFunc _ _ _ _,E,n,h,w,w2=>by obtain⟨E0,U,hi⟩:=w;exact bF.less U (bF.lt fun M O=>aW (w2 E0 n h (Nat.le_refl _) M O hi))
 |i+1,.exit _,E,n,h,w,w2=>by obtain⟨E0,U,hi⟩:=w;exact bF.less U (bF.lt fun M O=>aW (w2 E0 n h (Nat.le_refl _) M O hi))
 |i+1,.scope _,E,n,h,w,w2=>by obtain⟨E0,U,hi⟩:=w;exact bF.less U (bF.lt fun M O=>aW (w2 E0 n h (Nat.le_refl _) M O hi))
 |i+1,.label _,E,n,h,w,w2=>by obtain⟨E0,U,hi⟩:=w;exact bF.less U (bF.lt fun M O=>aW (w2 E0 n h (Nat.le_refl _) M O hi))
 |i+1,.goto _,E,n,h,w,w2=>by obtain⟨E0,U,hi⟩:=w;exact bF.less U (bF.lt fun M O=>aW (w2 E0 n h (Nat.le_refl _) M O hi))
 |i+1,.ret,E,n,h,w,w2=>by obtain⟨E0,U,hi⟩:=w;exact bF.less U (bF.lt fun M O=>aW (w2 E0 n h (Nat.le_refl _) M O hi))
 |i+1,.refuse _,E,n,h,w,w2=>by obtain⟨E0,U,hi⟩:=w;exact bF.less U (bF.lt fun M O=>aW (w2 E0 n h (Nat.le_refl _) M O hi))
theorem aG.cut {f:FuncId}{fn:Func}{c:Code}{args:List AV}{keep:Bool}{n:Nat}{h:Hp}{B:Nat->Prop}{Q:aS->Nat->Hp->Prop}(L:Nat)(rs:List ResultVar)(i:Nat)(Inv:Env->Nat->Hp->Prop)(hf:P.funcs[f]?=some fn)(hb:fn.body=some c)(hg:Gm f=none)
  (hk:Kp f=(keep,false)) (hL:args.length+(fn.ntmps-args.length)=L) (hr:fn.results.toList=rs)
  (w:(∀ t,n<=t->(n<=t\/B t))->aE n h->dN P Gl Gm Kp ⟨L,[],none⟩ (fun t=>n<=t\/B t) (yC i c) (rT (fun E n h=>fO Inv E n h ⟨⟩) (gS P Gl rs keep (fun t=>n<=t\/B t) Q)) (nT 0 args) n h)
  (w2:(∀ t,n<=t->(n<=t\/B t))->∀ E n1 h1,n<=n1->aE n1 h1->Inv E n1 h1->dN P Gl Gm Kp ⟨L,[],none⟩ (fun t=>n<=t\/B t) (Cs i c) (gS P Gl rs keep (fun t=>n<=t\/B t) Q) E n1 h1):aG P Gl Gm Kp f args n h B Q:=by
 subst hL;subst hr;refine aG.body hg hf hb hk (bF.lt fun Y U=>bF.split Inv i c (w U Y) fun E n' h' O M _ hi=>w2 U E n' h' O M hi)
end
end Go.Ez

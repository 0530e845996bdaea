/- Part 11 of the proof. -/
import Derived.Test.YtknkndglfcfhkaaGreatDoorU10
set_option maxRecDepth 100000
set_option linter.all false
namespace Go.L
open Go Go.Conc Go.Proofs
variable {K:aC} {ro:Nat→Option Obj} {r:aU} {R:(Nat→Int)→Bool} {F:Nat→Nat→Bool} {rs:List aU} {b na k:Nat} {l:List Value} {xs:List Int} {α:Type} {vd:Value}
theorem XY{n i:Nat}(hn:n≤4)(hi:i <n):hasB (IntKind.u8.wrap (dz .u8 1 (n:Int)-1)) i=true:=by
 have h:(n=1∧i=0)∨(n=2∧(i=0∨i=1))∨(n=3∧(i=0∨i=1∨i=2))∨(n=4∧(i=0∨i=1∨i=2∨i=3)):=by omega
 rcases h with ⟨rfl,rfl⟩| ⟨rfl,rfl|rfl⟩| ⟨rfl,rfl|rfl|rfl⟩| ⟨rfl,rfl|rfl|rfl|rfl⟩<;>rfl
def uA(a b:Int)(l:List cY):Bool:=l.any fun x=>(decide (x.a=a)&&decide (x.b=b))&& !x.same
def oC(p:Nat→Int)(l:List cY):Bool:=l.all fun x=> !x.same||decide (p x.a.toNat=x.b+1)
theorem Wu{on:Int}{a b:Int}:∀ {l:List cY} {k:Nat},(∀j,j <l.length→hasB on ((k+j:Nat):Int)=true)→xv on a b l k=uA a b l
 | [],_,_=>rfl
 |x::l,k,h=>by
  have h0:=h 0 (Nat.zero_lt_succ _)
  have ih:=Wu (a:=a) (b:=b) (l:=l) (k:=k+1) fun j hj=>by
   have:=h (j+1) (Nat.succ_lt_succ hj)
   rwa[show k+1+j=k+(j+1) by omega]
  simp only[Nat.add_zero] at h0
  simp only[xv,h0,ih,uA,List.any_cons,Bool.true_and]
theorem JH{on:Int}{p:Nat→Int}:∀ {l:List cY} {k:Nat},(∀j,j <l.length→hasB on ((k+j:Nat):Int)=true)→lu on p l k=oC p l
 | [],_,_=>rfl
 |x::l,k,h=>by
  have h0:=h 0 (Nat.zero_lt_succ _)
  have ih:=JH (p:=p) (l:=l) (k:=k+1) fun j hj=>by
   have:=h (j+1) (Nat.succ_lt_succ hj)
   rwa[show k+1+j=k+(j+1) by omega]
  simp only[Nat.add_zero] at h0
  simp only[lu,h0,ih,oC,List.all_cons,Bool.true_and]
  cases x.same<;>cases decide (p x.a.toNat=x.b+1)<;>simp
def fW(F:Nat→Nat→Bool)(R:(Nat→Int)→Bool)(na:Nat):Nat→Nat→(Nat→Int)→List (Nat→Int)
 |0,_,p=>bif R p then [p] else []
 |n+1,a,p=>fW F R na n (a+1) p++(List.range na).flatMap fun b=>bif !F a b||p6 p a ((b:Int)+1) then [] else fW F R na n (a+1) (gT p a ((b:Int)+1))
def rJ(K:aC)(a b:Nat):Bool:=match K.before[a]?,K.after[b]? with
 |some x,some y=> !kP K x y&&(!nD K x y&& !uA a b K.facts)
 |_,_=>false
theorem anI(h:K.facts.length≤4)(a b:Nat):di K (aD K) a b=rJ K a b:=by
 have e:xv (aD K) a b K.facts 0=uA a b K.facts:=Wu fun j hj=>by
  rw[Nat.zero_add];exact XY h hj
 simp only[di,rJ,e]
 cases K.before[a]?<;>cases K.after[b]?<;>rfl
theorem od(h:K.facts.length≤4):∀(n a:Nat) (p:Nat→Int),iu K (aD K) n a p=fW (rJ K) (fun p=>oC p K.facts) K.after.length n a p
 |0,a,p=>by
  have e:lu (aD K) p K.facts 0=oC p K.facts:=JH fun j hj=>by
   rw[Nat.zero_add];exact XY h hj
  simp only[iu,fW,e]
 |n+1,a,p=>by
  simp only[iu,fW,anI h,od h n]
theorem qd:∀(n a:Nat) (p q:Nat→Int),q∈fW F R na n a p→∀c,c <a→q c=p c
 |0,_,p,q,h,c,_=>by
  simp only[fW] at h
  cases hr:R p
  ·rw[hr] at h;simp at h
  rw[hr] at h;simp at h;rw[h]
 |n+1,a,p,q,h,c,hc=>by
  simp only[fW,List.mem_append,List.mem_flatMap] at h
  rcases h with h| ⟨b,_,h⟩
  ·exact qd n _ _ _ h c (by omega)
  cases hx: !F a b||p6 p a ((b:Int)+1)
  ·rw[hx] at h
   rw[qd n _ _ _ h c (by omega)]
   simp only[gT]
   rw[if_neg (by omega)]
  rw[hx] at h;simp at h
theorem Hs{p:Int→Bool}:∀(l:List Int) (k:Nat),cb p l k≥0↔∃x∈l,p x=true
 | [],k=>by simp[cb]
 |x::l,k=>by
  have ih:=Hs (p:=p) l (k+1)
  simp only[cb,List.mem_cons,exists_eq_or_imp]
  cases h:p x
  ·simp only[cond_false,Bool.false_eq_true,false_or];exact ih
  simp only[cond_true,true_or,iff_true];omega
theorem Wh(p:Nat→Int){a:Nat}(ha:a≤4)(v:Int):v∈(pL p).take a↔∃c,c <a∧p c=v:=by
 have h:a=0∨a=1∨a=2∨a=3∨a=4:=by omega
 constructor
 ·intro hv
  rcases h with rfl|rfl|rfl|rfl|rfl<;>simp[pL] at hv
  ·exact⟨0,by omega,hv.symm⟩
  ·rcases hv with h|h;exact⟨0,by omega,h.symm⟩;exact⟨1,by omega,h.symm⟩
  ·rcases hv with h|h|h;exact⟨0,by omega,h.symm⟩;exact⟨1,by omega,h.symm⟩;exact⟨2,by omega,h.symm⟩
  rcases hv with h|h|h|h;exact⟨0,by omega,h.symm⟩;exact⟨1,by omega,h.symm⟩;exact⟨2,by omega,h.symm⟩;exact⟨3,by omega,h.symm⟩
 rintro⟨c,hc,rfl⟩
 have hc4:c=0∨c=1∨c=2∨c=3:=by omega
 rcases h with rfl|rfl|rfl|rfl|rfl<;>rcases hc4 with rfl|rfl|rfl|rfl<;>first|omega|simp[pL]
theorem Q8{p:Nat→Int}{a:Nat}{v:Int}(ha:a≤4):p6 p a v=true↔∃c,c <a∧p c=v:=by
 simp only[p6,decide_eq_true_eq]
 rw[Hs]
 constructor
 ·rintro⟨x,hx,h⟩
  obtain⟨c,hc,e⟩:=(Wh p ha x).1 hx
  exact⟨c,hc,by rw[e];exact(of_decide_eq_true h).symm⟩
 rintro⟨c,hc,e⟩
 exact⟨v,(Wh p ha v).2 ⟨c,hc,e⟩,decide_eq_true rfl⟩
theorem sG:∀(n a:Nat) (p q:Nat→Int),a+n≤4→(q∈fW F R na n a p↔(∀c,c <a∨a+n≤c→q c=p c)∧(∀c,a≤c→c <a+n→q c=p c∨∃b,b <na∧F c b=true∧q c=(b:Int)+1∧∀d,d <c→q d≠(b:Int)+1)∧R q=true)
 |0,a,p,q,_=>by
  simp only[fW,Nat.add_zero]
  constructor
  ·intro h
   cases hr:R p
   ·rw[hr] at h;simp at h
   rw[hr] at h;simp at h;subst h;exact⟨fun _ _=>rfl,fun c h1 h2=>by omega,hr⟩
  rintro⟨h1,_,h3⟩
  have e:q=p:=funext fun c=>h1 c (by omega)
  subst e
  rw[h3];simp
 |n+1,a,p,q,han=>by
  simp only[fW,List.mem_append,List.mem_flatMap,List.mem_range]
  constructor
  ·rintro(h| ⟨b,hb,h⟩)
   ·obtain⟨h1,h2,h3⟩:=(sG n (a+1) p q (by omega)).1 h
    refine⟨fun c hc=>h1 c (by omega),fun c hc1 SF=>?_,h3⟩
    by_cases e:c=a
    ·exact .inl (h1 c (by omega))
    exact h2 c (by omega) (by omega)
   cases hx: !F a b||p6 p a ((b:Int)+1)
   ·rw[hx] at h
    simp only[cond_false] at h
    obtain⟨h1,h2,h3⟩:=(sG n (a+1) _ q (by omega)).1 h
    simp only[Bool.or_eq_false_iff,Bool.not_eq_false'] at hx
    have hp:∀c,c≠a→gT p a ((b:Int)+1) c=p c:=fun c hc=>by simp[gT,hc]
    refine⟨fun c hc=>by rw[h1 c (by omega),hp c (by omega)],fun c hc1 SF=>?_,h3⟩
    by_cases e:c=a
    ·subst e
     have hq:q c=(b:Int)+1:=by rw[h1 c (by omega)];simp[gT]
     refine .inr ⟨b,hb,hx.1,hq,fun d hd hqd=>?_⟩
     have:p6 p c ((b:Int)+1)=true:=(Q8 (by omega)).2 ⟨d,hd,by rw[←hqd,h1 d (by omega),hp d (by omega)]⟩
     rw[hx.2] at this;cases this
    rcases h2 c (by omega) (by omega) with h|h
    ·exact .inl (by rw[h,hp c e])
    exact .inr h
   rw[hx] at h;simp at h
  rintro⟨h1,h2,h3⟩
  rcases h2 a (Nat.le_refl _) (by omega) with he| ⟨b,hb,hF,hq,hd⟩
  ·left
   exact(sG n (a+1) p q (by omega)).2 ⟨fun c hc=>by
    by_cases e:c=a
    ·rw[e];exact he
    exact h1 c (by omega),fun c hc1 SF=>h2 c (by omega) (by omega),h3⟩
  right
  refine⟨b,hb,?_⟩
  have hx:(!F a b||p6 p a ((b:Int)+1))=false:=by
   cases hh:p6 p a ((b:Int)+1)
   ·simp[hF]
   obtain⟨c,hc,e⟩:=(Q8 (by omega)).1 hh
   exact absurd (by rw[h1 c (by omega),e]) (hd c hc)
  rw[hx]
  simp only[cond_false]
  refine(sG n (a+1) _ q (by omega)).2 ⟨fun c hc=>?_,fun c hc1 SF=>?_,h3⟩
  ·by_cases e:c=a
   ·rw[e,hq];simp[gT]
   rw[h1 c (by omega)];simp[gT,e]
  have:gT p a ((b:Int)+1) c=p c:=by simp[gT,show c≠a by omega]
  rw[this]
  exact h2 c (by omega) (by omega)
theorem jk(h:K.facts.length≤4)(hb:K.before.length≤4){q:Nat→Int}:q∈aO K (aD K)↔(∀c,q c=0∨(c <K.before.length∧∃b,b <K.after.length∧rJ K c b=true∧q c=(b:Int)+1))∧(∀c d,d <c→q c=q d→q c=0)∧oC q K.facts=true:=by
 rw[aO,od h,sG _ _ _ _ (by omega)]
 constructor
 ·rintro⟨h1,h2,h3⟩
  have key:∀c,q c=0∨(c <K.before.length∧∃b,b <K.after.length∧rJ K c b=true∧q c=(b:Int)+1∧∀d,d <c→q d≠(b:Int)+1):=fun c=>by
   by_cases hc:c <K.before.length
   ·rcases h2 c (Nat.zero_le _) (by omega) with e| ⟨b,h⟩
    ·exact .inl e
    exact .inr ⟨hc,b,h⟩
   exact .inl (h1 c (.inr (by omega)))
  refine⟨fun c=>?_,fun c d hd e=>?_,h3⟩
  ·rcases key c with e| ⟨hc,b,hb1,fK,hb3,_⟩
   ·exact .inl e
   exact .inr ⟨hc,b,hb1,fK,hb3⟩
  rcases key c with e2| ⟨hc,b,_,_,hq,dK⟩
  ·exact e2
  exact absurd (by rw[←e,hq]) (dK d hd)
 rintro⟨h1,h2,h3⟩
 refine⟨fun c hc=>?_,fun c _ hc=>?_,h3⟩
 ·rcases h1 c with e| ⟨SF,_⟩
  ·exact e
  omega
 rcases h1 c with e| ⟨_,b,hb1,fK,hq⟩
 ·exact .inl e
 refine .inr ⟨b,hb1,fK,hq,fun d hd e=>?_⟩
 have:=h2 c d hd (by rw[hq,e])
 omega
theorem vM:∀(n a:Nat) (p:Nat→Int),(∀c,a≤c→p c=0)→(fW F R na n a p).Nodup
 |0,_,p,_=>by
  simp only[fW]
  cases R p<;>simp
 |n+1,a,p,hp=>by
  simp only[fW]
  have h0:∀c,a+1≤c→p c=0:=fun c hc=>hp c (by omega)
  have hb:∀b:Nat,∀c,a+1≤c→gT p a ((b:Int)+1) c=0:=fun b c hc=>by
   simp[gT,show c≠a by omega,hp c (by omega)]
  have val:∀b q,q∈(bif !F a b||p6 p a ((b:Int)+1) then [] else fW F R na n (a+1) (gT p a ((b:Int)+1)))→q a=(b:Int)+1:=fun b q h=>by
   cases hx: !F a b||p6 p a ((b:Int)+1)
   ·rw[hx] at h
    simp only[cond_false] at h
    rw[qd n _ _ _ h a (by omega)];simp[gT]
   rw[hx] at h;simp at h
  refine List.nodup_append.2 ⟨vM n _ _ h0,?_,fun q hq q' EV e=>?_⟩
  ·refine List.pairwise_flatMap.2 ⟨fun b _=>?_,?_⟩
   ·cases !F a b||p6 p a ((b:Int)+1)
    ·exact vM n _ _ (hb b)
    simp
   refine List.nodup_range.imp fun {b b'} Hd x hx y hy e=>?_
   have h1:=val b x hx
   have h2:=val b' y hy
   rw[e] at h1
   omega
  obtain⟨b,_,h⟩:=List.mem_flatMap.1 EV
  have h1:=val b q' h
  have h2:=qd n _ _ _ hq a (by omega)
  rw[hp a (Nat.le_refl _),e] at h2
  omega
theorem PS(h:K.facts.length≤4):(aO K (aD K)).Nodup:=by
 rw[aO,od h]
 exact vM _ _ _ fun _ _=>rfl
theorem xK{β:Type}{f:α→β}:∀ {l:List α} {m:List β},l.Nodup→(∀x∈l,f x∈m)→(∀x∈l,∀y∈l,f x=f y→x=y)→l.length≤m.length
 | [],_,_,_,_=>Nat.zero_le _
 |x::l,m,hn,hm,hi=>by
  obtain⟨m1,m2,rfl⟩:=List.append_of_mem (hm x List.mem_cons_self)
  have hn':=List.nodup_cons.1 hn
  have:=xK (f:=f) (l:=l) (m:=m1++m2) hn'.2 (fun y hy=>by
   have h1:=hm y (List.mem_cons_of_mem _ hy)
   simp only[List.mem_append,List.mem_cons] at h1 ⊢
   rcases h1 with h|h|h
   ·exact .inl h
   ·exact absurd (hi y (List.mem_cons_of_mem _ hy) x List.mem_cons_self h) (fun e=>hn'.1 (e▸hy))
   exact .inr h) (fun a ha b hb=>hi a (List.mem_cons_of_mem _ ha) b (List.mem_cons_of_mem _ hb))
  simp only[List.length_cons,List.length_append] at this ⊢
  omega
theorem Uc{l:List Int}{v:Int}:0≤cb (fun y=>decide (y=v)) l 0↔v∈l:=by
 have:=Hs (p:=fun y=>decide (y=v)) l 0
 simp only[ge_iff_le] at this
 rw[this]
 constructor
 ·rintro⟨x,h1,h2⟩;rwa[of_decide_eq_true h2] at h1
 exact fun h=>⟨v,h,decide_eq_true rfl⟩
theorem afb{rows:List bG}{a:Nat}(hK:fP ro l K)(hV:eN K)(hB:jE ro l K rows)(zh:a <K.before.length)(Hd:b <K.after.length):dR zT 43 [.agg ⟨l⟩,zI (a:Int),zI (b:Int)] ro [] (fun r Y=>∃f,r= .tuple ⟨[pV f,zI 0]⟩∧(∀aI,Sub ro aI→Knows aI Y→oL aI f K rows)):=by
 obtain⟨v0,v1,v3,v4,v5,v6,v7,vb,fa,fc,hv,rfl,_,_,_,_,_,hb,ha,_⟩:=id hK
 obtain⟨lB,Ox,Ov,lf,rfl,Ow,Mt,Ms⟩:=hb
 obtain⟨kR,JZ,JX,kK,rfl,JY,IS,IQ⟩:=ha
 have B6:=hV.before.1
 have EX:=hV.after.1
 refine zE<|zD 2<|jn fun b3=>jd 6 [0]<|jc (vs:=[.agg ⟨[v0,v1,.slice fa 0 fc,v3,v4,v5,.slice lB K.before.length lf,.slice kR K.after.length kK,zI K.gone,zI K.new,zI K.af,vb]⟩]) [] (hB _ (Sub.refl _)) ?_
 rintro _ Y12 ⟨f12,rfl,awb⟩
 refine jd 22 [1]<|ja ((K.before.length:Int)-1) (by omega)<|jp (vs:=[zI (a:Int),zI 0,zI ((K.before.length:Int)-1)]) [] [] (fun aH hs hZ=>eY)<|zD 3<|js 19 (!(iy (a:Int) 0 ((K.before.length:Int)-1))) (fun h1=>?_) (fun h1=>?_)
 ·
  try simp only[zB] at h1
  exfalso;simp only[iy,Bool.and_eq_false_iff,decide_eq_false_iff_not] at h1;omega
 try simp only[zB] at h1
 refine jd 6 [1]<|ja ((K.after.length:Int)-1) (by omega)<|jp (vs:=[zI (b:Int),zI 0,zI ((K.after.length:Int)-1)]) [] [] (fun aH hs hZ=>eY)<|zD 3<|js 19 (!(iy (b:Int) 0 ((K.after.length:Int)-1))) (fun h2=>?_) (fun h2=>?_)
 ·
  try simp only[zB] at h2
  exfalso;simp only[iy,Bool.and_eq_false_iff,decide_eq_false_iff_not] at h2;omega
 try simp only[zB] at h2
 refine zD 9<|zR (.tuple ⟨[zP f12,zI 0]⟩) [] [0] Y12 ⟨f12,rfl,awb⟩
theorem FD{f g:α→Nat}:∀ {l:List α},(∀x∈l,f x≤g x)→(l.map f).sum≤(l.map g).sum
 | [],_=>Nat.le_refl _
 |x::l,h=>by
  have h1:=h x List.mem_cons_self
  have h2:=FD (f:=f) (g:=g) (l:=l) fun y hy=>h y (List.mem_cons_of_mem _ hy)
  simp only[List.map_cons,List.sum_cons]
  omega
theorem R9{on:Int}{keep P:aj→Bool}{rows:List bG}:(cW K on keep rows).countP P=((List.range rows.length).map fun i=>(aO K on).countP fun q=>P (cq K ((rows[i]?).getD ⟨fun _ _=>false⟩) i q)&&keep (cq K ((rows[i]?).getD ⟨fun _ _=>false⟩) i q)).sum:=by
 simp only[cW,ig,List.countP_flatten,List.map_map]
 congr 1
 refine List.map_congr_left fun i _=>?_
 simp only[Function.comp,mO,List.countP_filter,List.countP_map]
 rfl
theorem Vq{P P':α→Bool}{f:α→α}{l m:List α}(hl:l.Nodup)(hm:∀x∈l,P x=true→f x∈m∧P' (f x)=true)(hi:∀x∈l,∀y∈l,f x=f y→x=y):l.countP P≤m.countP P':=by
 rw[List.countP_eq_length_filter,List.countP_eq_length_filter]
 refine xK (f:=f) (List.Pairwise.filter _ hl) (fun x hx=>?_) fun x hx y hy=>hi x (List.mem_filter.1 hx).1 y (List.mem_filter.1 hy).1
 have:=List.mem_filter.1 hx
 exact List.mem_filter.2 (hm x this.1 this.2)
theorem YI{K':aC}{on':Int}{keep GB P P':aj→Bool}{rows JG:List bG}{f:(Nat→Int)→Nat→Int}(hf:K.facts.length≤4)(hl:rows.length=JG.length)
 (hp:∀q∈aO K (aD K),f q∈aO K' on')(hi:∀q∈aO K (aD K),∀p∈aO K (aD K),f q=f p→q=p)
 (hk:∀i r r',rows[i]?=some r→JG[i]?=some r'→∀q∈aO K (aD K),P (cq K r i q)=true→keep (cq K r i q)=true→P' (cq K' r' i (f q))=true∧GB (cq K' r' i (f q))=true):
 (cW K (aD K) keep rows).countP P≤(cW K' on' GB JG).countP P':=by
 rw[R9,R9,←hl]
 refine FD fun i QV=>?_
 have h1:=List.mem_range.1 QV
 have e1:rows[i]?=some rows[i]:=List.getElem?_eq_getElem h1
 have e2:JG[i]?=some (JG[i]'(hl▸h1)):=List.getElem?_eq_getElem _
 rw[e1,e2]
 simp only[Option.getD_some]
 refine Vq (f:=f) (PS hf) (fun q hq h=>?_) hi
 simp only[Bool.and_eq_true] at h ⊢
 exact⟨hp q hq,hk i _ _ e1 e2 q hq h.1 h.2⟩
theorem MT{l:List ByteArray}{x:ByteArray}:∀k,x∈dd (l.take k)↔x∈l.take k
 |0=>by simp[dd]
 |k+1=>by
  have ih:=MT (l:=l) (x:=x) k
  cases h:l[k]? with
  |none=>
   have hl:l.length≤k:=List.getElem?_eq_none_iff.1 h
   rw[List.take_of_length_le hl] at ih
   rw[List.take_of_length_le (by omega)]
   exact ih
  |some y=>
   rw[ee h,E7]
   split
   ·rename_i hy
    rw[ih,List.mem_append]
    constructor
    ·exact .inl
    rintro(h|h)
    ·exact h
    rw[List.mem_singleton.1 h];exact(MT (l:=l) (x:=y) k).1 hy
   rw[List.mem_append,List.mem_append,ih]
theorem aex{l:List ByteArray}{x:ByteArray}:x∈dd l↔x∈l:=by
 have:=MT (l:=l) (x:=x) l.length
 rwa[List.take_length] at this
theorem RS{rs':List aU}{to:ByteArray}(h:∀w x,x∈mM w rs→x∈mM w rs'):∀(n:Nat) (w:ByteArray) (b b':List ByteArray),DE rs to n w b≠[]→DE rs' to n w b'≠[]
 |0,w,b,b'=>by
  simp only[DE]
  split
  ·exact fun _=>by simp
  exact fun h=>absurd rfl h
 |n+1,w,b,b'=>by
  intro dK
  obtain⟨x,hx⟩:=List.exists_mem_of_ne_nil _ dK
  simp only[DE,List.mem_flatMap] at hx
  obtain⟨s,hs,hx⟩:=hx
  obtain⟨y,hy⟩:=List.exists_mem_of_ne_nil _ (RS h n s (b++[w]) (b'++[w]) (List.ne_nil_of_mem hx))
  refine List.ne_nil_of_mem (a:=y) ?_
  simp only[DE,List.mem_flatMap]
  exact⟨s,aex.2 (h w s (aex.1 hs)),hy⟩
theorem O0{rs:List aU}{a to:ByteArray}:∀(f m:Nat),uqN rs a to f m=none↔∀i,i <f→DE rs to (m+i) a []=[]
 |0,m=>⟨fun _ i hi=>absurd hi (Nat.not_lt_zero _),fun _=>rfl⟩
 |f+1,m=>by
  rw[uqN]
  have ih:=O0 (rs:=rs) (a:=a) (to:=to) f (m+1)
  cases hd:decide (0 <(DE rs to m a []).length) with
  |true=>
   simp only[cond_true]
   constructor
   ·intro h;cases h
   intro h
   have h0:=h 0 (by omega)
   rw[Nat.add_zero] at h0
   rw[h0] at hd
   simp at hd
  |false=>
   simp only[cond_false]
   have h0:DE rs to m a []=[]:=List.eq_nil_of_length_eq_zero (by have:=of_decide_eq_false hd;omega)
   rw[ih]
   constructor
   ·intro h i hi
    cases i with
    |zero=>exact h0
    |succ i=>rw[show m+(i+1)=m+1+i by omega];exact h i (by omega)
   intro h i hi
   have:=h (i+1) (by omega)
   rwa[show m+(i+1)=m+1+i by omega] at this
theorem acn{a b:ByteArray}:uX rs a b=2↔uq rs (keyOf a) (keyOf b)=none:=by
 simp only[uX]
 split
 ·rename_i h;exact⟨fun _=>h,fun _=>rfl⟩
 ·rename_i h;rw[h];exact⟨fun h=>absurd h (by decide),fun h=>by cases h⟩
 rename_i h;rw[h];exact⟨fun h=>absurd h (by decide),fun h=>by cases h⟩
theorem Y6{w x:ByteArray}(h:x∈mM w rs):x∈mM w (rs++[r]):=by
 simp only[mM,iW,oE,List.mem_flatMap] at h ⊢
 obtain⟨p,⟨s,hs,hp⟩,hx⟩:=h
 exact⟨p,⟨s,List.mem_append_left _ hs,hp⟩,hx⟩
theorem YZ{a b:ByteArray}(h:uX (rs++[r]) a b=2):uX rs a b=2:=by
 rw[acn,uq,O0] at h ⊢
 intro i hi
 have h1:=h i hi
 exact Decidable.byContradiction fun hn=>RS (fun w x=>Y6 (r:=r)) _ _ [] [] hn h1
abbrev fq(K:aC)(r:aU):aC:={K with rules:=K.rules++[r]}
theorem Kg{x y:aA}(h:kP (fq K r) x y=true):kP K x y=true:=by
 simp only[kP,decide_eq_true_eq] at h ⊢
 exact YZ h
theorem ak3{c:Nat}(h:rJ K c b=true):rJ (fq K r) c b=true:=by
 have e:rJ (fq K r) c b=match K.before[c]?,K.after[b]? with
  |some x,some y=> !kP (fq K r) x y&&(!nD K x y&& !uA c b K.facts)
  |_,_=>false:=rfl
 rw[e]
 simp only[rJ] at h
 split at h
 ·rename_i x y hx hy
  try simp only[hx,hy]
  simp only[Bool.and_eq_true,Bool.not_eq_true'] at h ⊢
  refine⟨?_,h.2⟩
  cases hn:kP (fq K r) x y with
  |false=>rfl
  |true=>rw[Kg hn] at h;exact absurd h.1 (by decide)
 cases h
theorem arZ(hf:K.facts.length≤4)(hb:K.before.length≤4):cJ K≤cJ (fq K r):=by
 have h:=YI (K:=K) (K':=fq K r) (on':=aD (fq K r)) (keep:=cE K.gone K.new K.af) (GB:=cE K.gone K.new K.af) (P:=fun _=>true) (P':=fun _=>true) (rows:=dv K) (JG:=dv K) (f:=fun q=>q) hf rfl
  (fun q hq=>by
   obtain⟨h1,h2,h3⟩:=(jk hf hb).1 hq
   exact(jk (K:=fq K r) hf hb).2 ⟨fun c=>(h1 c).imp_right fun⟨hc,b,hb,mJ,e⟩=>⟨hc,b,hb,ak3 mJ,e⟩,h2,h3⟩)
  (fun _ _ _ _ h=>h) (fun i r r' h1 h2 q _ _ hk=>⟨rfl,by rw[h1] at h2;cases h2;exact hk⟩)
 simp only[List.countP_true] at h
 exact h
def qk(K:aC)(on:Int)(a b:Nat):Nat→Bool
 |0=>match K.before[a]?,K.after[b]? with
  |some x,some y=>kP K x y
  |_,_=>false
 |1=>match K.before[a]?,K.after[b]? with
  |some x,some y=>nD K x y
  |_,_=>false
 |_=>xv on a b K.facts 0
def dB(K:aC)(on:Int)(a b:Nat):Nat→List Int
 |0=>[]
 |k+1=>dB K on a b k++(bif qk K on a b k then [(k:Int)+1] else [])
theorem xb{K:aC}{on:Int}{a b:Nat}:∀k,(dB K on a b k).length≤k
 |0=>Nat.le_refl _
 |k+1=>by
  have:=xb (K:=K) (on:=on) (a:=a) (b:=b) k
  rw[dB,List.length_append]
  cases qk K on a b k<;>simp<;>omega
theorem Cv{on:Int}{a:Nat}{v:Int}:∀k,v∈dB K on a b k↔∃j,j <k∧v=(j:Int)+1∧qk K on a b j=true
 |0=>by simp[dB]
 |k+1=>by
  rw[dB,List.mem_append,Cv k]
  constructor
  ·rintro(⟨j,h1,h2⟩|h)
   ·exact⟨j,by omega,h2⟩
   cases hc:qk K on a b k with
   |true=>rw[hc] at h;simp at h;exact⟨k,by omega,h,hc⟩
   |false=>rw[hc] at h;simp at h
  rintro⟨j,h1,h2,h3⟩
  by_cases e:j=k
  ·subst e;right;rw[h3];simp[h2]
  exact .inl ⟨j,by omega,h2,h3⟩
theorem Lf{on:Int}{a:Nat}:∀j,qk (fq K r) on a b j=true→qk K on a b j=true
 |0,h=>by
  have h:(match K.before[a]?,K.after[b]? with
   |some x,some y=>kP (fq K r) x y
   |_,_=>false)=true:=h
  simp only[qk]
  split at h
  ·exact Kg h
  cases h
 |1,h=>h
 |_+2,h=>h
theorem HF{K:aC}{r:aU}{on:Int}{a b:Nat}:∀k,(dB (fq K r) on a b k).length≤(dB K on a b k).length
 |0=>Nat.le_refl _
 |k+1=>by
  have ih:=HF (K:=K) (r:=r) (on:=on) (a:=a) (b:=b) k
  rw[dB,dB,List.length_append,List.length_append]
  cases hc:qk (fq K r) on a b k with
  |true=>rw[Lf k hc];simp;omega
  |false=>simp;omega
theorem NW{on:Int}{a:Nat}(h:qk K on a b k=true):dB K on a b (k+1)=dB K on a b k++[(k:Int)+1]:=by rw[dB,h];rfl
theorem NX{on:Int}{a:Nat}(h:qk K on a b k=false):dB K on a b (k+1)=dB K on a b k:=by rw[dB,h];exact List.append_nil _
theorem atG:dD zT 320 [.agg ⟨[]⟩] ro (zI 1):=by
 refine zE<|zD 2<|jn fun b1=>zD 7<|zX (zI 1) ⟨rfl,rfl⟩
theorem atF:dD zT 322 [.agg ⟨[]⟩] ro (zI 2):=by
 refine zE<|zD 2<|jn fun b1=>zD 7<|zX (zI 2) ⟨rfl,rfl⟩
theorem atE:dD zT 328 [.agg ⟨[]⟩] ro (zI 3):=by
 refine zE<|zD 2<|jn fun b1=>zD 7<|zX (zI 3) ⟨rfl,rfl⟩
theorem afn{rows:List bG}{a:Nat}(hK:fP ro l K)(hV:eN K)(hB:jE ro l K rows)(zh:a <K.before.length)(Hd:b <K.after.length):dR zT 13 [.agg ⟨l⟩,zI (a:Int),zI (b:Int)] ro [] (fun r Y=>∃v,r= .tuple ⟨[v,zI 0]⟩∧ay v 1 3 cz (dB K (aD K) a b 3) Y):=by
 obtain⟨v0,v1,v3,v4,v5,v6,v7,vb,fa,fc,hv,rfl,_,_,_,_,_,hbS,haS,_⟩:=id hK
 obtain⟨lB,Ox,Ov,lf,rfl,Ow,Mt,Ms⟩:=hbS
 obtain⟨kR,JZ,JX,kK,rfl,JY,IS,IQ⟩:=haS
 have B6:=hV.before.1
 have EX:=hV.after.1
 obtain⟨x,ha⟩:∃x,K.before[a]?=some x:=⟨_,List.getElem?_eq_getElem zh⟩
 obtain⟨y,hb⟩:∃y,K.after[b]?=some y:=⟨_,List.getElem?_eq_getElem Hd⟩
 have hc0:qk K (aD K) a b 0=kP K x y:=by simp only[qk,ha,hb]
 have hc1:qk K (aD K) a b 1=nD K x y:=by simp only[qk,ha,hb]
 have SF:qk K (aD K) a b 2=xv (aD K) a b K.facts 0:=rfl
 refine zE<|zD 2<|jn fun b3=>jd 8 [0]<|jc (vs:=[.agg ⟨[v0,v1,.slice fa 0 fc,v3,v4,v5,.slice lB K.before.length lf,.slice kR K.after.length kK,zI K.gone,zI K.new,zI K.af,vb]⟩,zI (a:Int),zI (b:Int)]) [] (afb hK hV hB zh Hd) ?_
 rintro _ Y17 ⟨f17,rfl,aPZ⟩
 refine zD 5<|jf [0] Y17 (fun za bX iI=>?_)
 have hF:=aPZ _ bX iI
 have En:=hF
 refine zD 16<|jp [] [] (fun aH hs hZ=>apy)<|zD 3<|oR<|dS [1,1,1,1,0,1,0,0] [] (fun(zz:Nat×Value×Cells)=>[(1,zI (a:Int)),(2,zI (b:Int)),(6,zS),(7,zI 0),(8,zP f17),(10,zz.2.1),(23,.agg ⟨[.iface 166 (.agg ⟨[]⟩),.iface 167 (.agg ⟨[]⟩),.iface 168 (.agg ⟨[]⟩)]⟩),(24,zI (zz.1:Int))]) (fun zz=>[.l zz.2.2]) (fun zz=>zz.1≤3∧ay zz.2.1 1 3 cz (dB K (aD K) a b zz.1) zz.2.2) (fun zz=>3-zz.1) (⟨0,zS,[]⟩) ⟨by dsimp only;omega,ay.nil _ _ _⟩ [0] ?_
 rintro⟨k,vO,LO⟩ hI K1 bL rest
 dsimp only at hI
 have iD:=xb (K:=K) (on:=aD K) (a:=a) (b:=b) k
 refine zD 5<|zJ 25 ((k:Int) <3) (fun h4=>?_) fun h4=>?_
 ·
  refine zD 6 ?_
  obtain rfl|rfl|rfl:k=0∨k=1∨k=2:=by omega
  ·
   refine zD 13<|jp (vs:=[zP f17]) [] [] (fun aH hs hZ=>Dq hV (En.up hs))<|aS 9 fun zl zt yR=>jpI (vs:=[.agg ⟨[]⟩,zP f17,zI (a:Int),zI (b:Int),.int .u8 (aD K)]) (fun aH hs=>ae4 (hF.up hs) hV ha hb)<|ez yR [0]<|zD 1<|js 36 (kP K x y) (fun h6=>?_) (fun h6=>?_)
   ·
    refine zD 4<|jpI (vs:=[.agg ⟨[]⟩]) (fun aH hs=>atG)<|jn fun qH=>iC (sz:=1) (ps:=(dB K (aD K) a b 0)) (qs:=[1]) (enc:=cz) (w:= .slice (some ⟨qH,0,none⟩) 1 1) [1] [0] [(qH,.cells ⟨([1].map cz).flatten⟩ 3 (0,0))] (hI.2) (fun s _ hZ=>bN [1] (hZ _ (.head _)) (by intro p hp;rfl)) (fun p _=>ai rfl) (by simp only[List.length_cons,List.length_nil];omega) (fun v41 L41 pW=>?_)
    obtain⟨Ft,Fp,G9⟩:=pW.form
    subst G9
    refine zD 6<|bJ bL (⟨1,(.slice Ft (((dB K (aD K) a b 0)++[1])).length Fp),L41⟩) ⟨by dsimp only;omega,by dsimp only;rw[show (dB K (aD K) a b 1)=(dB K (aD K) a b 0)++[1] from NW (hc0.trans (by assumption))];exact pW⟩ (by dsimp only;omega) [0] (Sub.refl _)
   refine zD 6<|bJ bL (⟨1,vO,LO⟩) ⟨by dsimp only;omega,by dsimp only;rw[show (dB K (aD K) a b 1)=(dB K (aD K) a b 0) from NX (hc0.trans (by assumption))];exact hI.2⟩ (by dsimp only;omega) [0] (Sub.refl _)
  ·
   refine zD 13<|jp (vs:=[zP f17]) [] [] (fun aH hs hZ=>Dq hV (En.up hs))<|aS 9 fun q9 ri p8=>jpI (vs:=[.agg ⟨[]⟩,zP f17,zI (a:Int),zI (b:Int),.int .u8 (aD K)]) (fun aH hs=>Qt (hF.up hs) hV ha hb)<|ez p8 [0]<|zD 1<|js 36 (nD K x y) (fun h8=>?_) (fun h8=>?_)
   ·
    refine zD 4<|jpI (vs:=[.agg ⟨[]⟩]) (fun aH hs=>atF)<|jn fun qH=>iC (sz:=1) (ps:=(dB K (aD K) a b 1)) (qs:=[2]) (enc:=cz) (w:= .slice (some ⟨qH,0,none⟩) 1 1) [1] [0] [(qH,.cells ⟨([2].map cz).flatten⟩ 3 (0,0))] (hI.2) (fun s _ hZ=>bN [2] (hZ _ (.head _)) (by intro p hp;rfl)) (fun p _=>ai rfl) (by simp only[List.length_cons,List.length_nil];omega) (fun v41 L41 pW=>?_)
    obtain⟨Ft,Fp,G9⟩:=pW.form
    subst G9
    refine zD 6<|bJ bL (⟨2,(.slice Ft (((dB K (aD K) a b 1)++[2])).length Fp),L41⟩) ⟨by dsimp only;omega,by dsimp only;rw[show (dB K (aD K) a b 2)=(dB K (aD K) a b 1)++[2] from NW (hc1.trans (by assumption))];exact pW⟩ (by dsimp only;omega) [0] (Sub.refl _)
   refine zD 6<|bJ bL (⟨2,vO,LO⟩) ⟨by dsimp only;omega,by dsimp only;rw[show (dB K (aD K) a b 2)=(dB K (aD K) a b 1) from NX (hc1.trans (by assumption))];exact hI.2⟩ (by dsimp only;omega) [0] (Sub.refl _)
  refine zD 13<|jp (vs:=[zP f17]) [] [] (fun aH hs hZ=>Dq hV (En.up hs))<|aS 9 fun rY sb qE=>jpI (vs:=[.agg ⟨[]⟩,zP f17,zI (a:Int),zI (b:Int),.int .u8 (aD K)]) (fun aH hs=>Xo (hF.up hs) hV)<|ez qE [0]<|zD 1<|js 36 (xv (aD K) a b K.facts 0) (fun Iy=>?_) (fun Iy=>?_)
  ·
   refine zD 4<|jpI (vs:=[.agg ⟨[]⟩]) (fun aH hs=>atE)<|jn fun qH=>iC (sz:=1) (ps:=(dB K (aD K) a b 2)) (qs:=[3]) (enc:=cz) (w:= .slice (some ⟨qH,0,none⟩) 1 1) [1] [0] [(qH,.cells ⟨([3].map cz).flatten⟩ 3 (0,0))] (hI.2) (fun s _ hZ=>bN [3] (hZ _ (.head _)) (by intro p hp;rfl)) (fun p _=>ai rfl) (by simp only[List.length_cons,List.length_nil];omega) (fun v41 L41 pW=>?_)
   obtain⟨Ft,Fp,G9⟩:=pW.form
   subst G9
   refine zD 6<|bJ bL (⟨3,(.slice Ft (((dB K (aD K) a b 2)++[3])).length Fp),L41⟩) ⟨by dsimp only;omega,by dsimp only;rw[show (dB K (aD K) a b 3)=(dB K (aD K) a b 2)++[3] from NW (SF.trans (by assumption))];exact pW⟩ (by dsimp only;omega) [0] (Sub.refl _)
  refine zD 6<|bJ bL (⟨3,vO,LO⟩) ⟨by dsimp only;omega,by dsimp only;rw[show (dB K (aD K) a b 3)=(dB K (aD K) a b 2) from NX (SF.trans (by assumption))];exact hI.2⟩ (by dsimp only;omega) [0] (Sub.refl _)
 refine zD 9<|aM q0.a (.tuple ⟨[vO,zI 0]⟩) [] [0] LO bX ⟨_,_,rfl,rfl,_,rfl,by have:=hI.2;rwa[show k=3 by omega] at this⟩
set_option maxHeartbeats 2000000 in
theorem afj (hK:fP ro l K) (hO:ju K):dR zT 10 [.agg ⟨l⟩] ro [] (fun r Y=>∃(v0 v1 v3 v4 v5 v6 v7 vb:Value) (fa:Option Addr) (fc:Nat) (LR Z:Cells),r= .agg ⟨[v0,v1,.slice fa 0 fc,v3,v4,v5,v6,v7,zI K.gone,zI K.new,zI K.af,vb]⟩∧(∀v∈[v0,v1,v3,v4,v5,v6,v7,vb],single v=true)∧ay v5 2 45 e9 K.rules LR∧(∀aI,Sub ro aI→Knows aI Z→∀(vr:Value) (rs:List aU),bI aI vr 2 e9 rs→fP aI [v0,v1,.slice fa 0 fc,v3,v4,vr,v6,v7,zI K.gone,zI K.new,zI K.af,vb] {K with rules:=rs})∧Y=LR++Z):=by
 obtain⟨vS,vT,vc,vh,vr,vb,va,vf,fa,fc,hv,rfl,hS,hT,p7,nv,hr,hb,ha,hf⟩:=hK
 obtain⟨gR,hs,e8⟩:=id hS
 obtain⟨iF,ht,eT⟩:=id hT
 obtain⟨hc,hh,Dv⟩:=id p7
 obtain⟨lX,TA,Ty,kX,rfl,Tz,Mp,Mo⟩:=hs
 obtain⟨eO,Ac,Aa,dP,rfl,Ab,rR,rQ⟩:=ht
 obtain⟨ei,Ae,Ad,dW,rfl,De,yq,yp⟩:=hc
 obtain⟨dG,uD,uC,dr,rfl,wP,qB,qA⟩:=hh
 obtain⟨kH,Ik,Ij,kG,rfl,Ou,FW,FV⟩:=hr
 obtain⟨lB,Ox,Ov,lf,rfl,Ow,Mt,Ms⟩:=hb
 obtain⟨kR,JZ,JX,kK,rfl,JY,IS,IQ⟩:=ha
 obtain⟨jK,Dd,Dc,iV,rfl,JW,xJ,xI⟩:=hf
 have Ca:=hO.rules
 have qy:=hO.before.1
 have OG:=hO.after.1
 have OF:=hO.facts.1
 have OE:=hO.ways.1
 have Iq:=e8.len
 have Ei:=eT.len
 have XN:=hO.oD.two
 have hl9:=hO.cZ.nh
 have Ot:∀(i:Nat) (p:c8),([]:List c8)[i]?=some p→cv ⟨ro,[]⟩ 0 (0+i*6) 6 (mB p):=fun _ _ h=>n6 h
 refine zE<|zD 2<|jn fun b1=>jn fun b2=>zD 3<|jn fun b6=>jd 3 [2]<|iC (sz:=6) (ps:=[]) (qs:=([]:List c8)) (enc:=mB) (w:= .slice fa 0 fc) [0] [] [] (bA (b:=b6) (T:=267)) (fun s he _=>⟨fa,0,0,fc,rfl,(fun _ h=>absurd h (Nat.not_lt_zero _)),fun i p hp=>(Ot i p hp).ext he⟩) (fun p _=>ai rfl) (by simp<;>omega) (fun v10 L10 G1=>?_)
 rw[List.nil_append] at G1
 obtain⟨yf,yd,avx⟩:=G1.form
 subst avx
 refine zD 1<|jn fun b3=>jd 8 [0]<|oR<|oR<|dS [1,1,0,1,0,0] [] (fun(zz:Nat×Value×Cells×(List Value)×Cells)=>[(1,zP b1),(2,zP b2),(3,zP b3),(4,zI (zz.1:Int))]) (fun zz=>[.b b3 (.cells ⟨[zz.2.1,zS,(.slice yf (([]:List c8)).length yd)]⟩ 31 (0,0)),.l zz.2.2.1,.l zz.2.2.2.2,.l L10,.b b2 (.cells ⟨zO⟩ 40 (0,0)),.b b1 (.cells ⟨[.slice lX gR.length kX,.slice eO iF.length dP,.slice fa 0 fc,.slice ei K.cs.length dW,.slice dG hv.length dr,.slice kH K.rules.length kG,.slice lB K.before.length lf,.slice kR K.after.length kK,zI K.gone,zI K.new,zI K.af,.slice jK K.facts.length iV]⟩ 40 (0,0))]) (fun zz=>(zz.1≤gR.length∧zz.2.2.2.1.length=zz.1)∧ay zz.2.1 1 80 gv zz.2.2.2.1 zz.2.2.1∧∀aI,Knows aI zz.2.2.2.2→dq (fun w l=>bI aI w 2 cG l) zz.2.2.2.1 (K.str.take zz.1)) (fun zz=>gR.length-zz.1) (⟨0,zS,[],[],[]⟩) ⟨⟨by omega,rfl⟩,ay.nil _ _ _,fun _ _=> .nil⟩ [2,1,0,3,4,5] ?_
 rintro⟨i,v0,L0,ps,Z⟩ hI K1 bL rest
 dsimp only at hI
 refine jd 11 [5]<|zJ 18 ((i:Int) <(gR.length:Int)) (fun h1=>?_) fun h1=>?_
 ·
  refine jd 13 [0,5] ?_
  obtain⟨nT,iO⟩:=zG gR i
  refine iB kX 1 Mp iO ?_
  obtain⟨Qq,agt,h31⟩:=e8.get iO
  obtain aND:=hO.oD.len _ (zL agt)
  obtain⟨adH,asy,asv,adG,rfl,aKo,asx,asw⟩:=h31
  refine jl 0 (Mo _ _ iO)<|aS 3 fun zl zt yR=>jn fun H4=>ez yR (zN 1 6)<|aS 11 fun q9 ri p8=>iC (sz:=2) (ps:=[]) (qs:=Qq) (enc:=cG) (w:= .slice adH Qq.length adG) [0] [] [] (bA (b:=H4) (T:=79)) (fun s he _=>⟨adH,asy,asv,adG,rfl,asx,fun i p hp=>(asw i p hp).ext he⟩) (fun p _=>ai rfl) (by simp<;>omega) (fun v32 L32 yJ=>?_)
  rw[List.nil_append] at yJ
  obtain⟨ye,yc,UL⟩:=yJ.form
  subst UL
  refine fS p8 [[6],[1]]<|aS 12 fun rY sb qE=>jn fun b33=>ez qE (zN 1 7)<|aS 13 fun Bo Bu Cc=>iC (sz:=1) (ps:=ps) (qs:=[((.slice ye (Qq).length yc):Value)]) (enc:=gv) (w:= .slice (some ⟨b33,0,none⟩) 1 1) [3] [0] [(b33,.cells ⟨([((.slice ye (Qq).length yc):Value)].map gv).flatten⟩ 80 (0,0))] (hI.2.1) (fun s _ hZ=>bN [((.slice ye (Qq).length yc):Value)] (hZ _ (.head _)) (by intro p hp;rfl)) (by intro p hp;rw[List.mem_singleton] at hp;subst hp;exact ai rfl) (by simp<;>omega) (fun v34 L34 GY=>?_)
  obtain⟨SZ,SS,UJ⟩:=GY.form
  subst UJ
  refine fS Cc [[7]]<|zD 2<|aS 16 fun abZ acJ hL6=>jd 1 [3]<|fS hL6 []<|zD 3<|ja ((i:Int)+1) (by omega)<|zD 2<|M5 bL (⟨i+1,(.slice SZ ((ps++[((.slice ye (Qq).length yc):Value)])).length SS),L34,(ps++[((.slice ye (Qq).length yc):Value)]),L32++Z⟩) ⟨⟨by dsimp only;omega,by simp only[zM];omega⟩,GY,fun aI hk=>py (hI.2.2 aI hk.right) agt (yJ.kQ hk.left)⟩ (by omega) [[3],[0],[2,4],[5],[6],[7]] (Sub.refl _)
 refine zD 8<|oR<|oR<|dS [1,1,1,0,1,0,0] [] (fun(zz:Nat×Value×Cells×(List Value)×Cells)=>[(1,zP b1),(2,zP b2),(3,zP b3),(5,zI (zz.1:Int))]) (fun zz=>[.b b3 (.cells ⟨[v0,zz.2.1,(.slice yf (([]:List c8)).length yd)]⟩ 31 (0,0)),.l zz.2.2.1,.l zz.2.2.2.2,.l L0,.l Z,.l L10,.b b2 (.cells ⟨zO⟩ 40 (0,0)),.b b1 (.cells ⟨[.slice lX gR.length kX,.slice eO iF.length dP,.slice fa 0 fc,.slice ei K.cs.length dW,.slice dG hv.length dr,.slice kH K.rules.length kG,.slice lB K.before.length lf,.slice kR K.after.length kK,zI K.gone,zI K.new,zI K.af,.slice jK K.facts.length iV]⟩ 40 (0,0))]) (fun zz=>(zz.1≤iF.length∧zz.2.2.2.1.length=zz.1)∧ay zz.2.1 1 87 gv zz.2.2.2.1 zz.2.2.1∧∀aI,Knows aI zz.2.2.2.2→dq (fun w l=>bI aI w 7 kA l) zz.2.2.2.1 (K.ways.take zz.1)) (fun zz=>iF.length-zz.1) (⟨0,zS,[],[],[]⟩) ⟨⟨by omega,rfl⟩,ay.nil _ _ _,fun _ _=> .nil⟩ [2,1,0,3,4,5,6,7] ?_
 rintro⟨j,v1,L1,qs,Z1⟩ hG K7 hK7 rest
 dsimp only at hG
 refine jd 10 [7]<|zJ 42 ((j:Int) <(iF.length:Int)) (fun h7=>?_) fun h7=>?_
 ·
  refine jd 11 [0,7] ?_
  obtain⟨x52,vy⟩:=zG iF j
  refine iB dP 1 rR vy<|zD 1 ?_
  obtain⟨T7,ags,h54⟩:=eT.get vy
  obtain aNz:=(hO.ways.2 _ (zL ags)).1.2
  obtain⟨adF,asu,asr,adE,rfl,aKd,ast,ass⟩:=h54
  refine jl 0 (rQ _ _ vy)<|aS 2 fun YT Zf hL8=>jn fun b47=>ez hL8 (zN 1 8)<|aS 10 fun YS Ze UY=>iC (sz:=7) (ps:=[]) (qs:=T7) (enc:=kA) (w:= .slice adF T7.length adE) [0] [] [] (bA (b:=b47) (T:=83)) (fun s he _=>⟨adF,asu,asr,adE,rfl,ast,fun i p hp=>(ass i p hp).ext he⟩) (fun p _=>ai rfl) (by simp<;>omega) (fun v55 L55 yI=>?_)
  rw[List.nil_append] at yI
  obtain⟨Fs,Fo,avo⟩:=yI.form
  subst avo
  refine fS UY [[8],[1]]<|zD 1<|aS 12 fun Fc FA tS=>jn fun b57=>ez tS (zN 1 9)<|aS 13 fun Jn Jv Cj=>iC (sz:=1) (ps:=qs) (qs:=[((.slice Fs (T7).length Fo):Value)]) (enc:=gv) (w:= .slice (some ⟨b57,0,none⟩) 1 1) [3] [0] [(b57,.cells ⟨([((.slice Fs (T7).length Fo):Value)].map gv).flatten⟩ 87 (0,0))] (hG.2.1) (fun s _ hZ=>bN [((.slice Fs (T7).length Fo):Value)] (hZ _ (.head _)) (by intro p hp;rfl)) (by intro p hp;rw[List.mem_singleton] at hp;subst hp;exact ai rfl) (by simp<;>omega) (fun v58 L58 GU=>?_)
  obtain⟨SY,SR,G8⟩:=GU.form
  subst G8
  refine fS Cj [[9]]<|zD 1<|aS 15 fun OP O9 Ci=>jd 1 [3]<|fT Ci<|zD 3<|ja ((j:Int)+1) (by omega)<|zD 2<|M5 hK7 (⟨j+1,(.slice SY ((qs++[((.slice Fs (T7).length Fo):Value)])).length SR),L58,(qs++[((.slice Fs (T7).length Fo):Value)]),L55++Z1⟩) ⟨⟨by dsimp only;omega,by simp only[zM];omega⟩,GU,fun aI hk=>py (hG.2.2 aI hk.right) ags (yI.kQ hk.left)⟩ (by omega) [[3],[0],[2,4],[5],[6],[7],[8],[9]] (Sub.refl _)
 refine zD 3<|GF [1,1,1,1,1] [] (fun(zz:(Option Addr)×Nat×(Option Addr)×Nat×(List bx)×Cells×Value×Cells)=>[(1,zP b1),(2,zP b2)]) (fun zz=>[.b b1 (.cells ⟨[v0,v1,(.slice yf (([]:List c8)).length yd),(.slice zz.1 K.cs.length zz.2.1),(.slice zz.2.2.1 zz.2.2.2.2.1.length zz.2.2.2.1),zz.2.2.2.2.2.2.1,.slice lB K.before.length lf,.slice kR K.after.length kK,zI K.gone,zI K.new,zI K.af,.slice jK K.facts.length iV]⟩ 40 (0,0)),.l zz.2.2.2.2.2.2.2,.l zz.2.2.2.2.2.1,.b b3 (.cells ⟨[v0,v1,(.slice yf (([]:List c8)).length yd)]⟩ 31 (0,0)),.l L1,.l Z1,.l L0,.l Z,.l L10,.b b2 (.cells ⟨zO⟩ 40 (0,0))]) (fun zz=>dq dj zz.2.2.2.2.1 K.hd∧(∀aI,Sub ro aI→Knows aI zz.2.2.2.2.2.1→iT aI (.slice zz.1 K.cs.length zz.2.1) (.slice zz.2.2.1 zz.2.2.2.2.1.length zz.2.2.2.1) K.cs zz.2.2.2.2.1 K.hd)∧ay zz.2.2.2.2.2.2.1 2 45 e9 K.rules zz.2.2.2.2.2.2.2) ?_ (fun K13 Ny=>?_)
 ·
  rintro⟨ta,tc,ua,uc,hw,ZT,vR,LR⟩ hJ rest
  dsimp only at hJ
  refine zD 1<|GF [1,1,1,1,1,1] [] (fun(zz:Value×Cells×Value×Cells×Value×Cells)=>[(1,zP b1),(2,zP b2)]) (fun zz=>[.b b1 (.cells ⟨[v0,v1,(.slice yf (([]:List c8)).length yd),(.slice ta K.cs.length tc),(.slice ua hw.length uc),vR,zz.1,zz.2.2.1,zI K.gone,zI K.new,zI K.af,zz.2.2.2.2.1]⟩ 40 (0,0)),.l zz.2.1,.l zz.2.2.2.1,.l zz.2.2.2.2.2,.l LR,.l ZT,.b b3 (.cells ⟨[v0,v1,(.slice yf (([]:List c8)).length yd)]⟩ 31 (0,0)),.l L1,.l Z1,.l L0,.l Z,.l L10,.b b2 (.cells ⟨zO⟩ 40 (0,0))]) (fun zz=>ay zz.1 5 55 eA K.before zz.2.1∧ay zz.2.2.1 5 55 eA K.after zz.2.2.2.1∧ay zz.2.2.2.2.1 3 58 rM K.facts zz.2.2.2.2.2) ?_ (fun K14 I9=>?_)
  ·
   rintro⟨vB,LB,vA,LA,vF,LF⟩ hM rest
   dsimp only at hM
   refine jd 3 [0] ?_
   obtain⟨aru,ari,avw⟩:=hI.2.1.form
   subst avw
   obtain⟨Fu,DU,uJ⟩:=hG.2.1.form
   subst uJ
   obtain⟨art,arh,Nm⟩:=hJ.2.2.form
   subst Nm
   obtain⟨ars,arf,agK⟩:=hM.1.form
   subst agK
   obtain⟨xq,xp,I5⟩:=hM.2.1.form
   subst I5
   obtain⟨acA,Y1,Nl⟩:=hM.2.2.form
   subst Nl
   refine jd 3 [12]<|zR (.agg ⟨[(.slice aru (ps).length ari),(.slice Fu (qs).length DU),(.slice yf (([]:List c8)).length yd),(.slice ta K.cs.length tc),(.slice ua hw.length uc),(.slice art (K.rules).length arh),(.slice ars (K.before).length arf),(.slice xq (K.after).length xp),zI K.gone,zI K.new,zI K.af,(.slice acA (K.facts).length Y1)]⟩) [12] [4,3,1,2,5,7,8,9,10,11] (LR++(LF++(LB++(LA++(ZT++(L1++(Z1++(L0++(Z++L10))))))))) ⟨_,_,_,_,_,_,_,_,_,_,_,_,rfl,zw (eP hI.2.1) (eP hG.2.1) rfl rfl (eP hJ.2.2) (eP hM.1) (eP hM.2.1) (eP hM.2.2),hJ.2.2,fun aI pU hk vr rs hvr=>⟨_,_,_,_,_,_,_,_,_,_,hw,rfl,⟨_,hI.2.1.kQ hk.right.right.right.right.right.right.left,by have:=hI.2.2 aI hk.right.right.right.right.right.right.right.left;rwa[List.take_of_length_le (by omega)] at this⟩,⟨_,hG.2.1.kQ hk.right.right.right.right.left,by have:=hG.2.2 aI hk.right.right.right.right.right.left;rwa[List.take_of_length_le (by omega)] at this⟩,hJ.2.1 aI pU hk.right.right.right.left,hJ.1,hvr,hM.1.kQ hk.right.left,hM.2.1.kQ hk.right.right.left,hM.2.2.kQ hk.left⟩,rfl⟩
  refine jd 7 [0,0,0]<|ET [2,6] ⟨fun z15 t16 Cg=>?_,fun z18 t19 Nu=>?_,trivial⟩
  ·
   refine jc (vs:=[.slice lB K.before.length lf]) [] (gL (show bI _ _ _ _ _ from ⟨lB,Ox,Ov,lf,rfl,Ow,Mt,Ms⟩) (by omega)) ?_
   rintro v73 L73 ⟨_,yL,rfl⟩
   refine ez Cg (zN 1 10)<|zD 1<|ET [5,6] ⟨fun z21 t22 Nt=>?_,fun z24 t25 AF=>?_,trivial⟩
   ·
    refine jc (vs:=[.slice kR K.after.length kK]) [] (gL (show bI _ _ _ _ _ from ⟨kR,JZ,JX,kK,rfl,JY,IS,IQ⟩) (by omega)) ?_
    rintro v76 L76 ⟨_,vI,rfl⟩
    refine ez Nt (zN 1 11)<|aS 6 fun Jm Ju Cf=>jn fun b77=>ez Cf (zN 1 12)<|aS 9 fun Jl Jt Ce=>iC (sz:=3) (ps:=[]) (qs:=K.facts) (enc:=rM) (w:= .slice jK K.facts.length iV) [0] [] [] (bA (b:=b77) (T:=58)) (fun s he _=>⟨jK,Dd,Dc,iV,rfl,xJ,fun i p hp=>(xI i p hp).ext he⟩) (fun p _=>ai rfl) (by simp<;>omega) (fun v80 L80 fU=>?_)
    rw[List.nil_append] at fU
    obtain⟨Fq,Fj,G7⟩:=fU.form
    subst G7
    refine fS Ce []<|aS 11 (fun Jk Js Cd=>?_)
    obtain⟨acz,acs,UN⟩:=yL.form
    subst UN
    refine jd 1 [3]<|fT Cd<|zD 1<|aS 13 (fun VY Wa Nr=>?_)
    obtain⟨arp,ard,avt⟩:=vI.form
    subst avt
    refine jd 1 [3]<|fT Nr<|zD 1<|aS 15 fun VX V9 I8=>jd 1 [3]<|fT I8<|zD 1<|bJ I9 ⟨(.slice acz (K.before).length acs),L73,(.slice arp (K.after).length ard),L76,(.slice Fq (K.facts).length Fj),L80⟩ ⟨yL,vI,fU⟩ Nat.zero_lt_one [3,2,1,0,4,5,6,7,8,9,10,11,12] (Sub.refl _)
   refine jn fun b77=>ez AF (zN 1 11)<|aS 5 fun ab2 acM Nq=>jc (vs:=[.slice kR K.after.length kK]) [] (gL (show bI _ _ _ _ _ from ⟨kR,JZ,JX,kK,rfl,JY,IS,IQ⟩) (by omega)) ?_
   rintro v76 L76 ⟨_,vI,rfl⟩
   refine ez Nq (zN 1 12)<|aS 9 fun ayx azq av5=>iC (sz:=3) (ps:=[]) (qs:=K.facts) (enc:=rM) (w:= .slice jK K.facts.length iV) [1] [] [] (bA (b:=b77) (T:=58)) (fun s he _=>⟨jK,Dd,Dc,iV,rfl,xJ,fun i p hp=>(xI i p hp).ext he⟩) (fun p _=>ai rfl) (by simp<;>omega) (fun v80 L80 fU=>?_)
   rw[List.nil_append] at fU
   obtain⟨Fq,Fj,G7⟩:=fU.form
   subst G7
   refine fS av5 []<|aS 11 (fun ayw azp av4=>?_)
   obtain⟨ye,yc,UL⟩:=yL.form
   subst UL
   refine jd 1 [3]<|fT av4<|zD 1<|aS 13 (fun ayv azo ahg=>?_)
   obtain⟨SZ,SS,UJ⟩:=vI.form
   subst UJ
   refine jd 1 [3]<|fT ahg<|zD 1<|aS 15 fun ab1 acL Np=>jd 1 [3]<|fT Np<|zD 1<|bJ I9 ⟨(.slice ye (K.before).length yc),L73,(.slice SZ (K.after).length SS),L76,(.slice Fq (K.facts).length Fj),L80⟩ ⟨yL,vI,fU⟩ Nat.zero_lt_one [3,2,1,0,4,5,6,7,8,9,10,11,12] (Sub.refl _)
  refine jn fun b77=>ez Nu (zN 1 10)<|aS 2 fun ab0 acK UZ=>jc (vs:=[.slice lB K.before.length lf]) [] (gL (show bI _ _ _ _ _ from ⟨lB,Ox,Ov,lf,rfl,Ow,Mt,Ms⟩) (by omega)) ?_
  rintro v73 L73 ⟨_,yL,rfl⟩
  refine ez UZ (zN 1 11)<|zD 1<|aS 5 fun aov aoQ ahf=>jc (vs:=[.slice kR K.after.length kK]) [] (gL (show bI _ _ _ _ _ from ⟨kR,JZ,JX,kK,rfl,JY,IS,IQ⟩) (by omega)) ?_
  rintro v76 L76 ⟨_,vI,rfl⟩
  refine ez ahf (zN 1 12)<|aS 9 fun aou aoP ahe=>iC (sz:=3) (ps:=[]) (qs:=K.facts) (enc:=rM) (w:= .slice jK K.facts.length iV) [2] [] [] (bA (b:=b77) (T:=58)) (fun s he _=>⟨jK,Dd,Dc,iV,rfl,xJ,fun i p hp=>(xI i p hp).ext he⟩) (fun p _=>ai rfl) (by simp<;>omega) (fun v80 L80 fU=>?_)
  rw[List.nil_append] at fU
  obtain⟨Fq,Fj,G7⟩:=fU.form
  subst G7
  refine fS ahe []<|aS 11 (fun ayu azn av3=>?_)
  obtain⟨Ft,Fp,G9⟩:=yL.form
  subst G9
  refine jd 1 [3]<|fT av3<|zD 1<|aS 13 (fun ayt azm ahd=>?_)
  obtain⟨arn,arb,avr⟩:=vI.form
  subst avr
  refine jd 1 [3]<|fT ahd<|zD 1<|aS 15 fun ays azl av2=>jd 1 [3]<|fT av2<|zD 1<|bJ I9 ⟨(.slice Ft (K.before).length Fp),L73,(.slice arn (K.after).length arb),L76,(.slice Fq (K.facts).length Fj),L80⟩ ⟨yL,vI,fU⟩ Nat.zero_lt_one [3,2,1,0,4,5,6,7,8,9,10,11,12] (Sub.refl _)
 refine jd 7 [0,7,7]<|ET [3,4] ⟨fun z43 t44 anm=>?_,fun z46 t47 av1=>?_,trivial⟩
 ·
  refine jc [] (tL hO.cZ p7 nv) ?_
  rintro _ VI ⟨Up,awS,avT,awP,avJ,_,rfl,GO,GN,rfl⟩
  refine ez anm (zN 1 8)<|aS 4 fun ayr azk av0=>jn fun b64=>ez av0 (zN 1 9)<|aS 7 fun ayq azj ahc=>iC (sz:=2) (ps:=[]) (qs:=K.rules) (enc:=e9) (w:= .slice kH K.rules.length kG) [0] [] [] (bA (b:=b64) (T:=45)) (fun s he _=>⟨kH,Ik,Ij,kG,rfl,FW,fun i p hp=>(FV i p hp).ext he⟩) (fun p _=>ai rfl) (by simp<;>omega) (fun v67 L67 lI=>?_)
  rw[List.nil_append] at lI
  obtain⟨SX,SQ,UH⟩:=lI.form
  subst UH
  refine fS ahc [[2]]<|aS 9 (fun aot aoO ahb=>?_)
  obtain⟨acx,acp,UI⟩:=hI.2.1.form
  subst UI
  obtain⟨aJd,aIT,avp⟩:=hG.2.1.form
  subst avp
  refine jd 1 [9]<|fT ahb<|zD 1<|aS 11 fun aos aoN aha=>jd 1 [9]<|fT aha<|zD 1<|aS 13 fun aor aoM ag9=>jd 1 [9]<|fT ag9<|zD 1<|bJ Ny ⟨_,_,_,_,Up,VI,(.slice SX (K.rules).length SQ),L67⟩ ⟨GO,GN,lI⟩ Nat.zero_lt_one [9,0,1,2,3,4,5,6,7,8] (Sub.refl _)
 refine jn fun b64=>ez av1 (zN 1 8)<|aS 3 fun aoq aoL ag8=>jc [] (tL hO.cZ p7 nv) ?_
 rintro _ VI ⟨Up,awS,avT,awP,avJ,_,rfl,GO,GN,rfl⟩
 refine ez ag8 (zN 1 9)<|aS 7 fun aop aoK ag7=>iC (sz:=2) (ps:=[]) (qs:=K.rules) (enc:=e9) (w:= .slice kH K.rules.length kG) [1] [] [] (bA (b:=b64) (T:=45)) (fun s he _=>⟨kH,Ik,Ij,kG,rfl,FW,fun i p hp=>(FV i p hp).ext he⟩) (fun p _=>ai rfl) (by simp<;>omega) (fun v67 L67 lI=>?_)
 rw[List.nil_append] at lI
 obtain⟨SX,SQ,UH⟩:=lI.form
 subst UH
 refine fS ag7 [[2]]<|aS 9 (fun aoo aoJ ag6=>?_)
 obtain⟨akK,akI,agG⟩:=hI.2.1.form
 subst agG
 obtain⟨SY,SR,G8⟩:=hG.2.1.form
 subst G8
 refine jd 1 [9]<|fT ag6<|zD 1<|aS 11 fun aon aoI ag5=>jd 1 [9]<|fT ag5<|zD 1<|aS 13 fun ayp azi avZ=>jd 1 [9]<|fT avZ<|zD 1<|bJ Ny ⟨_,_,_,_,Up,VI,(.slice SX (K.rules).length SQ),L67⟩ ⟨GO,GN,lI⟩ Nat.zero_lt_one [9,0,1,2,3,4,5,6,7,8] (Sub.refl _)
theorem arY(h:FM r=true):mY r:=by
 simp only[FM,Bool.and_eq_true,Nat.ble_eq,Bool.not_eq_true'] at h
 exact⟨h.1,h.2.1,yD h.2.2.1,yD h.2.2.2.1,h.2.2.2.2⟩
theorem aev:([bs [97],bs [101],bs [115],bs [110]].all fun f=>[bs [],bs [105],bs [104]].all fun t=>FM ⟨f,t⟩)=true:=by kernel_rfl
theorem By{f t:ByteArray}(hf:f∈[bs [97],bs [101],bs [115],bs [110]])(ht:t∈[bs [],bs [105],bs [104]]):mY ⟨f,t⟩:=arY (List.all_eq_true.1 (List.all_eq_true.1 aev f hf) t ht)
theorem aa7{on:Int}{a:Nat}{v:Int}(h:v∈dB (fq K r) on a b k):v∈dB K on a b k:=by
 obtain⟨j,h1,h2,h3⟩:=(Cv k).1 h
 exact(Cv k).2 ⟨j,h1,h2,Lf j h3⟩
theorem ju.rul(h:ju K)(h2:K.rules.length≤3):ju (fq K r):=
 ⟨h.oD,h.ways,h.cZ,by show (K.rules++[r]).length≤4;simp;omega,h.before,h.after,h.tJ,h.facts,h.apart⟩
theorem eN.rul(h:eN K)(h2:K.rules.length≤3)(hr:mY r):eN (fq K r):=
 ⟨⟨by show (K.rules++[r]).length≤4;simp;omega,oy h.rules.2 hr⟩,h.before,h.after,h.cZ,h.facts⟩
theorem ate(hN:Dn ro vd xs):aqR zT 3 [vd] ro (fun r Y=>r= .bool true∧Y=[]):=by
 have hN0:=hN
 obtain⟨hl,hxn⟩:=hN
 obtain⟨fu,ry,rq,eI,rfl,tx,lv,mj⟩:=hl
 refine aBR au (by kernel_rfl) [] bn fun fr=>zD 7<|jc (vs:=[.slice fu xs.length eI]) [] (aQW hN0.1) ?_
 rintro _ X16 ⟨d16,rfl,ahq⟩
 refine zD 5<|jcG (vs:=[zP d16,zI 3,zI 2]) [0] (aQX hN0 ahq (by decide) (by decide)) ?_
 rintro _ aH X18 bX ⟨K,l,rfl,hO,ur,hK,Hg⟩
 obtain⟨v0,v1,v3,v4,v5,v6,v7,vb,va,vc,hv,rfl,_,_,_,_,_,hb,ha,hf⟩:=id hK
 obtain⟨lB,Ox,Ov,lf,rfl,Ow,Mt,Ms⟩:=hb
 obtain⟨kR,JZ,JX,kK,rfl,JY,IS,IQ⟩:=ha
 obtain⟨jK,Dd,Dc,iV,rfl,JW,xJ,xI⟩:=hf
 have hC:=hO.c
 have hV:=hO.v
 have auR:=hO.tJ
 have E3:=hV.before.1
 have KO:=hV.after.1
 refine jn fun b4=>jsx 0 b4 0 zO [v0,v1,.slice va 0 vc,v3,v4,v5,.slice lB K.before.length lf,.slice kR K.after.length kK,zI K.gone,zI K.new,zI K.af,.slice jK K.facts.length iV] 40 hK.L.all rfl<|jd 4 [0]<|jc (vs:=[.agg ⟨[v0,v1,.slice va 0 vc,v3,v4,v5,.slice lB K.before.length lf,.slice kR K.after.length kK,zI K.gone,zI K.new,zI K.af,.slice jK K.facts.length iV]⟩]) [] (afj hK hC) ?_
 rintro _ _ ⟨C3,C2,C1,CZ,azf,CY,CX,CV,CW,CU,aRW,Z22,rfl,amJ,aaz,aNP,rfl⟩
 have aCm:=VT.all (K:=K) ⟨C3,C2,C1,CZ,azf,CY,CX,CV,CW,CU,rfl,amJ⟩
 refine jg 0 [.l aRW,.l Z22]<|jn (fun b5=>?_)
 obtain⟨va2,vc2,E0⟩:=aaz.form
 subst E0
 refine jsx 0 b5 0 zO [C3,C2,.slice CW 0 CU,C1,CZ,(.slice va2 (K.rules).length vc2),CY,CX,zI K.gone,zI K.new,zI K.af,CV] 40 aCm rfl<|zD 2<|GF [1,1,1,1,1] [] (fun(zz:Value×Cells×aU)=>[(2,.bool false),(4,zP b4),(5,zP b5)]) (fun zz=>[.b b5 (.cells ⟨[C3,C2,.slice CW 0 CU,C1,CZ,zz.1,CY,CX,zI K.gone,zI K.new,zI K.af,CV]⟩ 40 (0,0)),.l zz.2.1,.l Z22,.b b4 (.cells ⟨[v0,v1,.slice va 0 vc,v3,v4,v5,.slice lB K.before.length lf,.slice kR K.after.length kK,zI K.gone,zI K.new,zI K.af,.slice jK K.facts.length iV]⟩ 40 (0,0)),.l fr]) (fun zz=>ay zz.1 2 45 e9 (K.rules++[zz.2.2]) zz.2.1∧mY zz.2.2) ?_ (fun K1 bL=>?_)
 ·
  rintro⟨vR,LR,rr⟩ hJ rest
  dsimp only at hJ
  refine zD 2<|jf [1,2] (LR++Z22) (fun ro5 Dr hk4=>?_)
  have hKx:=aNP _ Dr (Knows.right hk4) _ _ (hJ.1.kQ (Knows.left hk4))
  replace hK:=hK.up Dr
  have rS:K.rules.length≤3:=by have:=hO.rules.1;omega
  have hCx:=hC.rul (r:=rr) rS
  have hVx:=hV.rul rS hJ.2
  have hf4:=hC.facts.1
  have hle:=arZ (r:=rr) hf4 E3
  refine jd 1 [1]<|Sq (vs:=[.agg ⟨[v0,v1,.slice va 0 vc,v3,v4,v5,.slice lB K.before.length lf,.slice kR K.after.length kK,zI K.gone,zI K.new,zI K.af,.slice jK K.facts.length iV]⟩]) [] (fun _ _ h=>h) (GC (K:=K) hK hC hV) ?_
  rintro _ _ ⟨rfl,rfl⟩
  refine jg 0 []<|jd 9 [0]<|Sq (vs:=[.agg ⟨[C3,C2,.slice CW 0 CU,C1,CZ,vR,CY,CX,zI K.gone,zI K.new,zI K.af,CV]⟩]) [] (fun _ _ h=>h) (GC (K:=fq K rr) hKx hCx hVx) ?_
  rintro _ _ ⟨rfl,rfl⟩
  refine jg 0 []<|zD 21<|zJ 55 ((cJ (fq K rr):Int) <(cJ K:Int)) (fun h6=>?_) fun h6=>?_
  ·
   exfalso;omega
  refine zD 8<|dS [1,1,1,1,1,1,1,1,0,1,0,0] [] (fun(zz:Nat)=>[(4,zP b4),(5,zP b5),(10,zI (zz:Int))]) (fun zz=>[.b b5 (.cells ⟨[C3,C2,.slice CW 0 CU,C1,CZ,vR,CY,CX,zI K.gone,zI K.new,zI K.af,CV]⟩ 40 (0,0)),.b b4 (.cells ⟨[v0,v1,.slice va 0 vc,v3,v4,v5,.slice lB K.before.length lf,.slice kR K.after.length kK,zI K.gone,zI K.new,zI K.af,.slice jK K.facts.length iV]⟩ 40 (0,0)),.l fr]) (fun zz=>zz≤K.before.length) (fun zz=>K.before.length-zz) 0 (by omega) [0,1,2] ?_
  rintro i hIi K2 mb rest
  refine jd 9 [1]<|zJ 60 ((i:Int) <(K.before.length:Int)) (fun h7=>?_) fun h7=>?_
  ·
   refine zD 9<|dS [1,1,1,1,1,1,1,1,0,1,0,0,1,0,0,1,0,0] [K2] (fun(zz:Nat)=>[(4,zP b4),(5,zP b5),(10,zI (i:Int)),(11,zI (zz:Int))]) (fun zz=>[.b b5 (.cells ⟨[C3,C2,.slice CW 0 CU,C1,CZ,vR,CY,CX,zI K.gone,zI K.new,zI K.af,CV]⟩ 40 (0,0)),.b b4 (.cells ⟨[v0,v1,.slice va 0 vc,v3,v4,v5,.slice lB K.before.length lf,.slice kR K.after.length kK,zI K.gone,zI K.new,zI K.af,.slice jK K.facts.length iV]⟩ 40 (0,0)),.l fr]) (fun zz=>zz≤K.after.length) (fun zz=>K.after.length-zz) 0 (by omega) [0,1,2] ?_
   rintro j hJj K3 X3 rest
   refine jd 9 [1]<|zJ 67 ((j:Int) <(K.after.length:Int)) (fun h8=>?_) fun h8=>?_
   ·
    refine jd 9 [1]<|jc (vs:=[.agg ⟨[v0,v1,.slice va 0 vc,v3,v4,v5,.slice lB K.before.length lf,.slice kR K.after.length kK,zI K.gone,zI K.new,zI K.af,.slice jK K.facts.length iV]⟩,zI (i:Int),zI (j:Int)]) [] (afn (a:=i) (b:=j) hK hV (wy hK hC hV) (by omega) (by omega)) ?_
    rintro _ YP ⟨vP,rfl,hoP⟩
    refine jd 11 [1]<|jc (vs:=[.agg ⟨[C3,C2,.slice CW 0 CU,C1,CZ,vR,CY,CX,zI K.gone,zI K.new,zI K.af,CV]⟩,zI (i:Int),zI (j:Int)]) [] (afn (a:=i) (b:=j) hKx hVx (wy hKx hCx hVx) (by show i <K.before.length;omega) (by show j <K.after.length;omega)) ?_
    rintro _ YQ ⟨vQ,rfl,hoQ⟩
    have amM:ay vQ 1 3 cz (dB (fq K rr) (aD K) i j 3) YQ:=hoQ
    have hlp:=xb (K:=K) (on:=aD K) (a:=i) (b:=j) 3
    have hlq:=xb (K:=fq K rr) (on:=aD K) (a:=i) (b:=j) 3
    have hcm:=HF (K:=K) (r:=rr) (on:=aD K) (a:=i) (b:=j) 3
    refine zD 17<|B0 amM<|zD 1<|B0 hoP<|zD 3<|zJ 96 (((dB (fq K rr) (aD K) i j 3).length:Int)>((dB (K) (aD K) i j 3).length:Int)) (fun h9=>?_) fun h9=>?_
    ·
     exfalso;omega
    refine zD 7<|dS [1,1,1,1,1,1,1,1,0,1,0,0,1,0,0,1,0,0,1,0,0,1,1,1,1,0,0] [K2,K3] (fun(zz:Nat)=>[(4,zP b4),(5,zP b5),(10,zI (i:Int)),(11,zI (j:Int)),(12,vP),(14,vQ),(16,zI (zz:Int))]) (fun zz=>[.l YQ,.l YP,.b b5 (.cells ⟨[C3,C2,.slice CW 0 CU,C1,CZ,vR,CY,CX,zI K.gone,zI K.new,zI K.af,CV]⟩ 40 (0,0)),.b b4 (.cells ⟨[v0,v1,.slice va 0 vc,v3,v4,v5,.slice lB K.before.length lf,.slice kR K.after.length kK,zI K.gone,zI K.new,zI K.af,.slice jK K.facts.length iV]⟩ 40 (0,0)),.l fr]) (fun zz=>zz≤(dB (fq K rr) (aD K) i j 3).length) (fun zz=>(dB (fq K rr) (aD K) i j 3).length-zz) 0 (by omega) (zN 0 5) ?_
    rintro m hMm K4 hK4 rest
    refine zD 5<|B0 amM<|zD 2<|zJ 100 ((m:Int) <((dB (fq K rr) (aD K) i j 3).length:Int)) (fun Iy=>?_) fun Iy=>?_
    ·
     refine zD 9 ?_
     obtain⟨ayG,afE⟩:=zG ((dB (fq K rr) (aD K) i j 3)) m (by first|omega| (simp only[List.length_set,zM];omega))
     refine jxo 1 amM afE fun bbb aD6=>oH 0 [0] YQ (fun s _ hZ=>cw amM aD6 hZ afE)<|jp (vs:=[vP,zI ayG]) [1] YP (fun aH hs hZ=>afh (hoP.kQ hZ) (by first|omega| (simp only[List.length_set,zM];omega))) ?_
     refine zD 2<|zJ 109 ((cb (fun y=>decide (y=ayG)) (dB (K) (aD K) i j 3) 0) <0) (fun NC=>?_) fun NC=>?_
     ·
      exfalso;have hm:=Uc.2 (aa7 (zL afE));omega
     refine zD 4<|ja ((m:Int)+1) (by omega)<|zD 2<|bJ hK4 (m+1) (by omega) (by omega) (zN 0 5) (Sub.refl _)
    refine zD 4<|ja ((j:Int)+1) (by omega)<|zD 2<|bJ X3 (j+1) (by omega) (by omega) [2,3,4] (Sub.refl _)
   refine zD 4<|ja ((i:Int)+1) (by omega)<|zD 2<|bJ mb (i+1) (by omega) (by omega) [0,1,2] (Sub.refl _)
  refine zD 4<|Sq [] (fun _ _ h=>h) (ak8) ?_
  rintro _ _ ⟨rfl,rfl⟩
  refine jg 0 []<|zD 3<|Ub qC.a.a (.bool true) [2] [] (bX.trans Dr) ⟨rfl,rfl⟩
 refine jd 5 [0]<|ET [3,6] ⟨fun z5 t6 Ra=>?_,fun z8 t9 tS=>?_,trivial⟩
 ·
  refine jn fun b26=>ez Ra (zN 1 6)<|ET [4,6] ⟨fun z11 t12 Nx=>?_,fun z14 t15 Em=>?_,trivial⟩
  ·
   refine OA (vs:=[zP d16,.slice (some ⟨b26,0,none⟩) 4 4]) [5] [0] [(b26,.cells ⟨([(bs [97]),(bs [101]),(bs [115]),(bs [110])].map mf).flatten⟩ 9 (0,0))] (fun aH hs hZ=>xU ((hN0.up bX).up hs) Hg (bC [(bs [97]),(bs [101]),(bs [115]),(bs [110])] hZ.head (by intro p hp;rfl)) (by decide)) ?_
   rintro _ X27 ⟨DR,rfl,aar,U1⟩
   refine fS Nx [[2]]<|aS 6 fun V0 Wc Cg=>jn fun IE=>ez Cg (zN 1 7)<|aS 7 fun ab4 acO Nw=>OA (vs:=[zP d16,.slice (some ⟨IE,0,none⟩) 3 3]) [1] [0] [(IE,.cells ⟨([(bs []),(bs [105]),(bs [104])].map mf).flatten⟩ 9 (0,0))] (fun aH hs hZ=>xU ((hN0.up bX).up hs) U1 (bC [(bs []),(bs [105]),(bs [104])] hZ.head (by intro p hp;rfl)) (by decide)) ?_
   rintro _ X30 ⟨LJ,rfl,afF,aho⟩
   refine fS Nw [[3]]<|zD 1<|aS 9 fun ab3 acN Nv=>jn fun b32=>ez Nv (zN 1 8)<|aS 10 fun aoy aoT Nu=>iC (sz:=2) (ps:=K.rules) (qs:=[(⟨DR,LJ⟩:aU)]) (enc:=e9) (w:= .slice (some ⟨b32,0,none⟩) 1 1) [5] [0] [(b32,.cells ⟨([(⟨DR,LJ⟩:aU)].map e9).flatten⟩ 45 (0,0))] (aaz) (fun s _ hZ=>bN [(⟨DR,LJ⟩:aU)] (hZ _ (.head _)) (by intro p hp;rfl)) (fun p _=>ai rfl) (by have:=hO.rules.1;simp only[zM];omega) (fun v33 L33 pX=>?_)
   obtain⟨S0,SU,UK⟩:=pX.form
   subst UK
   refine fS Nu []<|zD 1<|aS 12 fun ayA azt aaN=>jd 1 [5]<|fT aaN<|zD 1<|bJ bL ⟨(.slice S0 ((K.rules++[(⟨DR,LJ⟩:aU)])).length SU),L33,⟨DR,LJ⟩⟩ ⟨pX,By aar afF⟩ Nat.zero_lt_one [5,0,6,7,8] (Sub.refl _)
  refine jn fun IE=>ez Em (zN 1 7)<|aS 4 fun ayz azs U0=>OA (vs:=[zP d16,.slice (some ⟨b26,0,none⟩) 4 4]) [6] [1] [(b26,.cells ⟨([(bs [97]),(bs [101]),(bs [115]),(bs [110])].map mf).flatten⟩ 9 (0,0))] (fun aH hs hZ=>xU ((hN0.up bX).up hs) Hg (bC [(bs [97]),(bs [101]),(bs [115]),(bs [110])] hZ.head (by intro p hp;rfl)) (by decide)) ?_
  rintro _ X27 ⟨DR,rfl,aar,U1⟩
  refine fS U0 [[3]]<|aS 7 fun aox aoS Nt=>OA (vs:=[zP d16,.slice (some ⟨IE,0,none⟩) 3 3]) [0] [0] [(IE,.cells ⟨([(bs []),(bs [105]),(bs [104])].map mf).flatten⟩ 9 (0,0))] (fun aH hs hZ=>xU ((hN0.up bX).up hs) U1 (bC [(bs []),(bs [105]),(bs [104])] hZ.head (by intro p hp;rfl)) (by decide)) ?_
  rintro _ X30 ⟨LJ,rfl,afF,aho⟩
  refine fS Nt [[3]]<|zD 1<|aS 9 fun ayy azr ahh=>jn fun b32=>ez ahh (zN 1 8)<|aS 10 fun aow aoR Ns=>iC (sz:=2) (ps:=K.rules) (qs:=[(⟨DR,LJ⟩:aU)]) (enc:=e9) (w:= .slice (some ⟨b32,0,none⟩) 1 1) [5] [0] [(b32,.cells ⟨([(⟨DR,LJ⟩:aU)].map e9).flatten⟩ 45 (0,0))] (aaz) (fun s _ hZ=>bN [(⟨DR,LJ⟩:aU)] (hZ _ (.head _)) (by intro p hp;rfl)) (fun p _=>ai rfl) (by have:=hO.rules.1;simp only[zM];omega) (fun v33 L33 pX=>?_)
  obtain⟨S0,SU,UK⟩:=pX.form
  subst UK
  refine fS Ns []<|zD 1<|aS 12 fun VZ Wb AF=>jd 1 [5]<|fT AF<|zD 1<|bJ bL ⟨(.slice S0 ((K.rules++[(⟨DR,LJ⟩:aU)])).length SU),L33,⟨DR,LJ⟩⟩ ⟨pX,By aar afF⟩ Nat.zero_lt_one [5,0,6,7,8] (Sub.refl _)
 refine jn fun IE=>ez tS (zN 1 6)<|aS 3 fun Jm Ju Cf=>jn fun b26=>ez Cf (zN 1 7)<|aS 4 fun Jl Jt Ce=>OA (vs:=[zP d16,.slice (some ⟨b26,0,none⟩) 4 4]) [6] [0] [(b26,.cells ⟨([(bs [97]),(bs [101]),(bs [115]),(bs [110])].map mf).flatten⟩ 9 (0,0))] (fun aH hs hZ=>xU ((hN0.up bX).up hs) Hg (bC [(bs [97]),(bs [101]),(bs [115]),(bs [110])] hZ.head (by intro p hp;rfl)) (by decide)) ?_
 rintro _ X27 ⟨DR,rfl,aar,U1⟩
 refine fS Ce [[3]]<|aS 7 fun Jk Js Cd=>OA (vs:=[zP d16,.slice (some ⟨IE,0,none⟩) 3 3]) [0] [1] [(IE,.cells ⟨([(bs []),(bs [105]),(bs [104])].map mf).flatten⟩ 9 (0,0))] (fun aH hs hZ=>xU ((hN0.up bX).up hs) U1 (bC [(bs []),(bs [105]),(bs [104])] hZ.head (by intro p hp;rfl)) (by decide)) ?_
 rintro _ X30 ⟨LJ,rfl,afF,aho⟩
 refine fS Cd [[3]]<|zD 1<|aS 9 fun VY Wa Nr=>jn fun b32=>ez Nr (zN 1 8)<|aS 10 fun VX V9 I8=>iC (sz:=2) (ps:=K.rules) (qs:=[(⟨DR,LJ⟩:aU)]) (enc:=e9) (w:= .slice (some ⟨b32,0,none⟩) 1 1) [5] [0] [(b32,.cells ⟨([(⟨DR,LJ⟩:aU)].map e9).flatten⟩ 45 (0,0))] (aaz) (fun s _ hZ=>bN [(⟨DR,LJ⟩:aU)] (hZ _ (.head _)) (by intro p hp;rfl)) (fun p _=>ai rfl) (by have:=hO.rules.1;simp only[zM];omega) (fun v33 L33 pX=>?_)
 obtain⟨S0,SU,UK⟩:=pX.form
 subst UK
 refine fS I8 []<|zD 1<|aS 12 fun ab2 acM Nq=>jd 1 [5]<|fT Nq<|zD 1<|bJ bL ⟨(.slice S0 ((K.rules++[(⟨DR,LJ⟩:aU)])).length SU),L33,⟨DR,LJ⟩⟩ ⟨pX,By aar afF⟩ Nat.zero_lt_one [5,0,6,7,8] (Sub.refl _)
theorem Gw(W:World)(hN:Dn (fun b=>W.heap[b]?) vd xs) {Post:Value→World→Prop}
 (Q9:∀w:World,(∀(b:Nat) (o:Obj),W.heap[b]?=some o→w.heap[b]?=some o)→w.os=W.os→w.output=W.output→Post (.bool true) w):
 ∃N last o w' t',runNT zT (N+1) (solo (G (Frame.enter zT 3 ⟨[vd]⟩ .normal) []) W) #[]=(.ended o w',t')∧runN zT N (solo (G (Frame.enter zT 3 ⟨[vd]⟩ .normal) []) W)= .next last∧step zT last= .ended o w'∧Good zT Post last o w' t':=by
 have ha:aR ⟨fun b=>W.heap[b]?,[]⟩ W:=⟨fun _ _ h=>h,(fun _ _ h=>(by cases h)),by simp,(fun _ _ h=>(by cases h))⟩
 exact acU ha (ate hN _ _ _ fun v Y w pQ oX s9 Eh=>by
  obtain⟨rfl,rfl⟩:=pQ
  exact Q9 w (fun b o hb=>oX.ro b o hb) s9 Eh)
end Go.L

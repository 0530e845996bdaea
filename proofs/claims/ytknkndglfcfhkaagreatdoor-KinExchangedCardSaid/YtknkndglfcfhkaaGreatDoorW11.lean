/- Part 11 of the proof. -/
import Derived.Test.YtknkndglfcfhkaaGreatDoorW10
set_option maxRecDepth 100000
set_option linter.all false
namespace Go.L
open Go Go.Conc Go.Proofs
variable {rs:List aY} {K K':aB} {ro:Nat→Option Obj} {q:Nat→Int} {hd:List cd} {l:List Value} {i n:Nat} {fs:List bZ} {b:ByteArray} {xs:List Int} {x y:ah} {vd:Value} {α:Type}
theorem anU{m:fe}{a:Nat}(h:a <4):Hd true (Av m) ((a:Int).toNat*4) 4=some (.agg ⟨[zI (m.c a 0),zI (m.c a 1),zI (m.c a 2),zI (m.c a 3)]⟩):=by
 rcases AO h with rfl|rfl|rfl|rfl<;>rfl
theorem auf{m:fe}{a b:Nat}(h:b <4):Hd false [zI (m.c a 0),zI (m.c a 1),zI (m.c a 2),zI (m.c a 3)] ((b:Int).toNat*1) 1=some (zI (m.c a b)):=by
 rcases AO h with rfl|rfl|rfl|rfl<;>rfl
theorem ag3{rows:List bI}{a b:Nat}(hK:fP ro l K)(hV:eR K)(hB:jR ro l K rows)(xZ:a <K.before.length)(Ij:b <K.after.length):eg zT 43 [.agg ⟨l⟩,zI (a:Int),zI (b:Int)] ro [] (fun r Y=>∃f,r= .tuple ⟨[pV f,zI 0]⟩∧(∀aJ,Sub ro aJ→Knows aJ Y→pO aJ f K rows)):=by
 obtain⟨v0,v1,v3,v4,v5,v6,v7,vb,fa,fc,hv,rfl,_,_,_,_,_,hb,ha,_⟩:=id hK
 obtain⟨j7,Kb,J9,jZ,rfl,Ka,JF,JE⟩:=hb
 obtain⟨nv,N7,N2,nq,rfl,N3,LX,LW⟩:=ha
 have Dh:=hV.before.1
 have FW:=hV.after.1
 refine zE<|zD 2<|jn fun b3=>jd 6 [0]<|jc (vs:=[.agg ⟨[v0,v1,.slice fa 0 fc,v3,v4,v5,.slice j7 K.before.length jZ,.slice nv K.after.length nq,zI K.gone,zI K.new,zI K.af,vb]⟩]) [] (hB _ (Sub.refl _)) ?_
 rintro _ Y12 ⟨f12,rfl,ayI⟩
 refine jd 22 [1]<|ja ((K.before.length:Int)-1) (by omega)<|jp (vs:=[zI (a:Int),zI 0,zI ((K.before.length:Int)-1)]) [] [] (fun aH hs hZ=>fq)<|zD 3<|js 19 (!(iL (a:Int) 0 ((K.before.length:Int)-1))) (fun h1=>?_) (fun h1=>?_)
 ·
  try simp only[zB] at h1
  exfalso;simp only[iL,Bool.and_eq_false_iff,decide_eq_false_iff_not] at h1;omega
 try simp only[zB] at h1
 refine jd 6 [1]<|ja ((K.after.length:Int)-1) (by omega)<|jp (vs:=[zI (b:Int),zI 0,zI ((K.after.length:Int)-1)]) [] [] (fun aH hs hZ=>fq)<|zD 3<|js 19 (!(iL (b:Int) 0 ((K.after.length:Int)-1))) (fun h2=>?_) (fun h2=>?_)
 ·
  try simp only[zB] at h2
  exfalso;simp only[iL,Bool.and_eq_false_iff,decide_eq_false_iff_not] at h2;omega
 try simp only[zB] at h2
 refine zD 9<|zR (.tuple ⟨[zP f12,zI 0]⟩) [] [0] Y12 ⟨f12,rfl,ayI⟩
theorem Sa{rows:List bI}{a b:Nat}(hK:fP ro l K)(hV:eR K)(hR:rows.length≤2)(hB:jR ro l K rows)(hCt:xL)(xZ:a <K.before.length)(Ij:b <K.after.length):Gb zT 18 [.agg ⟨l⟩,zI (a:Int),zI (b:Int)] ro [] (fun r Y=>∃zs v e,zs.Perm (cX K (aF K) (cm K.gone K.new K.af) rows)∧Y=[]∧r= .tuple ⟨[zI v,zI e]⟩∧((zs=[]∧e=9∧v=0)∨(zs≠[]∧e=0∧v=me ((aD zs).c a b) ((zs.length:Nat):Int)))):=by
 obtain⟨v0,v1,v3,v4,v5,v6,v7,vb,fa,fc,hv,rfl,_⟩:=id hK
 have Dh:=hV.before.1
 have FW:=hV.after.1
 refine HD av [] [] bp fun fr=>zD 2<|jn fun b3=>jd 8 [0]<|jc (vs:=[.agg ⟨[v0,v1,.slice fa 0 fc,v3,v4,v5,v6,v7,zI K.gone,zI K.new,zI K.af,vb]⟩,zI (a:Int),zI (b:Int)]) [] (ag3 hK hV hB xZ Ij) ?_
 rintro _ Y15 ⟨f15,rfl,aSx⟩
 refine zD 5<|jf [0] Y15 (fun zo bH iQ=>?_)
 have Fs:=aSx _ bH iQ
 refine zD 12<|P7 (vs:=[zP f15]) [] (fun _ _ h=>h) (ag5 Fs hV hR) ?_
 rintro _ Y23 ⟨zs,v23,e23,rfl,hz,aQd,he⟩
 have VN:∀x∈zs,(-4≤x.gone∧x.gone≤4)∧(-4≤x.new∧x.new≤4)∧(0≤x.af∧x.af≤4):=fun x hx=>by obtain⟨i,r,p,_,_,rfl,_⟩:=iM (hz.mem_iff.1 hx);exact qj hV r i p
 have hzl:zs.length≤1250:=by rw[hz.length_eq];exact q9 hV _ _ hR
 have hpr:∀x∈zs,∀q,0≤pI x q∧pI x q≤4:=fun x hx=>by obtain⟨i,r,p,_,hp,rfl,_⟩:=iM (hz.mem_iff.1 hx);exact Oy ((kz hV _).2 p hp)
 refine zD 5<|jf [0] Y23 (fun ro6 eT Qf=>?_)
 have hZ1:=aQd.jL Qf
 obtain⟨yt,Vb,U9,vv,rfl,Va,N9,N8⟩:=hZ1
 refine zD 7<|js 27 (!decide (e23=0)) (fun h7=>?_) (fun h7=>?_)
 ·
  replace h7:=of_decide_eq_false (by simpa using h7)
  have vL:zs=[]∧e23=9:=by rcases he with h| ⟨_,h⟩;exact h;omega
  refine zD 8<|Vz qC.a.a (.tuple ⟨[zI 0,zI e23]⟩) [1] [] (bH.trans eT) ⟨zs,_,_,hz,rfl,rfl,.inl ⟨vL.1,vL.2,rfl⟩⟩
 replace h7:=of_decide_eq_true (by simpa using h7)
 have vL:zs≠[]∧e23=0:=by rcases he with ⟨_,h⟩|h;omega;exact h
 refine zD 5<|jc (vs:=[.slice yt zs.length vv]) [] (hCt (show bD _ _ _ _ _ from ⟨yt,Vb,U9,vv,rfl,Va,N9,N8⟩) (by omega) hpr) ?_
 rintro _ _ ⟨rfl,rfl⟩
 refine jg 0 []<|zD 1<|jai (l:=Av (aD zs)) (a:Int) 4 4 true (by omega) (anU (m:=aD zs) (by omega))<|zD 1<|jai (b:Int) 4 1 false (by omega) (auf (m:=aD zs) (a:=a) (by omega))<|zD 2<|jp (vs:=[zI ((aD zs).c a b),zI (zs.length:Int)]) [] [] (fun aH hs hZ=>aEI)<|zD 4<|Vz qC.a.a (.tuple ⟨[zI (me ((aD zs).c a b) (zs.length:Int)),zI 0]⟩) [1] [] (bH.trans eT) ⟨zs,_,_,hz,rfl,rfl,.inr ⟨vL.1,rfl,rfl⟩⟩
theorem GD{f g:α→Nat}:∀ {l:List α},(∀x∈l,f x≤g x)→(l.map f).sum≤(l.map g).sum
 | [],_=>Nat.le_refl _
 |x::l,h=>by
  have h1:=h x List.mem_cons_self
  have h2:=GD (f:=f) (g:=g) (l:=l) fun y hy=>h y (List.mem_cons_of_mem _ hy)
  simp only[List.map_cons,List.sum_cons]
  omega
theorem Xu{p q:α→Bool}:∀ {l:List α},(∀x∈l,p x=q x)→l.any p=l.any q
 | [],_=>rfl
 |x::l,h=>by rw[List.any_cons,List.any_cons,h x List.mem_cons_self,Xu fun y hy=>h y (List.mem_cons_of_mem _ hy)]
theorem TP{on:Int}{keep P:ak→Bool}{rows:List bI}:(cX K on keep rows).countP P=((List.range rows.length).map fun i=>(aK K on).countP fun q=>P (cu K ((rows[i]?).getD ⟨fun _ _=>false⟩) i q)&&keep (cu K ((rows[i]?).getD ⟨fun _ _=>false⟩) i q)).sum:=by
 simp only[cX,iE,List.countP_flatten,List.map_map]
 congr 1
 refine List.map_congr_left fun i _=>?_
 simp only[Function.comp,nC,List.countP_filter,List.countP_map]
 rfl
theorem Xf{P P':α→Bool}{f:α→α}{l m:List α}(hl:l.Nodup)(hm:∀x∈l,P x=true→f x∈m∧P' (f x)=true)(hi:∀x∈l,∀y∈l,f x=f y→x=y):l.countP P≤m.countP P':=by
 rw[List.countP_eq_length_filter,List.countP_eq_length_filter]
 refine yI (f:=f) (List.Pairwise.filter _ hl) (fun x hx=>?_) fun x hx y hy=>hi x (List.mem_filter.1 hx).1 y (List.mem_filter.1 hy).1
 have:=List.mem_filter.1 hx
 exact List.mem_filter.2 (hm x this.1 this.2)
theorem PQ{on':Int}{keep HA P P':ak→Bool}{rows Lq:List bI}{f:(Nat→Int)→Nat→Int}(hf:K.facts.length≤4)(hl:rows.length=Lq.length)
 (hp:∀q∈aK K (aF K),f q∈aK K' on')(hi:∀q∈aK K (aF K),∀p∈aK K (aF K),f q=f p→q=p)
 (hk:∀i r r',rows[i]?=some r→Lq[i]?=some r'→∀q∈aK K (aF K),P (cu K r i q)=true→keep (cu K r i q)=true→P' (cu K' r' i (f q))=true∧HA (cu K' r' i (f q))=true):
 (cX K (aF K) keep rows).countP P≤(cX K' on' HA Lq).countP P':=by
 rw[TP,TP,←hl]
 refine GD fun i SE=>?_
 have h1:=List.mem_range.1 SE
 have e1:rows[i]?=some rows[i]:=List.getElem?_eq_getElem h1
 have e2:Lq[i]?=some (Lq[i]'(hl▸h1)):=List.getElem?_eq_getElem _
 rw[e1,e2]
 simp only[Option.getD_some]
 refine Xf (f:=f) (Rn hf) (fun q hq h=>?_) hi
 simp only[Bool.and_eq_true] at h ⊢
 exact⟨hp q hq,hk i _ _ e1 e2 q hq h.1 h.2⟩
theorem Hb(p:Nat→Int):pY (pL p)=(if p 0>0 then 1 else 0)+(if p 1>0 then 1 else 0)+(if p 2>0 then 1 else 0)+(if p 3>0 then 1 else 0):=by
 simp only[pY,pL,List.filter_cons,List.filter_nil,decide_eq_true_eq]
 split<;>split<;>split<;>split<;>simp
theorem Ot{l:List ByteArray}{x:ByteArray}:∀k,x∈dd (l.take k)↔x∈l.take k
 |0=>by simp[dd]
 |k+1=>by
  have ih:=Ot (l:=l) (x:=x) k
  cases h:l[k]? with
  |none=>
   have hl:l.length≤k:=List.getElem?_eq_none_iff.1 h
   rw[List.take_of_length_le hl] at ih
   rw[List.take_of_length_le (by omega)]
   exact ih
  |some y=>
   rw[eA h,F6]
   split
   ·rename_i hy
    rw[ih,List.mem_append]
    constructor
    ·exact .inl
    rintro(h|h)
    ·exact h
    rw[List.mem_singleton.1 h];exact(Ot (l:=l) (x:=y) k).1 hy
   rw[List.mem_append,List.mem_append,ih]
theorem Ou{l:List ByteArray}{x:ByteArray}:x∈dd l↔x∈l:=by
 have:=Ot (l:=l) (x:=x) l.length
 rwa[List.take_length] at this
theorem B3{rs':List aY}{to:ByteArray}(h:∀w x,x∈j9 w rs→x∈j9 w rs'):∀(n:Nat) (w:ByteArray) (b b':List ByteArray),Ay rs to n w b≠[]→Ay rs' to n w b'≠[]
 |0,w,b,b'=>by
  simp only[Ay]
  split
  ·exact fun _=>by simp
  exact fun h=>absurd rfl h
 |n+1,w,b,b'=>by
  intro dR
  obtain⟨x,hx⟩:=List.exists_mem_of_ne_nil _ dR
  simp only[Ay,List.mem_flatMap] at hx
  obtain⟨s,hs,hx⟩:=hx
  obtain⟨y,hy⟩:=List.exists_mem_of_ne_nil _ (B3 h n s (b++[w]) (b'++[w]) (List.ne_nil_of_mem hx))
  refine List.ne_nil_of_mem (a:=y) ?_
  simp only[Ay,List.mem_flatMap]
  exact⟨s,Ou.2 (h w s (Ou.1 hs)),hy⟩
theorem A6{rs:List aY}{a to:ByteArray}:∀(f m:Nat),uqN rs a to f m=none↔∀i,i <f→Ay rs to (m+i) a []=[]
 |0,m=>⟨fun _ i hi=>absurd hi (Nat.not_lt_zero _),fun _=>rfl⟩
 |f+1,m=>by
  rw[uqN]
  have ih:=A6 (rs:=rs) (a:=a) (to:=to) f (m+1)
  cases hd:decide (0 <(Ay rs to m a []).length) with
  |true=>
   simp only[cond_true]
   constructor
   ·intro h;cases h
   intro h
   have h0:=h 0 (by omega)
   rw[Nat.add_zero] at h0
   rw[h0] at hd
   simp at hd
  |false=>
   simp only[cond_false]
   have h0:Ay rs to m a []=[]:=List.eq_nil_of_length_eq_zero (by have:=of_decide_eq_false hd;omega)
   rw[ih]
   constructor
   ·intro h i hi
    cases i with
    |zero=>exact h0
    |succ i=>rw[show m+(i+1)=m+1+i by omega];exact h i (by omega)
   intro h i hi
   have:=h (i+1) (by omega)
   rwa[show m+(i+1)=m+1+i by omega] at this
theorem Gn{a:ByteArray}:qt rs a b=2↔uq rs (keyOf a) (keyOf b)=none:=by
 simp only[qt]
 split
 ·rename_i h;exact⟨fun _=>h,fun _=>rfl⟩
 ·rename_i h;rw[h];exact⟨fun h=>absurd h (by decide),fun h=>by cases h⟩
 rename_i h;rw[h];exact⟨fun h=>absurd h (by decide),fun h=>by cases h⟩
theorem ak3{a:ByteArray}(h:a.data.toList=b.data.toList):a=b:=by
 cases a with|mk x=>cases b with|mk y=>
 congr 1
 exact Array.toList_inj.1 h
theorem oh(a:ByteArray)(i j:Nat):(a.extract i j).data.toList=(a.data.toList.take j).drop i:=by
 rw[ByteArray.data_extract,Array.toList_extract,List.extract_eq_drop_take,List.drop_take]
theorem ak4(a b:ByteArray):(a++b).data.toList=a.data.toList++b.data.toList:=by
 rw[ByteArray.data_append,Array.toList_append]
theorem oG(a:ByteArray):a.size=a.data.toList.length:=by
 rw[Array.length_toList];rfl
theorem Q4{w f t x:ByteArray}(hw:1≤w.size∧w.size≤12)(h:x∈u2 w f t):w∈u2 x t f:=by
 simp only[u2,tk,List.mem_filterMap,List.mem_range] at h ⊢
 obtain⟨i,hi,h⟩:=h
 unfold mO at h
 split at h<;>try (cases h;done)
 rename_i hc
 obtain⟨hp,hx1,hx2⟩:=hc
 simp only[Option.some.injEq] at h
 have Qb:=Rf hp
 unfold qD at hp
 rw[Bool.and_eq_true,decide_eq_true_eq,qi] at hp
 have OS:=congrArg (fun z=>z.data.toList) hp.2
 simp only[oh] at OS
 have uI:(w.extract i w.size).size=w.size-i:=by rw[oG,oh,oG];simp
 rw[uI] at Qb
 have hwl:w.data.toList.length=w.size:=(oG w).symm
 have vK:f.data.toList.length=f.size:=(oG f).symm
 have htl:t.data.toList.length=t.size:=(oG t).symm
 have aGX:w.data.toList.drop i=f.data.toList++w.data.toList.drop (i+f.size):=by
  have e1:((w.data.toList.take w.size).drop i).take f.size=f.data.toList:=by simpa using OS
  rw[List.take_of_length_le (show w.data.toList.length≤w.size by omega)] at e1
  rw[←e1,←List.drop_drop,List.take_append_drop]
 have hxl:x.data.toList=w.data.toList.take i++t.data.toList++w.data.toList.drop (i+f.size):=by
  rw[←h]
  simp only[qA,ak4,oh,Int.toNat_natCast,List.drop_zero]
  rw[show ((i:Int)+(f.size:Int)).toNat=i+f.size by omega,List.take_of_length_le (by omega:w.data.toList.length≤w.size)]
 have hxs:x.size=i+t.size+(w.size-(i+f.size)):=by
  rw[oG,hxl,List.length_append,List.length_append,List.length_take,List.length_drop,hwl,htl];omega
 have htk:(w.data.toList.take i).length=i:=by rw[List.length_take];omega
 have vg:qA x t f i=w:=by
  refine ak3 ?_
  simp only[qA,ak4,oh,Int.toNat_natCast,List.drop_zero]
  rw[show ((i:Int)+(t.size:Int)).toNat=i+t.size by omega,List.take_of_length_le (show x.data.toList.length≤x.size by rw[←oG];exact Nat.le_refl _),hxl]
  have d1:(w.data.toList.take i++t.data.toList++w.data.toList.drop (i+f.size)).take i=w.data.toList.take i:=by
   rw[List.append_assoc,List.take_append_of_le_length (by omega),List.take_of_length_le (by omega)]
  have d2:(w.data.toList.take i++t.data.toList++w.data.toList.drop (i+f.size)).drop (i+t.size)=w.data.toList.drop (i+f.size):=by
   rw[List.drop_append_of_le_length (by rw[List.length_append,htk,htl];omega),List.drop_eq_nil_of_le (by rw[List.length_append,htk,htl];omega),List.nil_append]
  rw[d1,d2,List.append_assoc,←aGX,List.take_append_drop]
 refine⟨i,by omega,?_⟩
 unfold mO
 rw[vg,if_pos]
 refine⟨?_,hw.1,hw.2⟩
 unfold qD
 rw[Bool.and_eq_true,decide_eq_true_eq,qi]
 have hex:(x.extract i x.size).data.toList=t.data.toList++w.data.toList.drop (i+f.size):=by
  rw[oh,List.take_of_length_le (show x.data.toList.length≤x.size by rw[←oG];exact Nat.le_refl _),hxl,List.append_assoc,List.drop_append_of_le_length (by omega),List.drop_eq_nil_of_le (by omega),List.nil_append]
 refine⟨by rw[oG (x.extract i x.size),hex,List.length_append,htl];omega,ak3 ?_⟩
 rw[oh,hex,List.drop_zero,List.take_append_of_le_length (by omega),List.take_of_length_le (by omega)]
theorem aeq{w s:ByteArray}(hw:1≤w.size∧w.size≤12)(h:s∈j9 w rs):w∈j9 s rs∧(1≤s.size∧s.size≤12):=by
 simp only[j9,iT,nU,List.mem_flatMap] at h ⊢
 obtain⟨p,⟨r,hr,hp⟩,hs⟩:=h
 constructor
 ·simp only[List.mem_cons,List.not_mem_nil,or_false] at hp
  rcases hp with rfl|rfl
  ·exact⟨(r.t,r.f),⟨r,hr,by simp⟩,Q4 hw hs⟩
  exact⟨(r.f,r.t),⟨r,hr,by simp⟩,Q4 hw hs⟩
 simp only[u2,tk,List.mem_filterMap,List.mem_range] at hs
 obtain⟨i,_,hs⟩:=hs
 unfold mO at hs
 split at hs<;>try (cases hs;done)
 rename_i hc
 simp only[Option.some.injEq] at hs
 rw[←hs]
 exact hc.2
def Reach(rs:List aY)(v:ByteArray)(n:Nat)(w:ByteArray):Prop:=Ay rs v n w []≠[]
theorem YG{v:ByteArray}{w:ByteArray}(b:List ByteArray):Reach rs v n w↔Ay rs v n w b≠[]:=
 ⟨B3 (fun _ _ h=>h) n w [] b,B3 (fun _ _ h=>h) n w b []⟩
theorem zp{v w:ByteArray}:Reach rs v 0 w↔w=v:=by
 simp only[Reach,Ay]
 rw[←qi]
 split
 ·rename_i h;exact⟨fun _=>h,fun _=>by simp⟩
 rename_i h;exact⟨fun h2=>absurd rfl h2,fun h2=>absurd h2 h⟩
theorem uh{v w:ByteArray}:Reach rs v (n+1) w↔∃s,s∈j9 w rs∧Reach rs v n s:=by
 constructor
 ·intro h
  obtain⟨x,hx⟩:=List.exists_mem_of_ne_nil _ h
  simp only[Ay,List.mem_flatMap] at hx
  obtain⟨s,hs,hx⟩:=hx
  exact⟨s,Ou.1 hs,(YG _).2 (List.ne_nil_of_mem hx)⟩
 rintro⟨s,hs,h⟩
 obtain⟨y,hy⟩:=List.exists_mem_of_ne_nil _ ((YG ([]++[w])).1 h)
 refine List.ne_nil_of_mem (a:=y) ?_
 simp only[Ay,List.mem_flatMap]
 exact⟨s,Ou.2 hs,hy⟩
theorem GV{v s:ByteArray}(hv:v∈j9 s rs):∀ {n:Nat} {w:ByteArray},Reach rs s n w→Reach rs v (n+1) w
 |0,w,h=>by
  rw[zp] at h
  subst h
  exact uh.2 ⟨v,hv,zp.2 rfl⟩
 |n+1,w,h=>by
  obtain⟨u,hu,h⟩:=uh.1 h
  exact uh.2 ⟨u,hu,GV hv h⟩
theorem CJ{v:ByteArray}:∀ {n:Nat} {w:ByteArray},(1≤w.size∧w.size≤12)→Reach rs v n w→Reach rs w n v
 |0,w,_,h=>by rw[zp] at h ⊢;exact h.symm
 |n+1,w,hw,h=>by
  obtain⟨s,hs,h⟩:=uh.1 h
  obtain⟨h1,h2⟩:=aeq hw hs
  exact GV h1 (CJ h2 h)
theorem ad5{a:ByteArray}(ha:1≤(keyOf a).size∧(keyOf a).size≤12)(hb:1≤(keyOf b).size∧(keyOf b).size≤12):qt rs a b=2↔qt rs b a=2:=by
 rw[Gn,Gn,uq,uq,A6,A6]
 constructor
 ·intro h i hi
  exact Decidable.byContradiction fun hn=>CJ hb hn (h i hi)
 intro h i hi
 exact Decidable.byContradiction fun hn=>CJ ha hn (h i hi)
theorem Zl:∀ {l:List UInt8} {a:ByteArray},(∀c∈l,R6 c)→a.size+l.length≤(E7 l a).size
 | [],a,_=>Nat.le_refl _
 |c::l,a,h=>by
  have h1:=GJ (h c List.mem_cons_self)
  have h2:=Zl (l:=l) (a:=a++iZ c) fun x hx=>h x (List.mem_cons_of_mem _ hx)
  rw[ByteArray.size_append] at h2
  simp only[E7,List.length_cons]
  omega
theorem Zi{w:ByteArray}(h:ri w):1≤(keyOf w).size∧(keyOf w).size≤12:=by
 have h1:=Zl (l:=w.data.toList) (a:=bs []) h.let
 have h2:=h.n.1
 rw[oG] at h2
 exact⟨by rw[keyOf];omega,(Hz h).2⟩
def sJ(q:Nat→Int):Nat→Int:=fun b=>if q 0=(b:Int)+1 then 1 else if q 1=(b:Int)+1 then 2 else if q 2=(b:Int)+1 then 3 else if q 3=(b:Int)+1 then 4 else 0
structure Nh(q:Nat→Int):Prop where
 JB:∀c,0≤q c∧q c≤4
 zero:∀c,4≤c→q c=0
 inj:∀c d,d <c→q c=q d→q c=0
theorem lH(h:Nh q){a b:Nat}(ha:a <4):sJ q b=(a:Int)+1↔q a=(b:Int)+1:=by
 have Iz:=imp_or (h.inj 1 0 (by omega));have h20:=imp_or (h.inj 2 0 (by omega));have h21:=imp_or (h.inj 2 1 (by omega))
 have ZW:=imp_or (h.inj 3 0 (by omega));have ZV:=imp_or (h.inj 3 1 (by omega));have h32:=imp_or (h.inj 3 2 (by omega))
 rcases AO ha with rfl|rfl|rfl|rfl<;>simp only[sJ]<;>(repeat' split)<;>omega
theorem Bv(q:Nat→Int)(b:Nat):sJ q b=0∨∃a:Nat,a <4∧sJ q b=(a:Int)+1:=by
 simp only[sJ]
 split
 ·exact .inr ⟨0,by omega,rfl⟩
 split
 ·exact .inr ⟨1,by omega,rfl⟩
 split
 ·exact .inr ⟨2,by omega,rfl⟩
 split
 ·exact .inr ⟨3,by omega,rfl⟩
 exact .inl rfl
theorem inv_inv(h:Nh q)(h2:Nh (sJ q)):sJ (sJ q)=q:=by
 funext c
 by_cases hc:c <4
 ·have hr:=h.JB c
  by_cases hz:q c=0
  ·rcases Bv (sJ q) c with e| ⟨a,ha,e⟩
   ·rw[e,hz]
   have e2:=(lH h2 ha).1 e
   have e3:=(lH h (a:=c) (b:=a) hc).1 e2
   omega
  obtain⟨b,hb,e⟩:∃b:Nat,b <4∧q c=(b:Int)+1:=⟨(q c-1).toNat,by omega,by omega⟩
  rw[e]
  exact(lH h2 hb).2 ((lH h hc).2 e)
 rw[h.zero c (by omega)]
 rcases Bv (sJ q) c with e| ⟨a,ha,e⟩
 ·exact e
 have e2:=(lH h2 ha).1 e
 have:=h2.JB a
 omega
def Tq(q:Nat→Int)(P:Nat→Nat→Bool)(a b:Nat):Int:=if q a=(b:Int)+1∧P a b=true then 1 else 0
def Rq(q:Nat→Int)(P:Nat→Nat→Bool)(a:Nat):Int:=if q a>0∧P a (q a-1).toNat=true then 1 else 0
theorem rF{P:Nat→Nat→Bool}{a:Nat}(h:0≤q a∧q a≤4):Rq q P a=Tq q P a 0+Tq q P a 1+Tq q P a 2+Tq q P a 3:=by
 rcases(by omega:q a=0∨q a=1∨q a=2∨q a=3∨q a=4) with e|e|e|e|e<;>simp[Tq,Rq,e]
theorem Zu{P P':Nat→Nat→Bool}(h:Nh q)(h2:Nh (sJ q))(hP:∀a b,P' b a=P a b):Rq (sJ q) P' 0+Rq (sJ q) P' 1+Rq (sJ q) P' 2+Rq (sJ q) P' 3=Rq q P 0+Rq q P 1+Rq q P 2+Rq q P 3:=by
 have key:∀a b,a <4→Tq (sJ q) P' b a=Tq q P a b:=fun a b ha=>by simp only[Tq,lH h ha,hP]
 rw[rF (h2.JB 0),rF (h2.JB 1),rF (h2.JB 2),rF (h2.JB 3),rF (h.JB 0),rF (h.JB 1),rF (h.JB 2),rF (h.JB 3),
  key 0 0 (by omega),key 0 1 (by omega),key 0 2 (by omega),key 0 3 (by omega),key 1 0 (by omega),key 1 1 (by omega),key 1 2 (by omega),key 1 3 (by omega),
  key 2 0 (by omega),key 2 1 (by omega),key 2 2 (by omega),key 2 3 (by omega),key 3 0 (by omega),key 3 1 (by omega),key 3 2 (by omega),key 3 3 (by omega)]
 omega
theorem afG(q:Nat→Int):pY (pL q)=Rq q (fun _ _=>true) 0+Rq q (fun _ _=>true) 1+Rq q (fun _ _=>true) 2+Rq q (fun _ _=>true) 3:=by
 rw[Hb]
 simp only[Rq,and_true]
theorem ark(r:bI)(q:Nat→Int):wH r q 4=Rq q (fun a b=> !r.c a b) 0+Rq q (fun a b=> !r.c a b) 1+Rq q (fun a b=> !r.c a b) 2+Rq q (fun a b=> !r.c a b) 3:=by
 have e:∀a,(bif decide (q a>0)&& !r.c a (q a-1).toNat then (1:Int) else 0)=Rq q (fun a b=> !r.c a b) a:=fun a=>by
  simp only[Rq]
  have key:∀b:Bool,(bif decide (q a>0)&& !b then (1:Int) else 0)=if q a>0∧(!b)=true then 1 else 0:=fun b=>by
   by_cases h:q a>0<;>cases b<;>simp[h]
  exact key _
 simp only[wH,e,Int.zero_add]
abbrev Yl(t:bZ):bZ:=⟨t.b,t.a,t.same⟩
abbrev gH(K:aB):aB:={K with before:=K.after,after:=K.before,gone:=K.new,new:=K.gone,facts:=K.facts.map Yl}
theorem ass(K:aB):gH (gH K)=K:=by
 have e:(K.facts.map Yl).map Yl=K.facts:=by
  rw[List.map_map]
  exact(List.map_congr_left fun t _=>rfl).trans (List.map_id _)
 show {K with facts:=(K.facts.map Yl).map Yl}=K
 rw[e]
structure AH(K:aB):Prop where
 ways:K.ways=[]
 facts:K.facts.length≤4∧∀t∈K.facts,(0≤t.a∧t.a <K.before.length)∧(0≤t.b∧t.b <K.after.length)
 before:K.before.length≤4
 after:K.after.length≤4
 name:∀x∈K.before,∀y∈K.after,qt K.rules x.name y.name=2↔qt K.rules y.name x.name=2
theorem AH.ex(h:AH K):AH (gH K) where
 ways:=h.ways
 facts:=⟨by show (K.facts.map Yl).length≤4;rw[List.length_map];exact h.facts.1,fun t ht=>by
  obtain⟨u,hu,rfl⟩:=List.mem_map.1 (show t∈K.facts.map Yl from ht)
  exact⟨(h.facts.2 u hu).2,(h.facts.2 u hu).1⟩⟩
 before:=h.after
 after:=h.before
 name:=fun x hx y hy=>(h.name y hy x hx).symm
theorem ab0(k:IntKind)(a b:Int):Kj k a b=Kj k b a:=by
 simp only[Kj,BitVec.and_comm]
theorem Vt(cs:List bP)(a b:Int):wK cs a b=wK cs b a:=by
 simp only[wK,ab0]
theorem apI(K:aB)(x y:ah):kG (gH K) y x=kG K x y:=by
 simp only[kG]
 by_cases h:(x.head <0∨y.head <0)∨x.head=y.head
 ·rw[if_pos h,if_pos (by omega)]
 rw[if_neg h,if_neg (by omega)]
 exact decide_eq_decide.2 (by rw[Vt])
theorem AH.fit(h:AH K)(a b:Nat):pM (gH K) b a=pM K a b:=by
 have hs:qz b a (K.facts.map Yl)=qz a b K.facts:=by
  rw[qz,qz,List.any_map]
  refine Xu fun t _=>?_
  simp only[Function.comp,Bool.and_comm]
 have e:pM (gH K) b a=match K.after[b]?,K.before[a]? with
  |some y,some x=> !jz (gH K) y x&&(!kG (gH K) y x&& !qz b a (K.facts.map Yl))
  |_,_=>false:=rfl
 rw[e,hs]
 simp only[pM]
 cases hx:K.before[a]? with
 |none=>cases K.after[b]?<;>rfl
 |some x=>cases hy:K.after[b]? with
  |none=>rfl
  |some y=>
   have hn:jz (gH K) y x=jz K x y:=decide_eq_decide.2 (h.name x (zL hx) y (zL hy)).symm
   simp only[hn,apI]
theorem AH.pq(h:AH K)(hq:q∈aK K (aF K)):Nh q:=by
 obtain⟨h1,h2,_⟩:=(fX h.facts.1 h.before).1 hq
 have ha:=h.after
 have hb:=h.before
 exact⟨fun c=>by rcases h1 c with e| ⟨_,b,hb,_,e⟩<;>omega,fun c hc=>by rcases h1 c with e| ⟨SM,_⟩<;>omega,h2⟩
theorem AH.mem(h:AH K)(hq:q∈aK K (aF K)):sJ q∈aK (gH K) (aF (gH K)):=by
 have hp:=h.pq hq
 obtain⟨h1,h2,h3⟩:=(fX h.facts.1 h.before).1 hq
 have hb:=h.before
 refine(fX (K:=gH K) h.ex.facts.1 h.after).2 ⟨fun b=>?_,fun c d hd e=>?_,?_⟩
 ·rcases Bv q b with e| ⟨a,ha,e⟩
  ·exact .inl e
  have e2:=(lH hp ha).1 e
  rcases h1 a with e3| ⟨xZ,b',Fp,mE,e3⟩
  ·omega
  have:b'=b:=by omega
  subst this
  exact .inr ⟨Fp,a,xZ,by rw[h.fit];exact mE,e⟩
 ·rcases Bv q c with e2| ⟨a,ha,e2⟩
  ·exact e2
  have e3:=(lH hp ha).1 e2
  have e4:=(lH hp ha).1 (e.symm.trans e2)
  omega
 rw[nO,List.all_eq_true] at h3 ⊢
 intro x hx
 obtain⟨t,ht,rfl⟩:=List.mem_map.1 (show x∈K.facts.map Yl from hx)
 have h4:=h3 t ht
 have hr:=h.facts.2 t ht
 simp only[Bool.or_eq_true,decide_eq_true_eq] at h4 ⊢
 rcases h4 with h4|h4
 ·exact .inl h4
 refine .inr ?_
 have:=(lH hp (a:=t.a.toNat) (b:=t.b.toNat) (by omega)).2 (by omega)
 omega
theorem AH.row(h:AH K){r r':bI}(h1:(cK K)[i]?=some r) (h2:(cK (gH K))[i]?=some r') (a b:Nat):r'.c b a=r.c a b:=by
 have h3:((WW K).map (jJ (gH K) (G8 K.str K.ways)))[i]?=some r':=h2
 rw[cK,List.getElem?_map] at h1
 rw[List.getElem?_map] at h3
 cases hw:(WW K)[i]? with
 |none=>rw[hw] at h1;cases h1
 |some w=>
  rw[hw] at h1 h3
  simp only[Option.map_some,Option.some.injEq] at h1 h3
  subst h1 h3
  have hp:∀x,G8 K.str K.ways w x=[⟨x.st,x.no,0⟩]:=fun x=>by rw[h.ways];rfl
  have e:(jJ (gH K) (G8 K.str K.ways) w).c b a=match K.after[b]?,K.before[a]? with
   |some y,some x=>decide (cw (mh x.st x.no 0) (G8 K.str K.ways w y) 0≥0)
   |_,_=>false:=rfl
  rw[e]
  simp only[jJ]
  cases hx:K.before[a]? with
  |none=>cases K.after[b]?<;>rfl
  |some x=>cases hy:K.after[b]? with
   |none=>rfl
   |some y=>
    have hs:mh x.st x.no 0 ⟨y.st,y.no,0⟩=mh y.st y.no 0 ⟨x.st,x.no,0⟩:=by
     simp only[mh]
     rw[Bool.eq_iff_iff]
     simp only[Bool.and_eq_true,beq_iff_eq]
     constructor
     ·rintro⟨h1,⟨h2,h3⟩,h4⟩;exact⟨h1.symm,⟨h2.symm,h3⟩,h4⟩
     rintro⟨h1,⟨h2,h3⟩,h4⟩;exact⟨h1.symm,⟨h2.symm,h3⟩,h4⟩
    simp only[hp,cw,hs]
theorem AH.le(h:AH K){P P':ak→Bool}(hP:∀r r' i,∀q∈aK K (aF K),P (cu K r i q)=true→P' (cu (gH K) r' i (sJ q))=true):
 (cX K (aF K) (cm K.gone K.new K.af) (cK K)).countP P≤(cX (gH K) (aF (gH K)) (cm (gH K).gone (gH K).new (gH K).af) (cK (gH K))).countP P':=by
 refine PQ (f:=sJ) h.facts.1 (by rw[cK,cK,List.length_map,List.length_map];rfl) (fun q hq=>h.mem hq) (fun q hq p hp e=>?_) fun i r r' h1 h2 q hq hp hk=>⟨hP r r' i q hq hp,?_⟩
 ·have e1:=inv_inv (h.pq hq) (h.ex.pq (h.mem hq))
  have e2:=inv_inv (h.pq hp) (h.ex.pq (h.mem hp))
  rw[←e1,←e2,e]
 have hq1:=h.pq hq
 have hq2:=h.ex.pq (h.mem hq)
 have e1:pY (pL (sJ q))=pY (pL q):=by rw[afG,afG];exact Zu hq1 hq2 fun _ _=>rfl
 have e2:wH r' (sJ q) 4=wH r q 4:=by rw[ark,ark];exact Zu hq1 hq2 fun a b=>by rw[h.row h1 h2]
 simp only[cm,cu,e1,e2,Bool.and_eq_true,decide_eq_true_eq] at hk ⊢
 exact⟨of_decide_eq_true hk.2.1,of_decide_eq_true hk.1,of_decide_eq_true hk.2.2⟩
theorem ay9(h:AH K):bF (gH K)=bF K∧∀a b,a <4→b <4→(sR (gH K)).c b a=(sR K).c a b:=by
 have key:∀(K:aB) (a b:Nat),(sR K).c a b=(((cX K (aF K) (cm K.gone K.new K.af) (cK K)).countP fun x=>decide (pI x a=(b:Int)+1):Nat):Int):=fun K a b=>by
  rw[List.countP_eq_length_filter];rfl
 refine⟨?_,fun a b ha hb=>?_⟩
 ·have h1:=h.le (P:=fun _=>true) (P':=fun _=>true) fun _ _ _ _ _ _=>rfl
  have h2:=h.ex.le (P:=fun _=>true) (P':=fun _=>true) fun _ _ _ _ _ _=>rfl
  rw[ass] at h2
  simp only[List.countP_true] at h1 h2
  exact Nat.le_antisymm h2 h1
 have h1:=h.le (P:=fun x=>decide (pI x a=(b:Int)+1)) (P':=fun x=>decide (pI x b=(a:Int)+1)) fun r r' i q hq hp=>by
  rw[decide_eq_true_eq,kN ha] at hp
  rw[decide_eq_true_eq,kN hb]
  exact(lH (h.pq hq) ha).2 hp
 have h2:=h.ex.le (P:=fun x=>decide (pI x b=(a:Int)+1)) (P':=fun x=>decide (pI x a=(b:Int)+1)) fun r r' i q hq hp=>by
  rw[decide_eq_true_eq,kN hb] at hp
  rw[decide_eq_true_eq,kN ha]
  exact(lH (h.ex.pq hq) hb).2 hp
 rw[ass] at h2
 rw[key,key]
 have:=Nat.le_antisymm h2 h1
 exact congrArg _ this
theorem apG{a b a' b':Nat}{zs ys:List ak}{v w e g:Int}(hl:bF K'=bF K)(hc:(sR K').c a' b'=(sR K).c a b)
 (hz:zs.Perm (cX K (aF K) (cm K.gone K.new K.af) (cK K)))(hy:ys.Perm (cX K' (aF K') (cm K'.gone K'.new K'.af) (cK K')))
 (h1:(zs=[]∧e=9∧v=0)∨(zs≠[]∧e=0∧v=me ((aD zs).c a b) ((zs.length:Nat):Int)))(h2:(ys=[]∧g=9∧w=0)∨(ys≠[]∧g=0∧w=me ((aD ys).c a' b') ((ys.length:Nat):Int))):w=v∧g=e∧(e=0∨e=9)∧(e=0↔0 <bF K):=by
 have l1:zs.length=bF K:=hz.length_eq
 have l2:ys.length=bF K':=hy.length_eq
 rcases h1 with ⟨n1,rfl,rfl⟩| ⟨n1,rfl,rfl⟩<;>rcases h2 with ⟨n2,rfl,rfl⟩| ⟨n2,rfl,rfl⟩
 ·rw[n1,List.length_nil] at l1
  exact⟨rfl,rfl,.inr rfl,by omega⟩
 ·rw[n1,List.length_nil] at l1
  exact absurd (List.eq_nil_of_length_eq_zero (by omega)) n2
 ·rw[n2,List.length_nil] at l2
  exact absurd (List.eq_nil_of_length_eq_zero (by omega)) n1
 have:=List.length_pos_iff.2 n1
 refine⟨?_,rfl,.inl rfl,by omega⟩
 rw[tN hz,tN hy,l1,l2,hl]
 show me ((sR K').c a' b') _=me ((sR K).c a b) _
 rw[hc]
set_option maxHeartbeats 2000000 in
theorem aIj {d:Nat} {X:Cells} {np nf:Int} (hN:Dn ro vd xs) (hD:aU vd xs d X) (hnp:0≤np∧np≤4) (hnf:0≤nf∧nf≤4):FnG zT 9 [zP d,zI np,zI nf] ro X (fun r aH Y=>∃(K:aB) (v0 v1 v3 v4 v5 v6 v7 vb:Value) (fa:Option Addr) (fc:Nat) (LA X':Cells),r= .agg ⟨[v0,v1,.slice fa 0 fc,v3,v4,v5,v6,v7,zI K.gone,zI K.new,zI K.af,vb]⟩∧yZ K∧(K.facts.length:Int)≤nf∧(∀v∈[v0,v1,v3,v4,v5,v6,v7,vb],single v=true)∧ay v7 5 55 cb K.after LA∧bD aH v6 5 cb K.before∧bD aH vb 3 nz K.facts∧(∀jW,Sub aH jW→∀(vA:Value) (ps:List ah),bD jW vA 5 cb ps→fP jW [v0,zS,.slice fa 0 fc,v3,v4,v5,v6,vA,zI K.gone,zI K.new,zI K.af,vb] {K with ways:=[],after:=ps})∧Y=LA++X'∧aU vd xs d X'):=by
 refine avV (hm:=av) [.l X] [] bp<|zD 2<|jn fun b6=>zD 4<|jc [1] (aai hN hD) ?_
 rintro _ _ ⟨dN,dH,An,Ur,aLx,Z18,XA,rfl,qQ,n7,ayj,rfl,KB⟩
 refine jg 0 [.l Z18,.l XA]<|jf [0] Z18 (fun zo bH iQ=>?_)
 have px:=ayj _ iQ
 obtain⟨hc,hh,dq⟩:=id px
 obtain⟨dc,AN,AM,cY,rfl,CN,yH,yG⟩:=hc
 obtain⟨cF,rH,rG,cy,rfl,tv,pw,pn⟩:=hh
 refine zD 2<|jn fun b21=>zD 2<|jn fun EP=>jn fun j8=>zD 3<|jn fun b7=>jd 5 [0]<|jf [1,2,3] ((j8,.cells ⟨[.slice (some ⟨b21,0,none⟩) 2 2,.slice (some ⟨EP,0,none⟩) 2 2]⟩ 80 (0,0))::((EP,.cells ⟨[zI 1,zI 0,zI 3,zI 0]⟩ 79 (0,0))::[(b21,.cells ⟨[zI 1,zI 0,zI 2,zI 0]⟩ 79 (0,0))])) (fun ro6 eT Qf=>?_)
 have apk:=GH (Qf _ (.tail _ (.tail _ (.head _)))) (Qf _ (.tail _ (.head _))) (Qf _ (.head _))
 refine zD 1<|jc (vs:=[zP d,zI 2]) [1] (m8 (hN.up (bH.trans eT)) KB (by omega)) ?_
 rintro _ X30 ⟨w30,rfl,aja⟩
 refine zD 1<|yK [1,1,1] [] (fun(zz:Value×Cells×(List (List aE))×Cells)=>[(0,zP d),(1,zI np),(2,zI nf),(6,zP b6),(7,zP b7)]) (fun(zz:Value×Cells×(List (List aE))×Cells)=>[.l zz.2.1,.l zz.2.2.2,.b b7 (.cells ⟨[.slice (some ⟨j8,0,none⟩) 2 2,zz.1,zS,.slice dc dN.length cY,.slice cF dH.length cy,zS,zS,zS,zI 0,zI 0,zI 0,zS]⟩ 40 (0,0)),.b b6 (.cells ⟨zO⟩ 40 (0,0))]) (fun(zz:Value×Cells×(List (List aE))×Cells)=>(∀jW,Knows jW zz.2.1→nj jW zz.1 zz.2.2.1)∧(zz.2.2.1.length≤1∧∀l∈zz.2.2.1,(1≤l.length∧l.length≤2)∧∀c∈l,iO c)∧aU vd xs d zz.2.2.2) ?_ (fun K1 bO=>?_)
 ·
  rintro⟨vT,LT,ways,X⟩ KA rest
  dsimp only at KA
  refine zD 2<|jf [0] LT (fun ro9 iD hk8=>?_)
  have aiU:=KA.1 _ hk8
  obtain⟨y7,ht,_⟩:=id aiU
  obtain⟨dX,AK,AI,dB,rfl,AJ,sD,sC⟩:=ht
  refine zD 1<|jc (vs:=[zP d,zI 2]) [0] (akD (hN.up ((bH.trans eT).trans iD)) KA.2.2 (by decide)) ?_
  rintro v60 _ ⟨uk,L60,X60,wU,aQD,VS,rfl,ayM⟩
  refine jg 0 [.l L60,.l X60]<|zD 8<|nY<|dV [1,1,1,1,0,1,0,0] [] (fun(zz:Nat×Value×Cells×(List aY))=>[(0,zP d),(1,zI np),(2,zI nf),(6,zP b6),(7,zP b7),(8,v60),(9,zI (zz.1:Int))]) (fun zz=>[.l zz.2.2.1,.l X60,.b b7 (.cells ⟨[.slice (some ⟨j8,0,none⟩) 2 2,.slice dX y7.length dB,zS,.slice dc dN.length cY,.slice cF dH.length cy,zz.2.1,zS,zS,zI 0,zI 0,zI 0,zS]⟩ 40 (0,0)),.l L60,.b b6 (.cells ⟨zO⟩ 40 (0,0))]) (fun zz=>(zz.1≤uk.length∧zz.2.2.2.length≤zz.1)∧ay zz.2.1 2 45 gG zz.2.2.2 zz.2.2.1∧∀r∈zz.2.2.2,DN r) (fun zz=>uk.length-zz.1) (⟨0,zS,[],[]⟩) ⟨by simp,ay.nil _ _ _,(fun _ h=>by cases h)⟩ [0,2,3,1,4] ?_
  rintro⟨i,vR,LR,rs⟩ hR K2 mr rest
  dsimp only at hR
  refine zD 5<|yJ wU<|zD 2<|zJ 64 ((i:Int) <(uk.length:Int)) (fun Iz=>?_) fun Iz=>?_
  ·
   refine zD 8 ?_
   obtain⟨Qo,OH⟩:=zG uk i
   refine HC 2 wU OH fun b69 aiH=>zD 1<|mT 0 [3] L60 (fun s _ hZ=>bR wU aiH hZ OH)<|zD 2 ?_
   obtain⟨x74,ahl⟩:=zG uk i
   refine HC 2 wU ahl fun b74 ax7=>zD 1<|mT 1 [3] L60 (fun s _ hZ=>bR wU ax7 hZ ahl)<|zD 2<|js 77 (!(cQ Qo.f x74.t)) (fun S0=>?_) (fun S0=>?_)
   ·
    try simp only[zB] at S0
    refine jd 6 [2] ?_
    obtain⟨vY,HH⟩:=zG uk i
    refine HC 2 wU HH fun b82 ax6=>mT 0 [3] L60 (fun s _ hZ=>bR wU ax6 hZ HH)<|aQ 6 fun qp qv oV=>jn fun b84=>eo oV (zN 1 5)<|aQ 7 fun sq su qR=>iC (sz:=2) (ps:=rs) (qs:=[(⟨vY.f,vY.t⟩:aY)]) (enc:=gG) (w:= .slice (some ⟨b84,0,none⟩) 1 1) [1] [0] [(b84,.cells ⟨([(⟨vY.f,vY.t⟩:aY)].map gG).flatten⟩ 45 (0,0))] (hR.2.1) (fun s _ hZ=>bL [(⟨vY.f,vY.t⟩:aY)] (hZ _ (.head _)) (by intro p hp;rfl)) (fun p _=>ai rfl) (by simp<;>omega) (fun v85 L85 HU=>?_)
    obtain⟨atw,ath,axB⟩:=HU.form
    subst axB
    refine fJ qR []<|zD 1<|aQ 9 fun AZ A9 BK=>jd 1 [3]<|fp BK<|zD 3<|ja ((i:Int)+1) (by omega)<|zD 2<|bA mr (⟨i+1,(.slice atw ((rs++[(⟨vY.f,vY.t⟩:aY)])).length ath),L85,(rs++[(⟨vY.f,vY.t⟩:aY)])⟩) ⟨by simp only[zM];omega,HU,lE hR.2.2 (VS _ (zL HH))⟩ (by omega) [0,2,3,4,5] (Sub.refl _)
   try simp only[zB] at S0
   refine zD 4<|ja ((i:Int)+1) (by omega)<|zD 2<|bA mr (⟨i+1,vR,LR,rs⟩) ⟨by dsimp only;omega,hR.2⟩ (by omega) (zN 0 5) (Sub.refl _)
  refine zD 4<|jf [0] LR (fun aMP cZ axo=>?_)
  have hRU:=hR.2.1.jL axo
  refine jd 3 [1]<|jn fun lL=>jd 7 [0]<|jc (vs:=[zP d,zI np]) [1] (yD (hN.up (((bH.trans eT).trans iD).trans cZ)) ayM (by omega)) ?_
  rintro _ X92 ⟨w92,rfl,aPa,ahk,ayL⟩
  refine zD 3<|nY<|dV [1,1,1,1,1,1,0,1,0,0] [] (fun(zz:Int×Value×Cells×(List ah)×Cells)=>[(0,zP d),(1,zI np),(2,zI nf),(6,zP b6),(7,zP b7),(10,zP lL),(11,zI zz.1)]) (fun zz=>[.l zz.2.2.1,.l zz.2.2.2.2,.b lL (.cells ⟨[zI 2,zI 0,zI 0,.slice dc dN.length cY,.slice cF dH.length cy,zS,zS]⟩ 90 (0,0)),.b b7 (.cells ⟨[.slice (some ⟨j8,0,none⟩) 2 2,.slice dX y7.length dB,zS,.slice dc dN.length cY,.slice cF dH.length cy,vR,zz.2.1,zS,zI 0,zI 0,zI 0,zS]⟩ 40 (0,0)),.b b6 (.cells ⟨zO⟩ 40 (0,0))]) (fun zz=>(0≤zz.1∧zz.2.2.2.1.length+zz.1≤4)∧ay zz.2.1 5 55 cb zz.2.2.2.1 zz.2.2.1∧(∀p∈zz.2.2.2.1,Jv An p)∧aU vd xs d zz.2.2.2.2) (fun zz=>zz.1.toNat) (⟨w92,zS,[],[],X92⟩) ⟨by simp only[List.length_nil];omega,ay.nil _ _ _,(fun _ h=>by cases h),ayL⟩ [0,1,2,3,5] ?_
  rintro⟨j,vB,LB,kF,X⟩ hB K6 hK6 rest
  dsimp only at hB
  refine zD 6<|zJ 94 (j>0) (fun SZ=>?_) fun SZ=>?_
  ·
   refine zD 5<|yK [1,1,1,1,1,1,0,1,0,0,1,0,0,1] [K6] (fun(zz:Nat×ah×Cells)=>[(0,zP d),(1,zI np),(2,zI nf),(6,zP b6),(7,zP b7),(10,zP lL),(11,zI j),(12,zP zz.1)]) (fun zz=>[.b zz.1 (.cells ⟨[.string zz.2.1.name,zI zz.2.1.st,zI zz.2.1.no,zI zz.2.1.head,.bool zz.2.1.bold]⟩ 55 (0,0)),.l LB,.l zz.2.2,.b lL (.cells ⟨[zI 2,zI 0,zI 0,.slice dc dN.length cY,.slice cF dH.length cy,zS,zS]⟩ 90 (0,0)),.b b7 (.cells ⟨[.slice (some ⟨j8,0,none⟩) 2 2,.slice dX y7.length dB,zS,.slice dc dN.length cY,.slice cF dH.length cy,vR,vB,zS,zI 0,zI 0,zI 0,zS]⟩ 40 (0,0)),.b b6 (.cells ⟨zO⟩ 40 (0,0))]) (fun zz=>(DR zz.2.1.name∧mb An zz.2.1.head∧(0≤zz.2.1.st∧zz.2.1.st≤1))∧aU vd xs d zz.2.2) ?_ (fun K7 Qh=>?_)
   ·
    rintro⟨qn,pp,X⟩ Ir rest
    dsimp only at Ir
    refine zD 3<|jc (vs:=[zP d,zI 1,zI 2]) [2] (vk (hN.up (((bH.trans eT).trans iD).trans cZ)) Ir.2 (by omega) (by omega)) ?_
    rintro _ azW ⟨atf,rfl,aFp,aFd,SW⟩
    refine jd 10 [1,1]<|yK [1,1,1,1,1,1,0,1,0,0,1,0,0,1,1,1] [K6] (fun(zz:Int×Cells)=>[(0,zP d),(1,zI np),(2,zI nf),(6,zP b6),(7,zP b7),(10,zP lL),(11,zI j),(12,zP qn)]) (fun zz=>[.b qn (.cells ⟨[.string pp.name,zI pp.st,zI zz.1,zI pp.head,.bool pp.bold]⟩ 55 (0,0)),.l LB,.l zz.2,.b lL (.cells ⟨[zI 2,zI 0,zI 0,.slice dc dN.length cY,.slice cF dH.length cy,zS,zS]⟩ 90 (0,0)),.b b7 (.cells ⟨[.slice (some ⟨j8,0,none⟩) 2 2,.slice dX y7.length dB,zS,.slice dc dN.length cY,.slice cF dH.length cy,vR,vB,zS,zI 0,zI 0,zI 0,zS]⟩ 40 (0,0)),.b b6 (.cells ⟨zO⟩ 40 (0,0))]) (fun zz=>((pp.st=0→zz.1=1∨zz.1=2)∧(pp.st=1→zz.1=1∨zz.1=3))∧aU vd xs d zz.2) ?_ (fun K8 Ue=>?_)
    ·
     rintro⟨q,X⟩ O7 rest
     dsimp only at O7
     refine jd 7 [0]<|yK [1,1,1,1,1,1,0,1,0,0,1,0,0,1,1,1,1,0,1] [K6] (fun(zz:Bool×Cells)=>[(0,zP d),(1,zI np),(2,zI nf),(6,zP b6),(7,zP b7),(10,zP lL),(11,zI j),(12,zP qn),(120,.bool zz.1)]) (fun zz=>[.b qn (.cells ⟨[.string pp.name,zI pp.st,zI q,zI pp.head,.bool false]⟩ 55 (0,0)),.l LB,.l zz.2,.b lL (.cells ⟨[zI 2,zI 0,zI 0,.slice dc dN.length cY,.slice cF dH.length cy,zS,zS]⟩ 90 (0,0)),.b b7 (.cells ⟨[.slice (some ⟨j8,0,none⟩) 2 2,.slice dX y7.length dB,zS,.slice dc dN.length cY,.slice cF dH.length cy,vR,vB,zS,zI 0,zI 0,zI 0,zS]⟩ 40 (0,0)),.b b6 (.cells ⟨zO⟩ 40 (0,0))]) (fun zz=>(zz.1=true→0 <kF.length)∧aU vd xs d zz.2) ?_ (fun K9 hK9=>?_)
     ·
      rintro⟨g,X⟩ Iq rest
      dsimp only at Iq
      refine yK [1,1,1,1,1,1,0,1,0,0,1,0,0,1,1,1,1,1] [K6] (fun(zz:ah×Cells)=>[(0,zP d),(1,zI np),(2,zI nf),(6,zP b6),(7,zP b7),(10,zP lL),(11,zI j),(12,zP qn)]) (fun zz=>[.b qn (.cells ⟨[.string zz.1.name,zI zz.1.st,zI zz.1.no,zI zz.1.head,.bool zz.1.bold]⟩ 55 (0,0)),.l LB,.l zz.2,.b lL (.cells ⟨[zI 2,zI 0,zI 0,.slice dc dN.length cY,.slice cF dH.length cy,zS,zS]⟩ 90 (0,0)),.b b7 (.cells ⟨[.slice (some ⟨j8,0,none⟩) 2 2,.slice dX y7.length dB,zS,.slice dc dN.length cY,.slice cF dH.length cy,vR,vB,zS,zI 0,zI 0,zI 0,zS]⟩ 40 (0,0)),.b b6 (.cells ⟨zO⟩ 40 (0,0))]) (fun zz=>Jv An zz.1∧aU vd xs d zz.2) ?_ (fun K10 ai7=>?_)
      ·
       rintro⟨p2,X⟩ WI rest
       dsimp only at WI
       refine jd 4 [4,0]<|jn fun alb=>iC (sz:=5) (ps:=kF) (qs:=[(⟨p2.name,p2.st,p2.no,p2.head,p2.bold⟩:ah)]) (enc:=cb) (w:= .slice (some ⟨alb,0,none⟩) 1 1) [2] [0] [(alb,.cells ⟨([(⟨p2.name,p2.st,p2.no,p2.head,p2.bold⟩:ah)].map cb).flatten⟩ 55 (0,0))] (hB.2.1) (fun s _ hZ=>bL [(⟨p2.name,p2.st,p2.no,p2.head,p2.bold⟩:ah)] (hZ _ (.head _)) (by intro p hp;rfl)) (fun p _=>ai rfl) (by simp<;>omega) (fun aMj az5 BE=>?_)
       obtain⟨aeo,aed,aiB⟩:=BE.form
       subst aiB
       refine jd 5 [5]<|ja (j-1) (by omega)<|zD 2<|bA hK6 (⟨j-1,(.slice aeo ((kF++[(⟨p2.name,p2.st,p2.no,p2.head,p2.bold⟩:ah)])).length aed),az5,(kF++[(⟨p2.name,p2.st,p2.no,p2.head,p2.bold⟩:ah)]),X⟩) ⟨by simp only[zM];omega,BE,lE hB.2.2.1 WI.1,WI.2⟩ (by omega) [0,3,4,5,6] (Sub.refl _)
      refine js 120 g (fun ZZ=>?_) (fun ZZ=>?_)
      ·
       subst ZZ
       refine jd 7 [4,4]<|yJ hB.2.1<|ja ((kF.length:Int)-1) (by omega)<|aQ 7 fun DV Ee xa=>jc (vs:=[zP d,zI ((kF.length:Int)-1)]) [2] (yD (hN.up (((bH.trans eT).trans iD).trans cZ)) Iq.2 (by omega)) ?_
       rintro _ azT ⟨Gm,rfl,aFo,Zy,ajo⟩
       refine fJ xa [[4],[4]] ?_
       obtain⟨asY,HN⟩:=zG kF (Gm.toNat) (by have:=Iq.1 rfl;omega)
       refine pZ Gm 5 hB.2.1 HN (Int.toNat_of_nonneg (show 0≤Gm∧Gm <((kF).length:Int) from (by have:=Iq.1 rfl;omega)).1).symm (fun aTP aiO=>?_)
       refine mT 0 [2] LB (fun s _ hZ=>bR hB.2.1 aiO hZ HN)<|aQ 10 fun Gc GA w9=>jd 1 [1]<|fp w9<|zD 1<|bA ai7 ⟨asY,azT⟩ ⟨hB.2.2.1 _ (zL HN),ajo⟩ Nat.zero_lt_one [1,2,0,3,4,5] (Sub.refl _)
      subst ZZ
      refine zD 2<|bA ai7 ⟨⟨pp.name,pp.st,q,pp.head,false⟩,X⟩ ⟨⟨⟨Ir.1.1,Ir.1.2.1,Ir.1.2.2,rfl⟩,O7.1⟩,Iq.2⟩ Nat.zero_lt_one (zN 0 6) (Sub.refl _)
     refine jd 3 [4]<|yJ hB.2.1<|zD 2<|js 117 (decide ((kF.length:Int)>0)) (fun AW=>?_) (fun AW=>?_)
     ·
      have Iw:=AW
      replace Iw:=of_decide_eq_true Iw
      refine zD 1<|jc (vs:=[zP d,zI 5]) [2] (m8 (hN.up (((bH.trans eT).trans iD).trans cZ)) O7.2 (by omega)) ?_
      rintro _ azU ⟨atd,rfl,ajp⟩
      refine zD 2<|bA hK9 ⟨atd,azU⟩ ⟨fun _=>by omega,ajp⟩ Nat.zero_lt_one [1,2,0,3,4,5] (Sub.refl _)
     have Iw:=AW
     replace Iw:=of_decide_eq_false Iw
     refine zD 4<|bA hK9 ⟨false,X⟩ ⟨(fun h=>by cases h),O7.2⟩ Nat.zero_lt_one (zN 0 6) (Sub.refl _)
    refine zJ 107 (pp.st=1) (fun vN=>?_) fun vN=>?_
    ·
     refine zD 3<|jn fun alc=>Sd (vs:=[zP d,.slice (some ⟨alc,0,none⟩) 2 2]) [1] [0] [(alc,.cells ⟨([1,3].map cB).flatten⟩ 3 (0,0))] (fun aH hs hZ=>Pt ((hN.up (((bH.trans eT).trans iD).trans cZ)).up hs) SW (bK [1,3] hZ.head (by intro p hp;rfl)) (by simp)) ?_
     rintro _ azV ⟨ate,rfl,ahz,ajq⟩
     refine jd 3 [2]<|bA Ue ⟨ate,azV⟩ ⟨⟨(fun h=>by omega),(fun _=>by simpa using ahz)⟩,ajq⟩ Nat.zero_lt_one [2,3,0,4,5,6] (Sub.refl _)
    refine zD 2<|bA Ue ⟨atf,azW⟩ ⟨⟨(fun _=>by dsimp only;omega),(fun h=>by omega)⟩,SW⟩ Nat.zero_lt_one [1,2,0,3,4,5] (Sub.refl _)
   refine jd 4 [2]<|Ez [3,5] ⟨fun z13 t14 WC=>?_,fun z16 t17 O3=>?_,trivial⟩
   ·
    refine jc [1] (EJ (hN.up (((bH.trans eT).trans iD).trans cZ)) hB.2.2.2) ?_
    rintro _ azX ⟨Nu,rfl,By,BN⟩
    refine fJ WC [[2]]<|Ez [4,5] ⟨fun z19 t20 acr=>?_,fun z22 t23 ai1=>?_,trivial⟩
    ·
     refine jc (vs:=[zP d,.agg ⟨[zI 2,zI 0,zI 0,.slice dc dN.length cY,.slice cF dH.length cy,zS,zS]⟩,.string Nu]) [0] (lK (hN.up (((bH.trans eT).trans iD).trans cZ)) BN ((((show bD _ _ _ _ _ from ⟨cF,rH,rG,cy,rfl,tv,pw,pn⟩).up eT).up iD).up cZ) (by have:=n7.len;have:=qQ.nh;omega)) ?_
     rintro _ Js ⟨ad4,rfl,wW,wS,wY,xc⟩
     refine fp acr<|aQ 5 fun aqw aqP O2=>jn fun qn=>fp O2<|aQ 6 fun XU Yc BL=>jd 1 [0]<|fp BL<|zD 1<|bA Qh ⟨qn,_,Js⟩ ⟨⟨wW▸By,lI n7 wY,wS⟩,xc⟩ Nat.zero_lt_one [0,2,1,3,4,5] (Sub.refl _)
    refine jn fun qn=>eo ai1 (zN 1 5)<|aQ 4 fun KT La Dq=>jc (vs:=[zP d,.agg ⟨[zI 2,zI 0,zI 0,.slice dc dN.length cY,.slice cF dH.length cy,zS,zS]⟩,.string Nu]) [1] (lK (hN.up (((bH.trans eT).trans iD).trans cZ)) BN ((((show bD _ _ _ _ _ from ⟨cF,rH,rG,cy,rfl,tv,pw,pn⟩).up eT).up iD).up cZ) (by have:=n7.len;have:=qQ.nh;omega)) ?_
    rintro _ Js ⟨ad4,rfl,wW,wS,wY,xc⟩
    refine fp Dq<|aQ 6 fun KS K0 Dp=>jd 1 [1]<|fp Dp<|zD 1<|bA Qh ⟨qn,_,Js⟩ ⟨⟨wW▸By,lI n7 wY,wS⟩,xc⟩ Nat.zero_lt_one [1,2,0,3,4,5] (Sub.refl _)
   refine jn fun qn=>eo O3 (zN 1 5)<|aQ 3 fun KR KZ Dm=>jc [2] (EJ (hN.up (((bH.trans eT).trans iD).trans cZ)) hB.2.2.2) ?_
   rintro _ azX ⟨Nu,rfl,By,BN⟩
   refine fJ Dm [[3]]<|aQ 4 fun XT Yb O1=>jc (vs:=[zP d,.agg ⟨[zI 2,zI 0,zI 0,.slice dc dN.length cY,.slice cF dH.length cy,zS,zS]⟩,.string Nu]) [0] (lK (hN.up (((bH.trans eT).trans iD).trans cZ)) BN ((((show bD _ _ _ _ _ from ⟨cF,rH,rG,cy,rfl,tv,pw,pn⟩).up eT).up iD).up cZ) (by have:=n7.len;have:=qQ.nh;omega)) ?_
   rintro _ Js ⟨ad4,rfl,wW,wS,wY,xc⟩
   refine fp O1<|aQ 6 fun XS Ya Kx=>jd 1 [1]<|fp Kx<|zD 1<|bA Qh ⟨qn,_,Js⟩ ⟨⟨wW▸By,lI n7 wY,wS⟩,xc⟩ Nat.zero_lt_one [1,2,0,3,4,5] (Sub.refl _)
  refine zD 7<|jc (vs:=[zP d,zI np]) [1] (yD (hN.up (((bH.trans eT).trans iD).trans cZ)) hB.2.2.2 (by omega)) ?_
  rintro _ azS ⟨atc,rfl,aFn,aFc,ajn⟩
  refine zD 3<|nY<|dV [1,1,1,1,1,1,1,0,1,0,0] [] (fun(zz:Int×Value×Cells×(List ah)×Cells)=>[(0,zP d),(2,zI nf),(6,zP b6),(7,zP b7),(10,zP lL),(13,zI zz.1)]) (fun zz=>[.l zz.2.2.1,.l zz.2.2.2.2,.l LB,.b lL (.cells ⟨[zI 2,zI 0,zI 0,.slice dc dN.length cY,.slice cF dH.length cy,zS,zS]⟩ 90 (0,0)),.b b7 (.cells ⟨[.slice (some ⟨j8,0,none⟩) 2 2,.slice dX y7.length dB,zS,.slice dc dN.length cY,.slice cF dH.length cy,vR,vB,zz.2.1,zI 0,zI 0,zI 0,zS]⟩ 40 (0,0)),.b b6 (.cells ⟨zO⟩ 40 (0,0))]) (fun zz=>(0≤zz.1∧zz.2.2.2.1.length+zz.1≤4)∧ay zz.2.1 5 55 cb zz.2.2.2.1 zz.2.2.1∧(∀p∈zz.2.2.2.1,Jw An p)∧aU vd xs d zz.2.2.2.2) (fun zz=>zz.1.toNat) (⟨atc,zS,[],[],azS⟩) ⟨by simp only[List.length_nil];omega,ay.nil _ _ _,(fun _ h=>by cases h),ajn⟩ (zN 0 6) ?_
  rintro⟨j,vA,LA,yX,X⟩ hA K32 ayH rest
  dsimp only at hA
  refine zD 6<|zJ 141 (j>0) (fun WM=>?_) fun WM=>?_
  ·
   refine zD 5<|yK [1,1,1,1,1,1,1,0,1,0,0,1,0,0,1] [K32] (fun(zz:Nat×ah×Cells)=>[(0,zP d),(2,zI nf),(6,zP b6),(7,zP b7),(10,zP lL),(13,zI j),(14,zP zz.1)]) (fun zz=>[.b zz.1 (.cells ⟨[.string zz.2.1.name,zI zz.2.1.st,zI zz.2.1.no,zI zz.2.1.head,.bool zz.2.1.bold]⟩ 55 (0,0)),.l LA,.l zz.2.2,.l LB,.b lL (.cells ⟨[zI 2,zI 0,zI 0,.slice dc dN.length cY,.slice cF dH.length cy,zS,zS]⟩ 90 (0,0)),.b b7 (.cells ⟨[.slice (some ⟨j8,0,none⟩) 2 2,.slice dX y7.length dB,zS,.slice dc dN.length cY,.slice cF dH.length cy,vR,vB,vA,zI 0,zI 0,zI 0,zS]⟩ 40 (0,0)),.b b6 (.cells ⟨zO⟩ 40 (0,0))]) (fun zz=>(DR zz.2.1.name∧mb An zz.2.1.head∧(0≤zz.2.1.st∧zz.2.1.st≤1))∧aU vd xs d zz.2.2) ?_ (fun K33 WG=>?_)
   ·
    rintro⟨DL,pp,X⟩ Ip rest
    dsimp only at Ip
    refine zD 3<|jc (vs:=[zP d,zI 1,zI 3]) [2] (vk (hN.up (((bH.trans eT).trans iD).trans cZ)) Ip.2 (by omega) (by omega)) ?_
    rintro _ azQ ⟨ad2,rfl,aFm,aFb,SV⟩
    refine jd 7 [1,1]<|yK [1,1,1,1,1,1,1,0,1,0,0,1,0,0,1,1,0,1] [K32] (fun(zz:Bool×Cells)=>[(0,zP d),(2,zI nf),(6,zP b6),(7,zP b7),(10,zP lL),(13,zI j),(14,zP DL),(161,.bool zz.1)]) (fun zz=>[.b DL (.cells ⟨[.string pp.name,zI pp.st,zI ad2,zI pp.head,.bool false]⟩ 55 (0,0)),.l LA,.l zz.2,.l LB,.b lL (.cells ⟨[zI 2,zI 0,zI 0,.slice dc dN.length cY,.slice cF dH.length cy,zS,zS]⟩ 90 (0,0)),.b b7 (.cells ⟨[.slice (some ⟨j8,0,none⟩) 2 2,.slice dX y7.length dB,zS,.slice dc dN.length cY,.slice cF dH.length cy,vR,vB,vA,zI 0,zI 0,zI 0,zS]⟩ 40 (0,0)),.b b6 (.cells ⟨zO⟩ 40 (0,0))]) (fun zz=>(zz.1=true→0 <kF.length)∧aU vd xs d zz.2) ?_ (fun K34 ai6=>?_)
    ·
     rintro⟨g,X⟩ Io rest
     dsimp only at Io
     refine yK [1,1,1,1,1,1,1,0,1,0,0,1,0,0,1,1,1] [K32] (fun(zz:ah×Cells)=>[(0,zP d),(2,zI nf),(6,zP b6),(7,zP b7),(10,zP lL),(13,zI j),(14,zP DL)]) (fun zz=>[.b DL (.cells ⟨[.string zz.1.name,zI zz.1.st,zI zz.1.no,zI zz.1.head,.bool zz.1.bold]⟩ 55 (0,0)),.l LA,.l zz.2,.l LB,.b lL (.cells ⟨[zI 2,zI 0,zI 0,.slice dc dN.length cY,.slice cF dH.length cy,zS,zS]⟩ 90 (0,0)),.b b7 (.cells ⟨[.slice (some ⟨j8,0,none⟩) 2 2,.slice dX y7.length dB,zS,.slice dc dN.length cY,.slice cF dH.length cy,vR,vB,vA,zI 0,zI 0,zI 0,zS]⟩ 40 (0,0)),.b b6 (.cells ⟨zO⟩ 40 (0,0))]) (fun zz=>Jw An zz.1∧aU vd xs d zz.2) ?_ (fun K35 WE=>?_)
     ·
      rintro⟨p2,X⟩ WH rest
      dsimp only at WH
      refine jd 4 [5,0]<|jn fun ala=>iC (sz:=5) (ps:=yX) (qs:=[(⟨p2.name,p2.st,p2.no,p2.head,p2.bold⟩:ah)]) (enc:=cb) (w:= .slice (some ⟨ala,0,none⟩) 1 1) [2] [0] [(ala,.cells ⟨([(⟨p2.name,p2.st,p2.no,p2.head,p2.bold⟩:ah)].map cb).flatten⟩ 55 (0,0))] (hA.2.1) (fun s _ hZ=>bL [(⟨p2.name,p2.st,p2.no,p2.head,p2.bold⟩:ah)] (hZ _ (.head _)) (by intro p hp;rfl)) (fun p _=>ai rfl) (by simp<;>omega) (fun aMi az3 BD=>?_)
      obtain⟨aem,aec,aiz⟩:=BD.form
      subst aiz
      refine jd 5 [6]<|ja (j-1) (by omega)<|zD 2<|bA ayH (⟨j-1,(.slice aem ((yX++[(⟨p2.name,p2.st,p2.no,p2.head,p2.bold⟩:ah)])).length aec),az3,(yX++[(⟨p2.name,p2.st,p2.no,p2.head,p2.bold⟩:ah)]),X⟩) ⟨by simp only[zM];omega,BD,lE hA.2.2.1 WH.1,WH.2⟩ (by omega) [0,3,4,5,6,7] (Sub.refl _)
     refine js 161 g (fun ZU=>?_) (fun ZU=>?_)
     ·
      subst ZU
      refine jd 8 [5,5]<|yJ hB.2.1<|ja ((kF.length:Int)-1) (by omega)<|aQ 7 fun XQ X9 Il=>jc (vs:=[zP d,zI ((kF.length:Int)-1)]) [2] (yD (hN.up (((bH.trans eT).trans iD).trans cZ)) Io.2 (by omega)) ?_
      rintro _ aUe ⟨Gl,rfl,aFk,aFa,ajk⟩
      refine fJ Il [[5],[5]] ?_
      obtain⟨py,wP⟩:=zG kF (Gl.toNat) (by have:=Io.1 rfl;omega)
      refine pZ Gl 5 hB.2.1 wP (Int.toNat_of_nonneg (show 0≤Gl∧Gl <((kF).length:Int) from (by have:=Io.1 rfl;omega)).1).symm (fun aTO aiN=>?_)
      refine mT 0 [3] LB (fun s _ hZ=>bR hB.2.1 aiN hZ wP)<|aQ 10 fun XP X7 O0=>jd 1 [1]<|fp O0<|zD 5<|jc (vs:=[zP d,zI 3]) [0] (m8 (hN.up (((bH.trans eT).trans iD).trans cZ)) ajk (by omega)) ?_
      rintro _ azO ⟨ata,rfl,SU⟩
      refine zD 1<|yK [1,1,1,1,1,1,1,0,1,0,0,1,0,0,1,1,2,1,0,1,1] [K32,K35] (fun(zz:Int×Cells)=>[(0,zP d),(2,zI nf),(6,zP b6),(7,zP b7),(10,zP lL),(13,zI j),(14,zP DL)]) (fun zz=>[.b DL (.cells ⟨[.string py.name,zI py.st,zI zz.1,zI py.head,.bool py.bold]⟩ 55 (0,0)),.l LA,.l zz.2,.l LB,.b lL (.cells ⟨[zI 2,zI 0,zI 0,.slice dc dN.length cY,.slice cF dH.length cy,zS,zS]⟩ 90 (0,0)),.b b7 (.cells ⟨[.slice (some ⟨j8,0,none⟩) 2 2,.slice dX y7.length dB,zS,.slice dc dN.length cY,.slice cF dH.length cy,vR,vB,vA,zI 0,zI 0,zI 0,zS]⟩ 40 (0,0)),.b b6 (.cells ⟨zO⟩ 40 (0,0))]) (fun zz=>(1≤zz.1∧zz.1≤3)∧aU vd xs d zz.2) ?_ (fun K38 ai5=>?_)
      ·
       rintro⟨q,X⟩ O6 rest
       dsimp only at O6
       have hO:=hB.2.2.1 _ (zL wP)
       have hO2:=hO.1.2.2.1
       have hO3:=hO.2
       refine zD 3<|jc (vs:=[zP d,zI 4]) [2] (m8 (hN.up (((bH.trans eT).trans iD).trans cZ)) O6.2 (by omega)) ?_
       rintro _ alo ⟨as8,rfl,SS⟩
       refine zD 1<|js 178 as8 (fun Uf=>?_) (fun Uf=>?_)
       ·
        subst Uf
        refine jd 5 [1]<|bA WE ⟨⟨py.name,py.st,q,-1,py.bold⟩,alo⟩ ⟨⟨⟨hO.1.1,.inl rfl,hO.1.2.2.1,hO.1.2.2.2⟩,O6.1⟩,SS⟩ Nat.zero_lt_one [1,2,0,3,4,5,6] (Sub.refl _)
       subst Uf
       refine zD 2<|bA WE ⟨⟨py.name,py.st,q,py.head,py.bold⟩,alo⟩ ⟨⟨⟨hO.1.1,hO.1.2.1,hO.1.2.2.1,hO.1.2.2.2⟩,O6.1⟩,SS⟩ Nat.zero_lt_one [1,2,0,3,4,5,6] (Sub.refl _)
      refine js 173 ata (fun h40=>?_) (fun h40=>?_)
      ·
       subst h40
       have hO:=hB.2.2.1 _ (zL wP)
       have hO2:=hO.1.2.2.1
       have hO3:=hO.2
       refine zD 3<|jc (vs:=[zP d,zI 1,zI 3]) [0] (vk (hN.up (((bH.trans eT).trans iD).trans cZ)) SU (by omega) (by omega)) ?_
       rintro _ azN ⟨as9,rfl,aFj,aE9,ajj⟩
       refine jd 3 [1]<|bA ai5 ⟨as9,azN⟩ ⟨by dsimp only;omega,ajj⟩ Nat.zero_lt_one [1,2,0,3,4,5,6] (Sub.refl _)
      subst h40
      have hO:=hB.2.2.1 _ (zL wP)
      have hO2:=hO.1.2.2.1
      have hO3:=hO.2
      refine zD 2<|bA ai5 ⟨py.no,azO⟩ ⟨by dsimp only;omega,SU⟩ Nat.zero_lt_one [1,2,0,3,4,5,6] (Sub.refl _)
     subst ZU
     refine zD 2<|bA WE ⟨⟨pp.name,pp.st,ad2,pp.head,false⟩,X⟩ ⟨⟨⟨Ip.1.1,Ip.1.2.1,Ip.1.2.2,rfl⟩,by dsimp only;omega⟩,Io.2⟩ Nat.zero_lt_one (zN 0 7) (Sub.refl _)
    refine jd 3 [5]<|yJ hB.2.1<|zD 2<|js 157 (decide ((kF.length:Int)>0)) (fun h41=>?_) (fun h41=>?_)
    ·
     have It:=h41
     replace It:=of_decide_eq_true It
     refine zD 1<|jc (vs:=[zP d,zI 3]) [0] (m8 (hN.up (((bH.trans eT).trans iD).trans cZ)) SV (by omega)) ?_
     rintro _ azP ⟨atb,rfl,ajm⟩
     refine zD 3<|bA ai6 ⟨!atb,azP⟩ ⟨fun _=>by omega,ajm⟩ Nat.zero_lt_one [1,2,0,3,4,5,6] (Sub.refl _)
    have It:=h41
    replace It:=of_decide_eq_false It
    refine zD 5<|bA ai6 ⟨false,azQ⟩ ⟨(fun h=>by cases h),SV⟩ Nat.zero_lt_one [1,2,0,3,4,5,6] (Sub.refl _)
   refine jd 4 [3]<|Ez [3,5] ⟨fun z39 t40 Wx=>?_,fun z42 t43 ayA=>?_,trivial⟩
   ·
    refine jc [1] (EJ (hN.up (((bH.trans eT).trans iD).trans cZ)) hA.2.2.2) ?_
    rintro _ azR ⟨Nt,rfl,Bx,BM⟩
    refine fJ Wx [[3]]<|Ez [4,5] ⟨fun z45 t46 ayz=>?_,fun z48 t49 Ww=>?_,trivial⟩
    ·
     refine jc (vs:=[zP d,.agg ⟨[zI 2,zI 0,zI 0,.slice dc dN.length cY,.slice cF dH.length cy,zS,zS]⟩,.string Nt]) [0] (lK (hN.up (((bH.trans eT).trans iD).trans cZ)) BM ((((show bD _ _ _ _ _ from ⟨cF,rH,rG,cy,rfl,tv,pw,pn⟩).up eT).up iD).up cZ) (by have:=n7.len;have:=qQ.nh;omega)) ?_
     rintro _ Jr ⟨ad3,rfl,wV,wR,wX,xb⟩
     refine fp ayz<|aQ 5 fun adQ aeF Wv=>jn fun DL=>fp Wv<|aQ 6 fun adP aeE Wu=>jd 1 [0]<|fp Wu<|zD 1<|bA WG ⟨DL,_,Jr⟩ ⟨⟨wV▸Bx,lI n7 wX,wR⟩,xb⟩ Nat.zero_lt_one [0,2,1,3,4,5,6] (Sub.refl _)
    refine jn fun DL=>eo Ww (zN 1 6)<|aQ 4 fun adN aeD Wt=>jc (vs:=[zP d,.agg ⟨[zI 2,zI 0,zI 0,.slice dc dN.length cY,.slice cF dH.length cy,zS,zS]⟩,.string Nt]) [1] (lK (hN.up (((bH.trans eT).trans iD).trans cZ)) BM ((((show bD _ _ _ _ _ from ⟨cF,rH,rG,cy,rfl,tv,pw,pn⟩).up eT).up iD).up cZ) (by have:=n7.len;have:=qQ.nh;omega)) ?_
    rintro _ Jr ⟨ad3,rfl,wV,wR,wX,xb⟩
    refine fp Wt<|aQ 6 fun adM aeC Ws=>jd 1 [1]<|fp Ws<|zD 1<|bA WG ⟨DL,_,Jr⟩ ⟨⟨wV▸Bx,lI n7 wX,wR⟩,xb⟩ Nat.zero_lt_one [1,2,0,3,4,5,6] (Sub.refl _)
   refine jn fun DL=>eo ayA (zN 1 6)<|aQ 3 fun adL aeB Wq=>jc [2] (EJ (hN.up (((bH.trans eT).trans iD).trans cZ)) hA.2.2.2) ?_
   rintro _ azR ⟨Nt,rfl,Bx,BM⟩
   refine fJ Wq [[4]]<|aQ 4 fun adK aeA Wo=>jc (vs:=[zP d,.agg ⟨[zI 2,zI 0,zI 0,.slice dc dN.length cY,.slice cF dH.length cy,zS,zS]⟩,.string Nt]) [0] (lK (hN.up (((bH.trans eT).trans iD).trans cZ)) BM ((((show bD _ _ _ _ _ from ⟨cF,rH,rG,cy,rfl,tv,pw,pn⟩).up eT).up iD).up cZ) (by have:=n7.len;have:=qQ.nh;omega)) ?_
   rintro _ Jr ⟨ad3,rfl,wV,wR,wX,xb⟩
   refine fp Wo<|aQ 6 fun adJ aez Wn=>jd 1 [1]<|fp Wn<|zD 1<|bA WG ⟨DL,_,Jr⟩ ⟨⟨wV▸Bx,lI n7 wX,wR⟩,xb⟩ Nat.zero_lt_one [1,2,0,3,4,5,6] (Sub.refl _)
  refine zD 4<|jf [2] LB (fun aMO mD aoY=>?_)
  have hb:=hB.2.1.jL aoY
  have hBF:=hb
  obtain⟨j7,Kb,J9,jZ,rfl,Ka,JF,JE⟩:=hb
  refine zD 2<|jc (vs:=[zP d,zI 4]) [1] (yD (hN.up ((((bH.trans eT).trans iD).trans cZ).trans mD)) hA.2.2.2 (by omega)) ?_
  rintro _ aUd ⟨Ns,rfl,aFi,aE8,aji⟩
  refine jn fun ak9=>Sd (vs:=[zP d,.slice (some ⟨ak9,0,none⟩) 4 4]) [1] [0] [(ak9,.cells ⟨([1,2,4,Ns].map cB).flatten⟩ 3 (0,0))] (fun aH hs hZ=>Pt ((hN.up ((((bH.trans eT).trans iD).trans cZ).trans mD)).up hs) aji (bK [1,2,4,Ns] hZ.head (by intro p hp;rfl)) (by simp)) ?_
  rintro _ aUc ⟨Gk,rfl,ahy,ajh⟩
  refine zD 2<|jc (vs:=[zP d,zI 4]) [0] (yD (hN.up ((((bH.trans eT).trans iD).trans cZ).trans mD)) ajh (by omega)) ?_
  rintro _ aUb ⟨Nr,rfl,aFh,aE7,ajg⟩
  refine jn fun ak8=>Sd (vs:=[zP d,.slice (some ⟨ak8,0,none⟩) 4 4]) [1] [0] [(ak8,.cells ⟨([1,2,4,Nr].map cB).flatten⟩ 3 (0,0))] (fun aH hs hZ=>Pt ((hN.up ((((bH.trans eT).trans iD).trans cZ).trans mD)).up hs) ajg (bK [1,2,4,Nr] hZ.head (by intro p hp;rfl)) (by simp)) ?_
  rintro _ aUa ⟨Gj,rfl,ahx,ajf⟩
  refine zD 2<|jc (vs:=[zP d,zI 4]) [0] (yD (hN.up ((((bH.trans eT).trans iD).trans cZ).trans mD)) ajf (by omega)) ?_
  rintro _ aT9 ⟨Nq,rfl,aFg,aE6,aje⟩
  refine jn fun ak7=>Sd (vs:=[zP d,.slice (some ⟨ak7,0,none⟩) 4 4]) [1] [0] [(ak7,.cells ⟨([1,2,4,Nq].map cB).flatten⟩ 3 (0,0))] (fun aH hs hZ=>Pt ((hN.up ((((bH.trans eT).trans iD).trans cZ).trans mD)).up hs) aje (bK [1,2,4,Nq] hZ.head (by intro p hp;rfl)) (by simp)) ?_
  rintro _ aT8 ⟨Gi,rfl,ahw,ajc⟩
  refine jd 6 [6,6,6] ?_
  have AV:=abP ahy (by omega:0≤Ns∧Ns≤4)
  have wZ:=abP ahx (by omega:0≤Nr∧Nr≤4)
  have oV:=abP ahw (by omega:0≤Nq∧Nq≤4)
  refine zD 6<|jc (vs:=[zP d,zI nf]) [0] (yD (hN.up ((((bH.trans eT).trans iD).trans cZ).trans mD)) ajc (by omega)) ?_
  rintro _ azM ⟨as7,rfl,aFf,aE4,ajb⟩
  refine zD 3<|nY<|dV [1,1,1,1,1,1,1,1,1,0,1,0,0] [] (fun(zz:Int×Value×Cells×(List bZ)×Cells)=>[(0,zP d),(6,zP b6),(7,zP b7),(15,zI zz.1)]) (fun zz=>[.l zz.2.2.1,.l zz.2.2.2.2,.l LA,.b lL (.cells ⟨[zI 2,zI 0,zI 0,.slice dc dN.length cY,.slice cF dH.length cy,zS,zS]⟩ 90 (0,0)),.b b7 (.cells ⟨[.slice (some ⟨j8,0,none⟩) 2 2,.slice dX y7.length dB,zS,.slice dc dN.length cY,.slice cF dH.length cy,vR,.slice j7 kF.length jZ,vA,zI Gk,zI Gj,zI Gi,zz.2.1]⟩ 40 (0,0)),.b b6 (.cells ⟨zO⟩ 40 (0,0))]) (fun zz=>(0≤zz.1∧zz.2.2.2.1.length+zz.1≤nf)∧ay zz.2.1 3 58 nz zz.2.2.2.1 zz.2.2.1∧uY kF.length yX.length zz.2.2.2.1∧aU vd xs d zz.2.2.2.2) (fun zz=>zz.1.toNat) (⟨as7,zS,[],[],azM⟩) ⟨by simp only[List.length_nil];omega,ay.nil _ _ _,⟨(fun _ h=>by cases h),List.Pairwise.nil⟩,ajb⟩ [0,1,5,6,7,8] ?_
  rintro⟨j,vF,LF,fs,X⟩ hF K58 ai4 rest
  dsimp only at hF
  have aoW:=hB.1
  have aGq:=hA.1
  refine zD 6<|jj 5 [(0,zP d),(6,zP b6),(7,zP b7),(15,zI j),(214,.bool ((decide (j>0))&&(decide ((kF.length:Int)>0))))] (fun gp=>?_) (fun hj=>?_)
  rotate_left
  refine js 209 (decide (j>0)) (fun h56=>?_) (fun h56=>?_)
  ·
   have Is:=h56
   replace Is:=of_decide_eq_true Is
   refine jd 5 [4]<|jw 214 (.bool ((decide (j>0))&&(decide ((kF.length:Int)>0)))) (w:= .bool (decide ((kF.length:Int)>0))) (by rw[h56]<;>rfl) ?_
   exact zK hj
  ·
   have Is:=h56
   replace Is:=of_decide_eq_false Is
   refine zD 5<|jw 214 (.bool ((decide (j>0))&&(decide ((kF.length:Int)>0)))) (w:= .bool false) (by rw[h56]<;>rfl) ?_
   exact zK hj
  refine zD 1<|jj 5 [(0,zP d),(6,zP b6),(7,zP b7),(15,zI j),(220,.bool (((decide (j>0))&&(decide ((kF.length:Int)>0)))&&(decide ((yX.length:Int)>0))))] (fun gp=>?_) (fun hj=>?_)
  rotate_left
  refine js 215 ((decide (j>0))&&(decide ((kF.length:Int)>0))) (fun h57=>?_) (fun h57=>?_)
  ·
   have WL:=h57
   try simp only[zB] at WL
   refine jd 2 [4]<|yJ hA.2.1<|zD 2<|jw 220 (.bool (((decide (j>0))&&(decide ((kF.length:Int)>0)))&&(decide ((yX.length:Int)>0)))) (w:= .bool (decide ((yX.length:Int)>0))) (by rw[h57]<;>rfl) ?_
   exact zK hj
  ·
   have WL:=h57
   try simp only[zB] at WL
   refine zD 5<|jw 220 (.bool (((decide (j>0))&&(decide ((kF.length:Int)>0)))&&(decide ((yX.length:Int)>0)))) (w:= .bool false) (by rw[h57]<;>rfl) ?_
   exact zK hj
  refine zD 1<|js 220 (((decide (j>0))&&(decide ((kF.length:Int)>0)))&&(decide ((yX.length:Int)>0))) (fun h58=>?_) (fun h58=>?_)
  ·
   try simp only[zB] at h58
   refine jd 8 [4]<|Sd (vs:=[zP d,.agg ⟨[.slice (some ⟨j8,0,none⟩) 2 2,.slice dX y7.length dB,zS,.slice dc dN.length cY,.slice cF dH.length cy,vR,.slice j7 kF.length jZ,vA,zI Gk,zI Gj,zI Gi,vF]⟩]) [1] [1] LA (fun aH hs hZ=>aIh ((hN.up ((((bH.trans eT).trans iD).trans cZ).trans mD)).up hs) hF.2.2.2 ((show bD _ _ _ _ _ from ⟨j7,Kb,J9,jZ,rfl,Ka,JF,JE⟩).up hs) (hA.2.1.jL hZ) (by omega)) ?_
   rintro _ aln ⟨gi,rfl,aHm,aHc,SR⟩
   refine jn fun b16=>jd 6 [0,5,0]<|jp (vs:=[.agg ⟨[.slice (some ⟨j8,0,none⟩) 2 2,.slice dX y7.length dB,zS,.slice dc dN.length cY,.slice cF dH.length cy,vR,.slice j7 kF.length jZ,vA,zI Gk,zI Gj,zI Gi,vF]⟩,.agg ⟨[zI gi.a,zI gi.b,.bool gi.same]⟩]) [2] LF (fun aH hs hZ=>ary (x:=⟨gi.a,gi.b,gi.same⟩) (hF.2.1.jL hZ) (by omega))<|zD 2<|js 229 (!(A8 fs gi.a gi.b)) (fun h59=>?_) (fun h59=>?_)
   ·
    try simp only[zB] at h59
    refine jd 5 [5,0]<|jn fun ak6=>iC (sz:=3) (ps:=fs) (qs:=[(⟨gi.a,gi.b,gi.same⟩:bZ)]) (enc:=nz) (w:= .slice (some ⟨ak6,0,none⟩) 1 1) [3] [0] [(ak6,.cells ⟨([(⟨gi.a,gi.b,gi.same⟩:bZ)].map nz).flatten⟩ 58 (0,0))] (hF.2.1) (fun s _ hZ=>bL [(⟨gi.a,gi.b,gi.same⟩:bZ)] (hZ _ (.head _)) (by intro p hp;rfl)) (fun p _=>ai rfl) (by simp<;>omega) (fun aMh az2 BC=>?_)
    obtain⟨ael,aeb,aiy⟩:=BC.form
    subst aiy
    refine jd 5 [6]<|ja (j-1) (by omega)<|zD 2<|bA ai4 (⟨j-1,(.slice ael ((fs++[(⟨gi.a,gi.b,gi.same⟩:bZ)])).length aeb),az2,(fs++[(⟨gi.a,gi.b,gi.same⟩:bZ)]),aln⟩) ⟨by simp only[zM];omega,BC,uY.snoc hF.2.2.1 (by dsimp only;omega) (by dsimp only;omega) (by assumption),SR⟩ (by omega) [0,3,4,5,6,7] (Sub.refl _)
   try simp only[zB] at h59
   refine zD 4<|ja (j-1) (by omega)<|zD 2<|bA ai4 (⟨j-1,vF,LF,fs,aln⟩) ⟨by dsimp only;omega,hF.2.1,hF.2.2.1,SR⟩ (by omega) [2,1,3,4,5,6] (Sub.refl _)
  try simp only[zB] at h58
  refine zD 4<|jf [0] LF (fun aMN Bz axk=>?_)
  have hFA:=hF.2.1.jL axk
  refine jd 1 [3] ?_
  obtain⟨aty,atj,axD⟩:=hR.2.1.form
  subst axD
  obtain⟨atx,ati,axC⟩:=hA.2.1.form
  subst axC
  obtain⟨aLV,aLC,aQ9⟩:=hF.2.1.form
  subst aQ9
  refine jd 3 [4]<|aO q0.a.a.a.a.a.a (.agg ⟨[.slice (some ⟨j8,0,none⟩) 2 2,.slice dX y7.length dB,zS,.slice dc dN.length cY,.slice cF dH.length cy,(.slice aty (rs).length atj),.slice j7 kF.length jZ,(.slice atx (yX).length ati),zI Gk,zI Gj,zI Gi,(.slice aLV (fs).length aLC)]⟩) [4] [1,0] (LA++X) (Sub.refl _) ⟨_,_,_,rfl,rfl,(((((bH.trans eT).trans iD).trans cZ).trans mD).trans Bz),⟨ways,dN,An,rs,kF,yX,Gk,Gj,Gi,fs,wC⟩,_,_,_,_,_,_,_,_,none,0,_,_,rfl,⟨KA.2.1,qQ,⟨by dsimp only;omega,hR.2.2⟩,⟨by dsimp only;omega,hB.2.2.1⟩,⟨by dsimp only;omega,hA.2.2.1⟩,⟨AV,wZ,oV⟩,⟨by dsimp only;omega,hF.2.2.1.1⟩,hF.2.2.1.2,rfl⟩,(by dsimp only;omega),wm (by obtain⟨_,h,_⟩:=apk;exact fo h) (by obtain⟨_,h,_⟩:=aiU;exact fo h) (fo px.1) (fo px.2.1) (dF hR.2.1) (fo hBF) (dF hA.2.1) (dF hF.2.1),hA.2.1,(hBF.up Bz),hFA,fun jW oS vA ps hvA=>⟨_,_,_,_,_,_,_,_,none,0,dH,rfl,((apk.up (((iD.trans cZ).trans mD).trans Bz))).up oS,zg,((px.up ((((eT.trans iD).trans cZ).trans mD).trans Bz))).up oS,n7,((hRU.up (mD.trans Bz))).up oS,((hBF.up Bz)).up oS,hvA,hFA.up oS⟩,rfl,hF.2.2.2⟩
 refine js 30 w30 (fun h66=>?_) (fun h66=>?_)
 ·
  subst h66
  refine jd 7 [1]<|aQ 4 fun aBs aCh ayv=>jc [0] (apR (hN.up (bH.trans eT)) aja) ?_
  rintro _ X35 ⟨jC,rfl,ahv,ayO⟩
  refine fJ ayv [[1]]<|aQ 5 fun aBr aCg ayu=>jn fun ng=>eo ayu [1,2,3]<|zD 1<|aQ 7 fun aBq aCf ayt=>jn fun b38=>eo ayt (zN 1 4)<|aQ 8 fun aBp aCe ays=>aEU (E:=87) (sz:=1) gz (qs:=[(.slice (some ⟨ng,0,none⟩) 1 1:Value)]) (w:= .slice (some ⟨b38,0,none⟩) 1 1) [0] [(b38,.cells ⟨([(.slice (some ⟨ng,0,none⟩) 1 1:Value)].map gz).flatten⟩ 87 (0,0))] (fun s _ hZ=>bL [(.slice (some ⟨ng,0,none⟩) 1 1:Value)] (hZ _ (.head _)) (by intro p hp;rfl)) (by intro p hp;rw[List.mem_singleton] at hp;subst hp;exact ai rfl) (by simp<;>omega) (fun v39 L39 nZ=>?_)
  obtain⟨aei,ad8,V7⟩:=nZ.form
  subst V7
  refine eo ays (zN 1 5)<|zD 2<|aQ 11 fun aBo aCd ayr=>jd 1 [4]<|fJ ayr []<|zD 4<|jc (vs:=[zP d,zI 2]) [3] (m8 (hN.up (bH.trans eT)) ayO (by omega)) ?_
  rintro _ X43 ⟨w43,rfl,ai9⟩
  refine zD 1<|js 43 w43 (fun h72=>?_) (fun h72=>?_)
  ·
   subst h72
   refine jd 8 [4,4]<|HC 1 nZ (show ([(.slice (some ⟨ng,0,none⟩) 1 1:Value)])[0]?=some (.slice (some ⟨ng,0,none⟩) 1 1:Value) from rfl) fun b50 aya=>zD 1<|mT 0 [1] L39 (fun s _ hZ=>bR nZ aya hZ (show ([(.slice (some ⟨ng,0,none⟩) 1 1:Value)])[0]?=some (.slice (some ⟨ng,0,none⟩) 1 1:Value) from rfl))<|zD 1<|aQ 10 fun aBn aCc ayq=>jc [0] (apR (hN.up (bH.trans eT)) ai9) ?_
   rintro _ X54 ⟨jU,rfl,awk,ayN⟩
   refine fJ ayq [[1],[4],[4]]<|aQ 11 fun aBm aCb ayp=>jn fun b55=>eo ayp (zN 1 6)<|aQ 12 fun aBl aCa ayo=>iC (sz:=7) (ps:=[(⟨jC.k,jC.st,jC.ot,jC.fn,jC.fl,jC.tn,jC.tl⟩:aE)]) (qs:=[(⟨jU.k,jU.st,jU.ot,jU.fn,jU.fl,jU.tn,jU.tl⟩:aE)]) (enc:=ju) (w:= .slice (some ⟨b55,0,none⟩) 1 1) [4] [0] [(b55,.cells ⟨([(⟨jU.k,jU.st,jU.ot,jU.fn,jU.fl,jU.tn,jU.tl⟩:aE)].map ju).flatten⟩ 83 (0,0))] (Bm (b:=ng) (T:=83) [(⟨jC.k,jC.st,jC.ot,jC.fn,jC.fl,jC.tn,jC.tl⟩:aE)] rfl (by intro p hp;rfl)) (fun s _ hZ=>bL [(⟨jU.k,jU.st,jU.ot,jU.fn,jU.fl,jU.tn,jU.tl⟩:aE)] (hZ _ (.head _)) (by intro p hp;rfl)) (fun p _=>ai rfl) (by simp<;>omega) (fun v56 L56 qK=>?_)
   obtain⟨Nx,Nv,V5⟩:=qK.form
   subst V5
   refine fJ ayo [[5],[5]]<|HC 1 nZ (show ([(.slice (some ⟨ng,0,none⟩) 1 1:Value)])[0]?=some (.slice (some ⟨ng,0,none⟩) 1 1:Value) from rfl) fun b57 ax9=>zD 1<|aQ 15 fun aBk aB9 ayn=>MC 3 0 [(.slice Nx (([(⟨jC.k,jC.st,jC.ot,jC.fn,jC.fl,jC.tn,jC.tl⟩:aE)]++[(⟨jU.k,jU.st,jU.ot,jU.fn,jU.fl,jU.tn,jU.tl⟩:aE)])).length Nv)] ((.slice Nx (([(⟨jC.k,jC.st,jC.ot,jC.fn,jC.fl,jC.tn,jC.tl⟩:aE)]++[(⟨jU.k,jU.st,jU.ot,jU.fn,jU.fl,jU.tn,jU.tl⟩:aE)])).length Nv):Value) nZ ax9 (show ([(.slice (some ⟨ng,0,none⟩) 1 1:Value)])[0]?=some (.slice (some ⟨ng,0,none⟩) 1 1:Value) from rfl) rfl rfl (Nat.le_of_ble_eq_true rfl) fun L77 aP3=>fJ ayn []<|zD 1<|Ki bO ⟨(.slice aei ([(.slice (some ⟨ng,0,none⟩) 1 1:Value)]).length ad8),L77++L56,[[jC,jU]],X54⟩ ⟨fun _ hk=>⟨_,aP3.jL hk.left,.cons (qK.jL hk.right) .nil⟩,⟨by simp,by simpa using ⟨ahv,awk⟩⟩,ayN⟩ Nat.zero_lt_one [[0,1],[3],[5],[6]] (Sub.refl _)
  subst h72
  refine zD 2<|Ki bO ⟨(.slice aei ([(.slice (some ⟨ng,0,none⟩) 1 1:Value)]).length ad8),L39++[(ng,.cells ⟨[zI jC.k,zI jC.st,zI jC.ot,zI jC.fn,zI jC.fl,zI jC.tn,zI jC.tl]⟩ 83 (0,0))],[[jC]],X43⟩ ⟨fun _ hk=>⟨_,nZ.jL hk.left,.cons (bK [jC] (hk.right _ (.head _)) (fun _ _=>rfl)) .nil⟩,⟨by simp,by simpa using ahv⟩,ai9⟩ Nat.zero_lt_one [[1,3],[0],[4],[5]] (Sub.refl _)
 subst h66
 refine zD 2<|nY<|bA bO ⟨zS,[],[],X30⟩ ⟨fun _ _=>zg,⟨by simp,by simp⟩,aja⟩ Nat.zero_lt_one (zN 0 4) (Sub.refl _)
abbrev vD(K:aB)(A:List ah):aB:={K with ways:=[],after:=A}
structure ExP(hd:List cd)(A:List ah)(n i:Nat):Prop where
 len:A.length=n
 is:∀j p,A[j]?=some p→Jw hd p∧(j <i→Jv hd p)
theorem ExP.start(h:yZ K):ExP K.hd K.after K.after.length 0:=
 ⟨rfl,fun _ _ hp=>⟨h.after.2 _ (zL hp),fun hi=>absurd hi (Nat.not_lt_zero _)⟩⟩
theorem X4(n:Int): -1≤Int.tmod n 2∧Int.tmod n 2≤1:=by
 have h1:=Int.tmod_lt_of_pos n (show (0:Int) <2 by decide)
 have h2:=Int.lt_tmod_of_pos n (show (0:Int) <2 by decide)
 omega
theorem aew{n:Int}(h:1≤n):0≤Int.tmod n 2∧Int.tmod n 2≤1:=by
 have h1:=X4 n
 have h2:=Int.tmod_nonneg 2 (show 0≤n by omega)
 omega
theorem aki{A:List ah}(h:ExP hd A n i)(hx:A[i]?=some x) (hy:y.name=x.name∧y.st=x.st∧y.head=x.head∧y.bold=x.bold) (h0:x.st=0→y.no=1∨y.no=2) (h1:x.st=1→y.no=1∨y.no=3):ExP hd (A.set i y) n (i+1):=by
 refine⟨by rw[List.length_set];exact h.len,fun j p hp=>?_⟩
 by_cases e:i=j
 ·subst e
  rw[List.getElem?_set_self (List.getElem?_eq_some_iff.1 hx).1] at hp
  cases hp
  have hn:=(h.is i x hx).1
  have bW:=hn.1.2.2.1
  have hp:tR hd y:=by
   have:=hn.1
   rw[tR,hy.1,hy.2.1,hy.2.2.1,hy.2.2.2]
   exact this
  have H6:(x.st=0∧(y.no=1∨y.no=2))∨(x.st=1∧(y.no=1∨y.no=3)):=by
   rcases(by omega:x.st=0∨x.st=1) with k|k
   ·exact .inl ⟨k,h0 k⟩
   exact .inr ⟨k,h1 k⟩
  exact⟨⟨hp,by omega⟩,fun _=>⟨hp,fun k=>h0 (by rw[←hy.2.1];exact k),fun k=>h1 (by rw[←hy.2.1];exact k)⟩⟩
 rw[List.getElem?_set_ne e] at hp
 have:=h.is j p hp
 exact⟨this.1,fun hj=>this.2 (by omega)⟩
theorem aH5{A:List ah}{z:ah}(h:ExP hd A n i)(hx:A[i]?=some x) (hy:A[i]?=some y) (hz:A[i]?=some z) (hs:x.st=0):ExP hd (A.set i ⟨z.name,z.st,1+Int.tmod y.no 2,z.head,z.bold⟩) n (i+1):=by
 have e1:x=y:=Option.some.inj (hx.symm.trans hy)
 have e2:x=z:=Option.some.inj (hx.symm.trans hz)
 subst e1;subst e2
 have ht:=aew (h.is i x hx).1.2.1
 exact aki h hx ⟨rfl,rfl,rfl,rfl⟩ (fun _=>by dsimp only;omega) (fun k=>by rw[hs] at k;cases k)
theorem aH6{A:List ah}{z:ah}(h:ExP hd A n i)(hx:A[i]?=some x) (hy:A[i]?=some y) (hz:A[i]?=some z) (hs:¬x.st=0):ExP hd (A.set i ⟨z.name,z.st,1+2*Int.tmod y.no 2,z.head,z.bold⟩) n (i+1):=by
 have e1:x=y:=Option.some.inj (hx.symm.trans hy)
 have e2:x=z:=Option.some.inj (hx.symm.trans hz)
 subst e1;subst e2
 have ht:=aew (h.is i x hx).1.2.1
 exact aki h hx ⟨rfl,rfl,rfl,rfl⟩ (fun k=>absurd k hs) (fun _=>by dsimp only;omega)
theorem aH4{A:List ah}(hO:yZ K)(h:ExP K.hd A K.after.length K.after.length):yZ (vD K A)∧yZ (gH (vD K A)):=by
 have key:∀p∈A,Jw K.hd p∧Jv K.hd p:=fun p hp=>by
  obtain⟨j,hj⟩:=List.getElem?_of_mem hp
  have:=h.is j p hj
  exact⟨this.1,this.2 (by rw[←h.len];exact(List.getElem?_eq_some_iff.1 hj).1)⟩
 have hl:=h.len
 have hn:=hO.after.1
 refine⟨⟨⟨Nat.zero_le _,fun _ k=>by cases k⟩,hO.di,hO.rules,hO.before,⟨by show A.length≤4;omega,fun p hp=>(key p hp).1⟩,hO.pF,⟨hO.facts.1,fun t ht=>by have:=hO.facts.2 t ht;show (_∧_)∧(_∧t.b <(A.length:Int));rw[hl];exact this⟩,hO.apart,hO.str⟩,
  ⟨⟨Nat.zero_le _,fun _ k=>by cases k⟩,hO.di,hO.rules,⟨by show A.length≤4;omega,fun p hp=>(key p hp).2⟩,⟨hO.before.1,fun p hp=>?_⟩,⟨hO.pF.2.1,hO.pF.1,hO.pF.2.2⟩,⟨by show (K.facts.map Yl).length≤4;rw[List.length_map];exact hO.facts.1,fun t ht=>?_⟩,?_,hO.str⟩⟩
 ·have hp:=hO.before.2 p hp
  have:=hp.1.2.2.1
  rcases(by omega:p.st=0∨p.st=1) with k|k
  ·exact⟨hp.1,by have:=hp.2.1 k;omega⟩
  exact⟨hp.1,by have:=hp.2.2 k;omega⟩
 ·obtain⟨u,hu,rfl⟩:=List.mem_map.1 (show t∈K.facts.map Yl from ht)
  have:=hO.facts.2 u hu
  show (0≤u.b∧u.b <(A.length:Int))∧(0≤u.a∧u.a <(K.before.length:Int))
  rw[hl]
  exact⟨this.2,this.1⟩
 exact List.pairwise_map.2 (hO.apart.imp fun {a b} xZ e=>xZ ⟨e.2,e.1⟩)
theorem apH{A:List ah}(hV:eR (vD K A))(hn:A.length≤4):AH (vD K A):=
 ⟨rfl,hV.facts,hV.before.1,hn,fun x hx y hy=>ad5 (Zi (hV.before.2 x hx).1) (Zi (hV.after.2 y hy).1)⟩
def exF(fs:List bZ)(i:Nat):List bZ:=(fs.take i).map Yl++fs.drop i
theorem apJ:(exF fs i).length=fs.length:=by
 rw[exF,List.length_append,List.length_map,List.length_take,List.length_drop];omega
theorem apK:exF fs fs.length=fs.map Yl:=by rw[exF,List.take_length,List.drop_length,List.append_nil]
theorem akj{x y z:bZ}(hx:fs[i]?=some x) (hy:fs[i]?=some y) (hz:fs[i]?=some z):(exF fs i).set i ⟨x.b,y.a,z.same⟩=exF fs (i+1):=by
 have e1:x=y:=Option.some.inj (hx.symm.trans hy)
 have e2:x=z:=Option.some.inj (hx.symm.trans hz)
 subst e1;subst e2
 have hi:=(List.getElem?_eq_some_iff.1 hx).1
 rw[exF,exF,eX hx,iF hx,List.map_append,List.append_assoc,List.set_append]
 simp only[List.length_map,List.length_take,show min i fs.length=i by omega,Nat.lt_irrefl,if_false,Nat.sub_self]
 rfl
set_option maxHeartbeats 2000000 in
theorem aha (hK:fP ro l K) (hO:j6 K):eg zT 10 [.agg ⟨l⟩] ro [] (fun r Y=>∃(v0 v1 v3 v4 v5 v6 v7 vb:Value) (fa:Option Addr) (fc:Nat) (LF Z:Cells),r= .agg ⟨[v0,v1,.slice fa 0 fc,v3,v4,v5,v6,v7,zI K.gone,zI K.new,zI K.af,vb]⟩∧(∀v∈[v0,v1,v3,v4,v5,v6,v7,vb],single v=true)∧ay vb 3 58 nz K.facts LF∧(∀aJ,Sub ro aJ→Knows aJ Z→∀(v6 v7 vf:Value) (ps qs:List ah) (fs:List bZ) (g n:Int),bD aJ v6 5 cb ps→bD aJ v7 5 cb qs→bD aJ vf 3 nz fs→fP aJ [v0,v1,.slice fa 0 fc,v3,v4,v5,v6,v7,zI g,zI n,zI K.af,vf] {K with before:=ps,after:=qs,gone:=g,new:=n,facts:=fs})∧Y=LF++Z):=by
 obtain⟨vS,vT,vc,vh,vr,vb,va,vf,fa,fc,hv,rfl,hS,hT,px,n6,hr,hb,ha,hf⟩:=hK
 obtain⟨ij,hs,fw⟩:=id hS
 obtain⟨iS,ht,e8⟩:=id hT
 obtain⟨hc,hh,ED⟩:=id px
 obtain⟨mB,U5,U3,lq,rfl,U4,NW,NU⟩:=hs
 obtain⟨dX,AK,AI,dB,rfl,AJ,sD,sC⟩:=ht
 obtain⟨dc,AN,AM,cY,rfl,CN,yH,yG⟩:=hc
 obtain⟨cF,rH,rG,cy,rfl,tv,pw,pn⟩:=hh
 obtain⟨kY,JD,JC,kX,rfl,P3,GY,GX⟩:=hr
 obtain⟨j7,Kb,J9,jZ,rfl,Ka,JF,JE⟩:=hb
 obtain⟨nv,N7,N2,nq,rfl,N3,LX,LW⟩:=ha
 obtain⟨jY,Ek,Ej,iP,rfl,LV,wA,wz⟩:=hf
 have Dl:=hO.rules
 have rq:=hO.before.1
 have Qe:=hO.after.1
 have Qd:=hO.facts.1
 have Qc:=hO.ways.1
 have JK:=fw.len
 have Fj:=e8.len
 have ZH:=hO.pX.two
 have hl9:=hO.di.nh
 have P2:∀(i:Nat) (p:dj),([]:List dj)[i]?=some p→cE ⟨ro,[]⟩ 0 (0+i*6) 6 (mZ p):=fun _ _ h=>oQ h
 refine zE<|zD 2<|jn fun b1=>jn fun b2=>zD 3<|jn fun b6=>jd 3 [2]<|iC (sz:=6) (ps:=[]) (qs:=([]:List dj)) (enc:=mZ) (w:= .slice fa 0 fc) [0] [] [] (bC (b:=b6) (T:=267)) (fun s he _=>⟨fa,0,0,fc,rfl,(fun _ h=>absurd h (Nat.not_lt_zero _)),fun i p hp=>(P2 i p hp).ext he⟩) (fun p _=>ai rfl) (by simp<;>omega) (fun v10 L10 H4=>?_)
 rw[List.nil_append] at H4
 obtain⟨zd,zb,axP⟩:=H4.form
 subst axP
 refine zD 1<|jn fun b3=>jd 8 [0]<|nY<|nY<|dV [1,1,0,1,0,0] [] (fun(zz:Nat×Value×Cells×(List Value)×Cells)=>[(1,zP b1),(2,zP b2),(3,zP b3),(4,zI (zz.1:Int))]) (fun zz=>[.b b3 (.cells ⟨[zz.2.1,zS,(.slice zd (([]:List dj)).length zb)]⟩ 31 (0,0)),.l zz.2.2.1,.l zz.2.2.2.2,.l L10,.b b2 (.cells ⟨zO⟩ 40 (0,0)),.b b1 (.cells ⟨[.slice mB ij.length lq,.slice dX iS.length dB,.slice fa 0 fc,.slice dc K.cs.length cY,.slice cF hv.length cy,.slice kY K.rules.length kX,.slice j7 K.before.length jZ,.slice nv K.after.length nq,zI K.gone,zI K.new,zI K.af,.slice jY K.facts.length iP]⟩ 40 (0,0))]) (fun zz=>(zz.1≤ij.length∧zz.2.2.2.1.length=zz.1)∧ay zz.2.1 1 80 gz zz.2.2.2.1 zz.2.2.1∧∀aJ,Knows aJ zz.2.2.2.2→dA (fun w l=>bD aJ w 2 cM l) zz.2.2.2.1 (K.str.take zz.1)) (fun zz=>ij.length-zz.1) (⟨0,zS,[],[],[]⟩) ⟨⟨by omega,rfl⟩,ay.nil _ _ _,fun _ _=> .nil⟩ [2,1,0,3,4,5] ?_
 rintro⟨i,v0,L0,ps,Z⟩ hI K1 bO rest
 dsimp only at hI
 refine jd 11 [5]<|zJ 18 ((i:Int) <(ij.length:Int)) (fun h1=>?_) fun h1=>?_
 ·
  refine jd 13 [0,5] ?_
  obtain⟨oI,jk⟩:=zG ij i
  refine iz lq 1 NW jk ?_
  obtain⟨R8,aij,ZV⟩:=fw.get jk
  obtain aQy:=hO.pX.len _ (zL aij)
  obtain⟨afw,auM,auJ,afv,rfl,aNg,auL,auK⟩:=ZV
  refine jl 0 (NU _ _ jk)<|aQ 3 fun y4 ze wZ=>jn fun EP=>eo wZ (zN 1 6)<|aQ 11 fun qp qv oV=>iC (sz:=2) (ps:=[]) (qs:=R8) (enc:=cM) (w:= .slice afw R8.length afv) [0] [] [] (bC (b:=EP) (T:=79)) (fun s he _=>⟨afw,auM,auJ,afv,rfl,auL,fun i p hp=>(auK i p hp).ext he⟩) (fun p _=>ai rfl) (by simp<;>omega) (fun v32 L32 Ae=>?_)
  rw[List.nil_append] at Ae
  obtain⟨zc,y9,V9⟩:=Ae.form
  subst V9
  refine fJ oV [[6],[1]]<|aQ 12 fun sq su qR=>jn fun b33=>eo qR (zN 1 7)<|aQ 13 fun AZ A9 BK=>iC (sz:=1) (ps:=ps) (qs:=[((.slice zc (R8).length y9):Value)]) (enc:=gz) (w:= .slice (some ⟨b33,0,none⟩) 1 1) [3] [0] [(b33,.cells ⟨([((.slice zc (R8).length y9):Value)].map gz).flatten⟩ 80 (0,0))] (hI.2.1) (fun s _ hZ=>bL [((.slice zc (R8).length y9):Value)] (hZ _ (.head _)) (by intro p hp;rfl)) (by intro p hp;rw[List.mem_singleton] at hp;subst hp;exact ai rfl) (by simp<;>omega) (fun v34 L34 H0=>?_)
  obtain⟨Uw,Uq,V8⟩:=H0.form
  subst V8
  refine fJ BK [[7]]<|zD 2<|aQ 16 fun aaM aaY Wm=>jd 1 [3]<|fJ Wm []<|zD 3<|ja ((i:Int)+1) (by omega)<|zD 2<|Ki bO (⟨i+1,(.slice Uw ((ps++[((.slice zc (R8).length y9):Value)])).length Uq),L34,(ps++[((.slice zc (R8).length y9):Value)]),L32++Z⟩) ⟨⟨by dsimp only;omega,by simp only[zM];omega⟩,H0,fun aJ hk=>qo (hI.2.2 aJ hk.right) aij (Ae.jL hk.left)⟩ (by omega) [[3],[0],[2,4],[5],[6],[7]] (Sub.refl _)
 refine zD 8<|nY<|nY<|dV [1,1,1,0,1,0,0] [] (fun(zz:Nat×Value×Cells×(List Value)×Cells)=>[(1,zP b1),(2,zP b2),(3,zP b3),(5,zI (zz.1:Int))]) (fun zz=>[.b b3 (.cells ⟨[v0,zz.2.1,(.slice zd (([]:List dj)).length zb)]⟩ 31 (0,0)),.l zz.2.2.1,.l zz.2.2.2.2,.l L0,.l Z,.l L10,.b b2 (.cells ⟨zO⟩ 40 (0,0)),.b b1 (.cells ⟨[.slice mB ij.length lq,.slice dX iS.length dB,.slice fa 0 fc,.slice dc K.cs.length cY,.slice cF hv.length cy,.slice kY K.rules.length kX,.slice j7 K.before.length jZ,.slice nv K.after.length nq,zI K.gone,zI K.new,zI K.af,.slice jY K.facts.length iP]⟩ 40 (0,0))]) (fun zz=>(zz.1≤iS.length∧zz.2.2.2.1.length=zz.1)∧ay zz.2.1 1 87 gz zz.2.2.2.1 zz.2.2.1∧∀aJ,Knows aJ zz.2.2.2.2→dA (fun w l=>bD aJ w 7 ju l) zz.2.2.2.1 (K.ways.take zz.1)) (fun zz=>iS.length-zz.1) (⟨0,zS,[],[],[]⟩) ⟨⟨by omega,rfl⟩,ay.nil _ _ _,fun _ _=> .nil⟩ [2,1,0,3,4,5,6,7] ?_
 rintro⟨j,v1,L1,qs,Z1⟩ hG K7 Qh rest
 dsimp only at hG
 refine jd 10 [7]<|zJ 42 ((j:Int) <(iS.length:Int)) (fun h7=>?_) fun h7=>?_
 ·
  refine jd 11 [0,7] ?_
  obtain⟨x52,wO⟩:=zG iS j
  refine iz dB 1 sD wO<|zD 1 ?_
  obtain⟨Vv,aii,h54⟩:=e8.get wO
  obtain aQu:=(hO.ways.2 _ (zL aii)).1.2
  obtain⟨afu,auI,auF,afs,rfl,aM5,auH,auG⟩:=h54
  refine jl 0 (sC _ _ wO)<|aQ 2 fun aaL aaX hL8=>jn fun b47=>eo hL8 (zN 1 8)<|aQ 10 fun Uk Uy SQ=>iC (sz:=7) (ps:=[]) (qs:=Vv) (enc:=ju) (w:= .slice afu Vv.length afs) [0] [] [] (bC (b:=b47) (T:=83)) (fun s he _=>⟨afu,auI,auF,afs,rfl,auH,fun i p hp=>(auG i p hp).ext he⟩) (fun p _=>ai rfl) (by simp<;>omega) (fun v55 L55 Ad=>?_)
  rw[List.nil_append] at Ad
  obtain⟨Gt,Gq,axF⟩:=Ad.form
  subst axF
  refine fJ SQ [[8],[1]]<|zD 1<|aQ 12 fun DW Ef uO=>jn fun b57=>eo uO (zN 1 9)<|aQ 13 fun DV Ee xa=>iC (sz:=1) (ps:=qs) (qs:=[((.slice Gt (Vv).length Gq):Value)]) (enc:=gz) (w:= .slice (some ⟨b57,0,none⟩) 1 1) [3] [0] [(b57,.cells ⟨([((.slice Gt (Vv).length Gq):Value)].map gz).flatten⟩ 87 (0,0))] (hG.2.1) (fun s _ hZ=>bL [((.slice Gt (Vv).length Gq):Value)] (hZ _ (.head _)) (by intro p hp;rfl)) (by intro p hp;rw[List.mem_singleton] at hp;subst hp;exact ai rfl) (by simp<;>omega) (fun v58 L58 HW=>?_)
  obtain⟨Uv,Up,Ic⟩:=HW.form
  subst Ic
  refine fJ xa [[9]]<|zD 1<|aQ 15 fun Gc GA w9=>jd 1 [3]<|fp w9<|zD 3<|ja ((j:Int)+1) (by omega)<|zD 2<|Ki Qh (⟨j+1,(.slice Uv ((qs++[((.slice Gt (Vv).length Gq):Value)])).length Up),L58,(qs++[((.slice Gt (Vv).length Gq):Value)]),L55++Z1⟩) ⟨⟨by dsimp only;omega,by simp only[zM];omega⟩,HW,fun aJ hk=>qo (hG.2.2 aJ hk.right) aii (Ad.jL hk.left)⟩ (by omega) [[3],[0],[2,4],[5],[6],[7],[8],[9]] (Sub.refl _)
 refine zD 3<|yK [1,1,1,1,1] [] (fun(zz:(Option Addr)×Nat×(Option Addr)×Nat×(List bB)×Cells×Value×Cells)=>[(1,zP b1),(2,zP b2)]) (fun zz=>[.b b1 (.cells ⟨[v0,v1,(.slice zd (([]:List dj)).length zb),(.slice zz.1 K.cs.length zz.2.1),(.slice zz.2.2.1 zz.2.2.2.2.1.length zz.2.2.2.1),zz.2.2.2.2.2.2.1,.slice j7 K.before.length jZ,.slice nv K.after.length nq,zI K.gone,zI K.new,zI K.af,.slice jY K.facts.length iP]⟩ 40 (0,0)),.l zz.2.2.2.2.2.2.2,.l zz.2.2.2.2.2.1,.b b3 (.cells ⟨[v0,v1,(.slice zd (([]:List dj)).length zb)]⟩ 31 (0,0)),.l L1,.l Z1,.l L0,.l Z,.l L10,.b b2 (.cells ⟨zO⟩ 40 (0,0))]) (fun zz=>dA dw zz.2.2.2.2.1 K.hd∧(∀aJ,Sub ro aJ→Knows aJ zz.2.2.2.2.2.1→jA aJ (.slice zz.1 K.cs.length zz.2.1) (.slice zz.2.2.1 zz.2.2.2.2.1.length zz.2.2.2.1) K.cs zz.2.2.2.2.1 K.hd)∧ay zz.2.2.2.2.2.2.1 2 45 gG K.rules zz.2.2.2.2.2.2.2) ?_ (fun K13 O5=>?_)
 ·
  rintro⟨ta,tc,ua,uc,hw,ZT,vR,LR⟩ hJ rest
  dsimp only at hJ
  refine zD 1<|yK [1,1,1,1,1,1] [] (fun(zz:Value×Cells×Value×Cells×Value×Cells)=>[(1,zP b1),(2,zP b2)]) (fun zz=>[.b b1 (.cells ⟨[v0,v1,(.slice zd (([]:List dj)).length zb),(.slice ta K.cs.length tc),(.slice ua hw.length uc),vR,zz.1,zz.2.2.1,zI K.gone,zI K.new,zI K.af,zz.2.2.2.2.1]⟩ 40 (0,0)),.l zz.2.1,.l zz.2.2.2.1,.l zz.2.2.2.2.2,.l LR,.l ZT,.b b3 (.cells ⟨[v0,v1,(.slice zd (([]:List dj)).length zb)]⟩ 31 (0,0)),.l L1,.l Z1,.l L0,.l Z,.l L10,.b b2 (.cells ⟨zO⟩ 40 (0,0))]) (fun zz=>ay zz.1 5 55 cb K.before zz.2.1∧ay zz.2.2.1 5 55 cb K.after zz.2.2.2.1∧ay zz.2.2.2.2.1 3 58 nz K.facts zz.2.2.2.2.2) ?_ (fun K14 Kz=>?_)
  ·
   rintro⟨vB,LB,vA,LA,vF,LF⟩ hM rest
   dsimp only at hM
   refine jd 3 [0] ?_
   obtain⟨atI,atu,axO⟩:=hI.2.1.form
   subst axO
   obtain⟨A5,za,tH⟩:=hG.2.1.form
   subst tH
   obtain⟨atH,att,OX⟩:=hJ.2.2.form
   subst OX
   obtain⟨atG,atr,aiA⟩:=hM.1.form
   subst aiA
   obtain⟨yo,yn,Ku⟩:=hM.2.1.form
   subst Ku
   obtain⟨aen,Ur,OW⟩:=hM.2.2.form
   subst OW
   refine jd 3 [12]<|zR (.agg ⟨[(.slice atI (ps).length atu),(.slice A5 (qs).length za),(.slice zd (([]:List dj)).length zb),(.slice ta K.cs.length tc),(.slice ua hw.length uc),(.slice atH (K.rules).length att),(.slice atG (K.before).length atr),(.slice yo (K.after).length yn),zI K.gone,zI K.new,zI K.af,(.slice aen (K.facts).length Ur)]⟩) [12] [3,1,2,4,5,7,8,9,10,11] (LF++(LB++(LA++(LR++(ZT++(L1++(Z1++(L0++(Z++L10))))))))) ⟨_,_,_,_,_,_,_,_,_,_,_,_,rfl,wm (dF hI.2.1) (dF hG.2.1) rfl rfl (dF hJ.2.2) (dF hM.1) (dF hM.2.1) (dF hM.2.2),hM.2.2,fun aJ oS hk v6 v7 vf ps qs fs g n hv6 hv7 hvf=>⟨_,_,_,_,_,_,_,_,_,_,hw,rfl,⟨_,hI.2.1.jL hk.right.right.right.right.right.right.left,by have:=hI.2.2 aJ hk.right.right.right.right.right.right.right.left;rwa[List.take_of_length_le (by omega)] at this⟩,⟨_,hG.2.1.jL hk.right.right.right.right.left,by have:=hG.2.2 aJ hk.right.right.right.right.right.left;rwa[List.take_of_length_le (by omega)] at this⟩,hJ.2.1 aJ oS hk.right.right.right.left,hJ.1,hJ.2.2.jL hk.right.right.left,hv6,hv7,hvf⟩,rfl⟩
  refine jd 7 [0,0,0]<|Ez [2,6] ⟨fun z15 t16 Im=>?_,fun z18 t19 WA=>?_,trivial⟩
  ·
   refine jc (vs:=[.slice j7 K.before.length jZ]) [] (fI (show bD _ _ _ _ _ from ⟨j7,Kb,J9,jZ,rfl,Ka,JF,JE⟩) (by omega)) ?_
   rintro v73 L73 ⟨_,Ag,rfl⟩
   refine eo Im (zN 1 10)<|zD 1<|Ez [5,6] ⟨fun z21 t22 Wz=>?_,fun z24 t25 BL=>?_,trivial⟩
   ·
    refine jc (vs:=[.slice nv K.after.length nq]) [] (fI (show bD _ _ _ _ _ from ⟨nv,N7,N2,nq,rfl,N3,LX,LW⟩) (by omega)) ?_
    rintro v76 L76 ⟨_,wT,rfl⟩
    refine eo Wz (zN 1 11)<|aQ 6 fun KT La Dq=>jn fun b77=>eo Dq (zN 1 12)<|aQ 9 fun KS K0 Dp=>iC (sz:=3) (ps:=[]) (qs:=K.facts) (enc:=nz) (w:= .slice jY K.facts.length iP) [0] [] [] (bC (b:=b77) (T:=58)) (fun s he _=>⟨jY,Ek,Ej,iP,rfl,wA,fun i p hp=>(wz i p hp).ext he⟩) (fun p _=>ai rfl) (by simp<;>omega) (fun v80 L80 gq=>?_)
    rw[List.nil_append] at gq
    obtain⟨Gs,Gp,Ib⟩:=gq.form
    subst Ib
    refine fJ Dp []<|aQ 11 (fun KR KZ Dm=>?_)
    obtain⟨aek,aea,Wa⟩:=Ag.form
    subst Wa
    refine jd 1 [3]<|fp Dm<|zD 1<|aQ 13 (fun XT Yb O1=>?_)
    obtain⟨atE,atp,axL⟩:=wT.form
    subst axL
    refine jd 1 [3]<|fp O1<|zD 1<|aQ 15 fun XS Ya Kx=>jd 1 [3]<|fp Kx<|zD 1<|bA Kz ⟨(.slice aek (K.before).length aea),L73,(.slice atE (K.after).length atp),L76,(.slice Gs (K.facts).length Gp),L80⟩ ⟨Ag,wT,gq⟩ Nat.zero_lt_one [3,2,1,0,4,5,6,7,8,9,10,11,12] (Sub.refl _)
   refine jn fun b77=>eo BL (zN 1 11)<|aQ 5 fun aqv aqO Wy=>jc (vs:=[.slice nv K.after.length nq]) [] (fI (show bD _ _ _ _ _ from ⟨nv,N7,N2,nq,rfl,N3,LX,LW⟩) (by omega)) ?_
   rintro v76 L76 ⟨_,wT,rfl⟩
   refine eo Wy (zN 1 12)<|aQ 9 fun aBB aCq ayE=>iC (sz:=3) (ps:=[]) (qs:=K.facts) (enc:=nz) (w:= .slice jY K.facts.length iP) [1] [] [] (bC (b:=b77) (T:=58)) (fun s he _=>⟨jY,Ek,Ej,iP,rfl,wA,fun i p hp=>(wz i p hp).ext he⟩) (fun p _=>ai rfl) (by simp<;>omega) (fun v80 L80 gq=>?_)
   rw[List.nil_append] at gq
   obtain⟨Gs,Gp,Ib⟩:=gq.form
   subst Ib
   refine fJ ayE []<|aQ 11 (fun aBA aCp ayD=>?_)
   obtain⟨zc,y9,V9⟩:=Ag.form
   subst V9
   refine jd 1 [3]<|fp ayD<|zD 1<|aQ 13 (fun aBz aCo ai0=>?_)
   obtain⟨Uw,Uq,V8⟩:=wT.form
   subst V8
   refine jd 1 [3]<|fp ai0<|zD 1<|aQ 15 fun XQ X9 Il=>jd 1 [3]<|fp Il<|zD 1<|bA Kz ⟨(.slice zc (K.before).length y9),L73,(.slice Uw (K.after).length Uq),L76,(.slice Gs (K.facts).length Gp),L80⟩ ⟨Ag,wT,gq⟩ Nat.zero_lt_one [3,2,1,0,4,5,6,7,8,9,10,11,12] (Sub.refl _)
  refine jn fun b77=>eo WA (zN 1 10)<|aQ 2 fun XP X7 O0=>jc (vs:=[.slice j7 K.before.length jZ]) [] (fI (show bD _ _ _ _ _ from ⟨j7,Kb,J9,jZ,rfl,Ka,JF,JE⟩) (by omega)) ?_
  rintro v73 L73 ⟨_,Ag,rfl⟩
  refine eo O0 (zN 1 11)<|zD 1<|aQ 5 fun aqu aqN aiZ=>jc (vs:=[.slice nv K.after.length nq]) [] (fI (show bD _ _ _ _ _ from ⟨nv,N7,N2,nq,rfl,N3,LX,LW⟩) (by omega)) ?_
  rintro v76 L76 ⟨_,wT,rfl⟩
  refine eo aiZ (zN 1 12)<|aQ 9 fun aqt aqM aiY=>iC (sz:=3) (ps:=[]) (qs:=K.facts) (enc:=nz) (w:= .slice jY K.facts.length iP) [2] [] [] (bC (b:=b77) (T:=58)) (fun s he _=>⟨jY,Ek,Ej,iP,rfl,wA,fun i p hp=>(wz i p hp).ext he⟩) (fun p _=>ai rfl) (by simp<;>omega) (fun v80 L80 gq=>?_)
  rw[List.nil_append] at gq
  obtain⟨Gs,Gp,Ib⟩:=gq.form
  subst Ib
  refine fJ aiY []<|aQ 11 (fun aBy aCn ayC=>?_)
  obtain⟨Gu,Gr,Ie⟩:=Ag.form
  subst Ie
  refine jd 1 [3]<|fp ayC<|zD 1<|aQ 13 (fun aBx aCm Wx=>?_)
  obtain⟨atB,atm,axI⟩:=wT.form
  subst axI
  refine jd 1 [3]<|fp Wx<|zD 1<|aQ 15 fun aBw aCl ayB=>jd 1 [3]<|fp ayB<|zD 1<|bA Kz ⟨(.slice Gu (K.before).length Gr),L73,(.slice atB (K.after).length atm),L76,(.slice Gs (K.facts).length Gp),L80⟩ ⟨Ag,wT,gq⟩ Nat.zero_lt_one [3,2,1,0,4,5,6,7,8,9,10,11,12] (Sub.refl _)
 refine jd 7 [0,7,7]<|Ez [3,4] ⟨fun z43 t44 apo=>?_,fun z46 t47 ayy=>?_,trivial⟩
 ·
  refine jc [] (uC hO.di px n6) ?_
  rintro _ Xz ⟨VI,azs,ayg,azp,ax1,_,rfl,HQ,HP,rfl⟩
  refine eo apo (zN 1 8)<|aQ 4 fun aBv aCk ayx=>jn fun b64=>eo ayx (zN 1 9)<|aQ 7 fun aBu aCj Ww=>iC (sz:=2) (ps:=[]) (qs:=K.rules) (enc:=gG) (w:= .slice kY K.rules.length kX) [0] [] [] (bC (b:=b64) (T:=45)) (fun s he _=>⟨kY,JD,JC,kX,rfl,GY,fun i p hp=>(GX i p hp).ext he⟩) (fun p _=>ai rfl) (by simp<;>omega) (fun v67 L67 lX=>?_)
  rw[List.nil_append] at lX
  obtain⟨Uu,Uo,V4⟩:=lX.form
  subst V4
  refine fJ Ww [[2]]<|aQ 9 (fun adQ aeF Wv=>?_)
  obtain⟨aeh,ad7,V6⟩:=hI.2.1.form
  subst V6
  obtain⟨aLX,aLE,axG⟩:=hG.2.1.form
  subst axG
  refine jd 1 [9]<|fp Wv<|zD 1<|aQ 11 fun adP aeE Wu=>jd 1 [9]<|fp Wu<|zD 1<|aQ 13 fun adN aeD Wt=>jd 1 [9]<|fp Wt<|zD 1<|bA O5 ⟨_,_,_,_,VI,Xz,(.slice Uu (K.rules).length Uo),L67⟩ ⟨HQ,HP,lX⟩ Nat.zero_lt_one [9,0,1,2,3,4,5,6,7,8] (Sub.refl _)
 refine jn fun b64=>eo ayy (zN 1 8)<|aQ 3 fun adM aeC Ws=>jc [] (uC hO.di px n6) ?_
 rintro _ Xz ⟨VI,azs,ayg,azp,ax1,_,rfl,HQ,HP,rfl⟩
 refine eo Ws (zN 1 9)<|aQ 7 fun adL aeB Wq=>iC (sz:=2) (ps:=[]) (qs:=K.rules) (enc:=gG) (w:= .slice kY K.rules.length kX) [1] [] [] (bC (b:=b64) (T:=45)) (fun s he _=>⟨kY,JD,JC,kX,rfl,GY,fun i p hp=>(GX i p hp).ext he⟩) (fun p _=>ai rfl) (by simp<;>omega) (fun v67 L67 lX=>?_)
 rw[List.nil_append] at lX
 obtain⟨Uu,Uo,V4⟩:=lX.form
 subst V4
 refine fJ Wq [[2]]<|aQ 9 (fun adK aeA Wo=>?_)
 obtain⟨amK,amI,aiw⟩:=hI.2.1.form
 subst aiw
 obtain⟨Uv,Up,Ic⟩:=hG.2.1.form
 subst Ic
 refine jd 1 [9]<|fp Wo<|zD 1<|aQ 11 fun adJ aez Wn=>jd 1 [9]<|fp Wn<|zD 1<|aQ 13 fun aBt aCi ayw=>jd 1 [9]<|fp ayw<|zD 1<|bA O5 ⟨_,_,_,_,VI,Xz,(.slice Uu (K.rules).length Uo),L67⟩ ⟨HQ,HP,lX⟩ Nat.zero_lt_one [9,0,1,2,3,4,5,6,7,8] (Sub.refl _)
theorem Vu(hN:Dn ro vd xs):asO zT 4 [vd] ro (fun r Y=>r= .bool true∧Y=[]):=by
 have hN0:=hN
 obtain⟨hl,hxn⟩:=hN
 obtain⟨fC,sG,sE,eO,rfl,ui,lP,mP⟩:=hl
 refine aEP av (by kernel_rfl) [] bp fun fr=>zD 7<|jc (vs:=[.slice fC xs.length eO]) [] (aTp hN0.1) ?_
 rintro _ X16 ⟨d16,rfl,ajl⟩
 refine jcG (vs:=[zP d16,zI 3,zI 2]) [0] (aIj hN0 ajl (by decide) (by decide)) ?_
 rintro _ aH _ bH ⟨K,v0,v1,v3,v4,v5,v6,v7,vb,va,vc,aJd,XA,rfl,hO,u9,hsg,hA7,hb,hf,hkE,rfl,KB⟩
 have aPB:=TV.all (K:=K) ⟨v0,v1,v3,v4,v5,v6,v7,vb,va,vc,rfl,hsg⟩
 obtain⟨j7,Kb,J9,jZ,rfl,Ka,JF,JE⟩:=hb
 obtain⟨jY,Ek,Ej,iP,rfl,LV,wA,wz⟩:=hf
 have aoW:=hO.pF
 have Fp:=hO.before.1
 have MQ:=hO.after.1
 refine jg 0 [.l aJd,.l XA]<|jn (fun b3=>?_)
 obtain⟨va2,vc2,FZ⟩:=hA7.form
 subst FZ
 refine jsx 0 b3 0 zO [v0,v1,.slice va 0 vc,v3,v4,v5,.slice j7 K.before.length jZ,(.slice va2 (K.after).length vc2),zI K.gone,zI K.new,zI K.af,.slice jY K.facts.length iP] 40 aPB rfl<|jd 13 [0]<|dV [1,1,1,0,1,0,0] [] (fun(zz:Nat×Value×Cells×(List ah))=>[(2,.bool false),(3,zP b3),(4,zI (zz.1:Int))]) (fun zz=>[.b b3 (.cells ⟨[v0,zS,.slice va 0 vc,v3,v4,v5,.slice j7 K.before.length jZ,zz.2.1,zI K.gone,zI K.new,zI K.af,.slice jY K.facts.length iP]⟩ 40 (0,0)),.l zz.2.2.1,.l XA,.l fr]) (fun zz=>zz.1≤K.after.length∧ExP K.hd zz.2.2.2 K.after.length zz.1∧ay zz.2.1 5 55 cb zz.2.2.2 zz.2.2.1) (fun zz=>K.after.length-zz.1) (⟨0,_,aJd,K.after⟩) ⟨by dsimp only;omega,ExP.start hO,hA7⟩ (zN 0 4) ?_
 rintro⟨i,vA,LA,A⟩ hA K1 bO rest
 dsimp only at hA
 have hAl:=hA.2.1.len
 refine jd 6 [0]<|yJ hA.2.2<|zD 2<|zJ 26 ((i:Int) <(A.length:Int)) (fun h3=>?_) fun h3=>?_
 ·
  refine jd 9 [0] ?_
  obtain⟨x32,aoD⟩:=zG A i
  refine HC 5 hA.2.2 aoD fun b32 aRW=>zD 1<|mT 1 [1] LA (fun s _ hZ=>bR hA.2.2 aRW hZ aoD)<|zD 2<|zJ 35 (x32.st=0) (fun h4=>?_) fun h4=>?_
  ·
   refine jd 8 [0,0] ?_
   obtain⟨x42,HL⟩:=zG A i
   refine HC 5 hA.2.2 HL fun b42 ayc=>zD 1<|mT 2 [1] LA (fun s _ hZ=>bR hA.2.2 ayc hZ HL)<|zD 1<|ja (1+(Int.tmod x42.no 2)) (by have:=X4 x42.no;omega) ?_
   obtain⟨KU,HK⟩:=zG A i
   refine HC 5 hA.2.2 HK fun b47 ayb=>zD 1<|aQ 13 fun y4 ze wZ=>MC 1 2 [zI (1+(Int.tmod x42.no 2))] (⟨KU.name,KU.st,(1+(Int.tmod x42.no 2)),KU.head,KU.bold⟩:ah) hA.2.2 ayb HK rfl rfl (Nat.le_of_ble_eq_true rfl) fun L6 VU=>fJ wZ []<|zD 3<|ja ((i:Int)+1) (by omega)<|zD 2<|bA bO (⟨i+1,vA,L6,(A.set i (⟨KU.name,KU.st,(1+(Int.tmod x42.no 2)),KU.head,KU.bold⟩:ah))⟩) ⟨by dsimp only;omega,aH5 hA.2.1 aoD HL HK (by assumption),VU⟩ (by dsimp only;omega) [1,0,2,3] (Sub.refl _)
  refine jd 8 [0,0] ?_
  obtain⟨x55,Sk⟩:=zG A i
  refine HC 5 hA.2.2 Sk fun b55 aRO=>zD 1<|mT 2 [1] LA (fun s _ hZ=>bR hA.2.2 aRO hZ Sk)<|zD 1<|ja (2*(Int.tmod x55.no 2)) (by have:=X4 x55.no;omega) ?_
  refine ja (1+(2*(Int.tmod x55.no 2))) (by have:=X4 x55.no;omega) ?_
  obtain⟨x61,aoB⟩:=zG A i
  refine HC 5 hA.2.2 aoB fun b61 aRN=>zD 1<|aQ 14 fun qp qv oV=>MC 1 2 [zI (1+(2*(Int.tmod x55.no 2)))] (⟨x61.name,x61.st,(1+(2*(Int.tmod x55.no 2))),x61.head,x61.bold⟩:ah) hA.2.2 aRN aoB rfl rfl (Nat.le_of_ble_eq_true rfl) fun L9 VX=>fJ oV []<|zD 3<|ja ((i:Int)+1) (by omega)<|zD 2<|bA bO (⟨i+1,vA,L9,(A.set i (⟨x61.name,x61.st,(1+(2*(Int.tmod x55.no 2))),x61.head,x61.bold⟩:ah))⟩) ⟨by dsimp only;omega,aH6 hA.2.1 aoD Sk aoB (by assumption),VX⟩ (by dsimp only;omega) [1,0,2,3] (Sub.refl _)
 refine zD 4<|jf [1] LA (fun aMQ OQ axp=>?_)
 have hil:i=K.after.length:=by omega
 subst hil
 have hAf:=hA.2.2.jL axp
 have hK:=hkE _ OQ _ _ hAf
 obtain⟨qAa,qAb,qAo,qAc,rfl,qAk,qAh,qAl⟩:=hAf
 obtain⟨hO1,hO2⟩:=aH4 hO hA.2.1
 have hC:j6 (vD K A):=hO1.c
 have hV:eR (vD K A):=hO1.v
 have hCr:j6 (gH (vD K A)):=hO2.c
 have hVr:eR (gH (vD K A)):=hO2.v
 have hAl:A.length=K.after.length:=hA.2.1.len
 have hEx:=apH hV (by omega)
 have aGu:=ay9 hEx
 refine jd 1 [0]<|jc (vs:=[.agg ⟨[v0,zS,.slice va 0 vc,v3,v4,v5,.slice j7 K.before.length jZ,.slice qAa A.length qAc,zI K.gone,zI K.new,zI K.af,.slice jY K.facts.length iP]⟩]) [] (aha hK hC) ?_
 rintro _ _ ⟨Ea,D9,D8,D7,D6,aqJ,aqI,aB6,D5,DZ,azY,Z64,rfl,aPD,aF0,aQI,rfl⟩
 have aFy:=TV.all (K:=vD K A) ⟨Ea,D9,D8,D7,D6,aqJ,aqI,aB6,D5,DZ,rfl,aPD⟩
 refine jg 0 [.l azY,.l Z64]<|jn (fun b5=>?_)
 obtain⟨A5,za,tH⟩:=aF0.form
 subst tH
 refine jsx 0 b5 0 zO [Ea,D9,.slice D5 0 DZ,D8,D7,D6,aqJ,aqI,zI K.gone,zI K.new,zI K.af,(.slice A5 (K.facts).length za)] 40 aFy rfl<|zD 2<|yK [1,1,1,1,1,1] [] (fun(zz:Value×Cells×Value×Cells)=>[(2,.bool false),(3,zP b3),(5,zP b5)]) (fun zz=>[.b b5 (.cells ⟨[Ea,D9,.slice D5 0 DZ,D8,D7,D6,zz.1,zz.2.2.1,zI K.new,zI K.gone,zI K.af,(.slice A5 (K.facts).length za)]⟩ 40 (0,0)),.l zz.2.1,.l zz.2.2.2,.l azY,.l Z64,.b b3 (.cells ⟨[v0,zS,.slice va 0 vc,v3,v4,v5,.slice j7 K.before.length jZ,.slice qAa A.length qAc,zI K.gone,zI K.new,zI K.af,.slice jY K.facts.length iP]⟩ 40 (0,0)),.l XA,.l fr]) (fun zz=>ay zz.1 5 55 cb A zz.2.1∧ay zz.2.2.1 5 55 cb K.before zz.2.2.2) ?_ (fun K4 hK4=>?_)
 ·
  rintro⟨vP,LP,vQ,LQ⟩ hJ rest
  dsimp only at hJ
  refine zD 6<|dV [1,1,1,1,1,1,0,1,0,0] [] (fun(zz:Nat×Value×Cells)=>[(2,.bool false),(3,zP b3),(5,zP b5),(6,zI (zz.1:Int))]) (fun zz=>[.b b5 (.cells ⟨[Ea,D9,.slice D5 0 DZ,D8,D7,D6,vP,vQ,zI K.new,zI K.gone,zI K.af,zz.2.1]⟩ 40 (0,0)),.l zz.2.2,.l LP,.l LQ,.l Z64,.b b3 (.cells ⟨[v0,zS,.slice va 0 vc,v3,v4,v5,.slice j7 K.before.length jZ,.slice qAa A.length qAc,zI K.gone,zI K.new,zI K.af,.slice jY K.facts.length iP]⟩ 40 (0,0)),.l XA,.l fr]) (fun zz=>zz.1≤K.facts.length∧ay zz.2.1 3 58 nz (exF K.facts zz.1) zz.2.2) (fun zz=>K.facts.length-zz.1) (⟨0,_,azY⟩) ⟨by dsimp only;omega,by have:=aF0;exact this⟩ [0,3,1,2,4,5,6,7] ?_
  rintro⟨j,vF,LF⟩ hF K5 hK5 rest
  dsimp only at hF
  have hFl:=apJ (fs:=K.facts) (i:=j)
  refine jd 6 [0]<|yJ hF.2<|zD 2<|zJ 83 ((j:Int) <((exF K.facts j).length:Int)) (fun Ft=>?_) fun Ft=>?_
  ·
   refine jd 11 [0,5] ?_
   obtain⟨x92,ahk⟩:=zG K.facts j
   refine iz iP 3 wA ahk<|zD 1<|jl 1 ((wz _ _ ahk).ext (oD OQ))<|jd 3 [5] ?_
   obtain⟨x98,awa⟩:=zG K.facts j
   refine iz iP 3 wA awa<|zD 1<|jl 0 ((wz _ _ awa).ext (oD OQ))<|jd 3 [5] ?_
   obtain⟨as0,ahu⟩:=zG K.facts j
   refine iz iP 3 wA ahu<|zD 1<|jl 2 ((wz _ _ ahu).ext (oD OQ))<|jp (vs:=[zI x92.b,zI x98.a,.bool as0.same]) [] [] (fun aH hs hZ=>azt) ?_
   obtain⟨aXS,arG⟩:=zG ((exF K.facts j)) j (by first|omega| (simp only[List.length_set,zM];omega))
   refine HC 3 hF.2 arG fun bc5 aHj=>aQ 23 fun aaM aaY Wm=>MC 1 0 [zI x92.b,zI x98.a,.bool as0.same] (⟨x92.b,x98.a,as0.same⟩:bZ) hF.2 aHj arG rfl rfl (Nat.le_of_ble_eq_true rfl) fun L17 Sv=>fp Wm<|zD 3<|ja ((j:Int)+1) (by omega)<|zD 2<|bA hK5 (⟨j+1,vF,L17⟩) ⟨by dsimp only;omega,by have:=Sv;rwa[akj ahk awa ahu] at this⟩ (by dsimp only;omega) [1,0,2,3,4,5,6,7] (Sub.refl _)
  refine jd 5 [5]<|P7 (vs:=[.agg ⟨[v0,zS,.slice va 0 vc,v3,v4,v5,.slice j7 K.before.length jZ,.slice qAa A.length qAc,zI K.gone,zI K.new,zI K.af,.slice jY K.facts.length iP]⟩]) [] (fun _ _ h=>h) (HB (K:=vD K A) hK hC hV) ?_
  rintro _ _ ⟨rfl,rfl⟩
  refine jg 0 []<|zD 5<|jf (zN 1 4) (LF++(LP++(LQ++Z64))) (fun aC2 ab7 ach=>?_)
  have hjl:j=K.facts.length:=by omega
  subst hjl
  have hFt:=hF.2
  rw[apK] at hFt
  have hKr:fP aC2 _ (gH (vD K A)):=aQI _ ab7 (Knows.right (Knows.right (Knows.right ach))) _ _ _ _ _ _ K.new K.gone (hJ.1.jL (Knows.left (Knows.right ach))) (hJ.2.jL (Knows.left (Knows.right (Knows.right ach)))) (hFt.jL (Knows.left ach))
  replace hK:=hK.up ab7
  refine jd 4 [0]<|P7 (vs:=[.agg ⟨[Ea,D9,.slice D5 0 DZ,D8,D7,D6,vP,vQ,zI K.new,zI K.gone,zI K.af,vF]⟩]) [] (fun _ _ h=>h) (HB (K:=gH (vD K A)) hKr hCr hVr) ?_
  rintro _ _ ⟨rfl,rfl⟩
  refine jg 0 []<|zD 21<|js 129 (!decide ((bF (vD K A):Int)=(bF (gH (vD K A)):Int))) (fun AW=>?_) (fun AW=>?_)
  ·
   replace AW:=of_decide_eq_false (by simpa using AW)
   exfalso;omega
  replace AW:=of_decide_eq_true (by simpa using AW)
  refine zD 8<|dV [1,1,1,1,1,1,1,1,1,1,0,1,0,0] [] (fun(zz:Nat)=>[(3,zP b3),(5,zP b5),(7,zI (bF (vD K A):Int)),(11,zI (zz:Int))]) (fun zz=>[.b b5 (.cells ⟨[Ea,D9,.slice D5 0 DZ,D8,D7,D6,vP,vQ,zI K.new,zI K.gone,zI K.af,vF]⟩ 40 (0,0)),.b b3 (.cells ⟨[v0,zS,.slice va 0 vc,v3,v4,v5,.slice j7 K.before.length jZ,.slice qAa A.length qAc,zI K.gone,zI K.new,zI K.af,.slice jY K.facts.length iP]⟩ 40 (0,0)),.l XA,.l fr]) (fun zz=>zz≤K.before.length) (fun zz=>K.before.length-zz) 0 (by omega) (zN 0 4) ?_
  rintro p hPp K7 Qh rest
  refine jd 9 [1]<|zJ 134 ((p:Int) <(K.before.length:Int)) (fun vN=>?_) fun vN=>?_
  ·
   refine zD 9<|dV [1,1,1,1,1,1,1,1,1,1,0,1,0,0,1,0,0,1,0,0] [K7] (fun(zz:Nat)=>[(3,zP b3),(5,zP b5),(7,zI (bF (vD K A):Int)),(11,zI (p:Int)),(12,zI (zz:Int))]) (fun zz=>[.b b5 (.cells ⟨[Ea,D9,.slice D5 0 DZ,D8,D7,D6,vP,vQ,zI K.new,zI K.gone,zI K.af,vF]⟩ 40 (0,0)),.b b3 (.cells ⟨[v0,zS,.slice va 0 vc,v3,v4,v5,.slice j7 K.before.length jZ,.slice qAa A.length qAc,zI K.gone,zI K.new,zI K.af,.slice jY K.facts.length iP]⟩ 40 (0,0)),.l XA,.l fr]) (fun zz=>zz≤A.length) (fun zz=>A.length-zz) 0 (by omega) (zN 0 4) ?_
   rintro q hQq K8 Ue rest
   refine jd 9 [1]<|zJ 141 ((q:Int) <(A.length:Int)) (fun ZY=>?_) fun ZY=>?_
   ·
    refine jd 9 [1]<|P7 (vs:=[.agg ⟨[v0,zS,.slice va 0 vc,v3,v4,v5,.slice j7 K.before.length jZ,.slice qAa A.length qAc,zI K.gone,zI K.new,zI K.af,.slice jY K.facts.length iP]⟩,zI (p:Int),zI (q:Int)]) [] (fun _ _ h=>h) (Sa (a:=p) (b:=q) hK hV (mN hC) (xD hK hC hV) B1 (by show p <K.before.length;omega) (by show q <A.length;omega)) ?_
    rintro _ _ ⟨zV,vV,eV,hzV,rfl,rfl,hpV⟩
    refine jg 0 []<|jd 11 [0]<|P7 (vs:=[.agg ⟨[Ea,D9,.slice D5 0 DZ,D8,D7,D6,vP,vQ,zI K.new,zI K.gone,zI K.af,vF]⟩,zI (q:Int),zI (p:Int)]) [] (fun _ _ h=>h) (Sa (a:=q) (b:=p) hKr hVr (mN hCr) (xD hKr hCr hVr) B1 (by show q <A.length;omega) (by show p <K.before.length;omega)) ?_
    rintro _ _ ⟨zW,vW,eW,hzW,rfl,rfl,hpW⟩
    refine jg 0 []<|zD 7 ?_
    have hvw:=apG aGu.1 (aGu.2 p q (by omega) (by omega)) hzV hzW hpV hpW
    refine zD 5<|js 161 (!decide (vV=vW)) (fun h25=>?_) (fun h25=>?_)
    ·
     have ajE:=h25
     replace ajE:=of_decide_eq_false (by simpa using ajE)
     exfalso;omega
    have ajE:=h25
    replace ajE:=of_decide_eq_true (by simpa using ajE)
    refine zD 5<|js 166 (!decide (eV=eW)) (fun SY=>?_) (fun SY=>?_)
    ·
     have Iv:=SY
     replace Iv:=of_decide_eq_false (by simpa using Iv)
     exfalso;omega
    have Iv:=SY
    replace Iv:=of_decide_eq_true (by simpa using Iv)
    refine zD 7<|js 173 (!((decide (eV=0))==(decide ((bF (vD K A):Int)>0)))) (fun ZX=>?_) (fun ZX=>?_)
    ·
     have KC:=ZX
     try simp only[zB] at KC
     exfalso;have hd:decide (eV=0)=decide ((bF (vD K A):Int)>0):=decide_eq_decide.2 (by omega);simp[hd] at KC
    have KC:=ZX
    try simp only[zB] at KC
    refine zD 3<|js 176 (!decide (eV=0)) (fun SX=>?_) (fun SX=>?_)
    ·
     have Iu:=SX
     replace Iu:=of_decide_eq_false (by simpa using Iu)
     refine zD 5<|js 180 (!decide (eV=9)) (fun h29=>?_) (fun h29=>?_)
     ·
      replace h29:=of_decide_eq_false (by simpa using h29)
      exfalso;omega
     replace h29:=of_decide_eq_true (by simpa using h29)
     refine zD 4<|ja ((q:Int)+1) (by omega)<|zD 2<|bA Ue (q+1) (by omega) (by omega) (zN 0 4) (Sub.refl _)
    have Iu:=SX
    replace Iu:=of_decide_eq_true (by simpa using Iu)
    refine zD 9<|ja ((q:Int)+1) (by omega)<|zD 2<|bA Ue (q+1) (by omega) (by omega) (zN 0 4) (Sub.refl _)
   refine zD 4<|ja ((p:Int)+1) (by omega)<|zD 2<|bA Qh (p+1) (by omega) (by omega) (zN 0 4) (Sub.refl _)
  refine zD 4<|P7 [] (fun _ _ h=>h) (am8) ?_
  rintro _ _ ⟨rfl,rfl⟩
  refine jg 0 []<|zD 3<|Vz qC.a.a.a (.bool true) [3] [] ((bH.trans OQ).trans ab7) ⟨rfl,rfl⟩
 refine jd 9 [3,3,3,3]<|aQ 2 fun Uk Uy SQ=>jc (vs:=[.slice qAa A.length qAc]) [] (fI (show bD _ _ _ _ _ from ⟨qAa,qAb,qAo,qAc,rfl,qAk,qAh,qAl⟩) (by omega)) ?_
 rintro v67 L67 ⟨_,aFZ,rfl⟩
 refine eo SQ (zN 1 6)<|zD 1<|aQ 5 fun DW Ef uO=>jc (vs:=[.slice j7 K.before.length jZ]) [] (fI ((show bD _ _ _ _ _ from ⟨j7,Kb,J9,jZ,rfl,Ka,JF,JE⟩).up OQ) (by omega)) ?_
 rintro v70 L70 ⟨_,aFY,rfl⟩
 refine eo uO (zN 1 7)<|aQ 11 (fun DV Ee xa=>?_)
 obtain⟨atD,ato,axK⟩:=aFZ.form
 subst axK
 refine jd 1 [2]<|fJ xa [[5],[5]]<|zD 1<|aQ 13 (fun Gc GA w9=>?_)
 obtain⟨aL1,aLI,aRc⟩:=aFY.form
 subst aRc
 refine jd 1 [2]<|fJ w9 [[5],[5]]<|zD 1<|aQ 15 fun aqz aqS O4=>jd 1 [2]<|fJ O4 [[5]]<|zD 1<|aQ 17 fun aBF aCu ayF=>jd 1 [2]<|fp ayF<|zD 1<|bA hK4 ⟨(.slice atD (A).length ato),L67,(.slice aL1 (K.before).length aLI),L70⟩ ⟨aFZ,aFY⟩ Nat.zero_lt_one [2,1,0,3,4,5,6,7] (Sub.refl _)
theorem Hv(W:World)(hN:Dn (fun b=>W.heap[b]?) vd xs) {Post:Value→World→Prop}
 (SP:∀w:World,(∀(b:Nat) (o:Obj),W.heap[b]?=some o→w.heap[b]?=some o)→w.os=W.os→w.output=W.output→Post (.bool true) w):
 ∃N last o w' t',runNT zT (N+1) (solo (G (Frame.enter zT 4 ⟨[vd]⟩ .normal) []) W) #[]=(.ended o w',t')∧runN zT N (solo (G (Frame.enter zT 4 ⟨[vd]⟩ .normal) []) W)= .next last∧step zT last= .ended o w'∧Good zT Post last o w' t':=by
 have ha:aS ⟨fun b=>W.heap[b]?,[]⟩ W:=⟨fun _ _ h=>h,(fun _ _ h=>(by cases h)),by simp,(fun _ _ h=>(by cases h))⟩
 exact aeM ha (Vu hN _ _ _ fun v Y w qH p6 tV Fi=>by
  obtain⟨rfl,rfl⟩:=qH
  exact SP w (fun b o hb=>p6.ro b o hb) tV Fi)
end Go.L

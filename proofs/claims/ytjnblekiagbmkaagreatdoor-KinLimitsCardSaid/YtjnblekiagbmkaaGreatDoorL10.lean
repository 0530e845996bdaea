/- Part 10 of the proof: a program logic, contracts, a theorem on goroutines. -/
import Derived.Test.YtjnblekiagbmkaaGreatDoorL9
set_option maxRecDepth 100000
set_option linter.all false
namespace Go.L
open Go Go.Conc
open Go.ConcR (KK wgBlock WgAt stA smA rd wr)
variable {f:FuncId} {Φ:Value→Cells→Prop} {todo seen:List Nat} {P:Program} {oZ:Nat→Option Obj} {R:Ending→St→Prop} {args ca vs:List Value} {T:Goroutine→St→Prop} {o:Option JS} {k yS:List Item} {ats:Array TypeId} {i n id ck q r bd bl it:Nat} {fn:Func} {x y:Operand} {X:Cx} {U:TypeId} {cs:List Frame} {κ:Type} {main:Bool} {body:Code}
def TT(T:Goroutine→St→Prop)(b:Frame)(yS:List Item)(cs:List Frame)(n:Nat)(D:List Deferred)(ro:Nat→Option Obj)(o:Option JS):Prop:=
 ∀e w kn,o=some ⟨.fin .normal,e,w,kn⟩→Knows ro kn.c→T (G (aI b (A n e D) yS) cs) ⟨ro,den w⟩
def CT(hm:P.follows .mixedOrders=true)(hT:Closed P main T)(b:Frame)(yS:List Item)(cs:List Frame)(n:Nat)(D:List Deferred)(ro:Nat→Option Obj):Cx:=
 ⟨P,fun m T'=>m=main∧T'=T,by rintro _ _ ⟨rfl,rfl⟩;exact hT,hm,b.fn,none,n,D,ro,jU T b yS cs⟩
def S0:Option JS→Bool
 |some ⟨.fin .normal,_,_,_⟩=>true
 |_=>false
def opO(ops:Array Oper)(todo:List Nat):Option JS→Option JS
 |some ⟨.fin .normal,e,w,kn⟩=>some ⟨.ops ops todo [],e,w,⟨kn.c,[]⟩⟩
 |_=>none
def cdO(c:Code):Option JS→Option JS
 |some ⟨.fin .normal,e,w,kn⟩=>some ⟨.code c [],e,w,⟨kn.c,[]⟩⟩
 |_=>none
def YU(dst:Option Tmp)(v:Value):Option JS→Option JS
 |some ⟨p,e,w,kn⟩=>some ⟨p,upd dst v e,w,kn⟩
 |none=>none
def nwO(dst:Option Tmp)(v:Value)(q:Nat)(ob:Obj):Option JS→Option JS
 |some ⟨p,e,w,kn⟩=>some ⟨p,upd dst v e,.b q ob::w,kn⟩
 |none=>none
def adO(L:Cells):Option JS→Option JS
 |some ⟨p,e,w,kn⟩=>some ⟨p,e,.l L::w,kn⟩
 |none=>none
def evO(n:Nat)(x:Operand):Option JS→Option Value
 |some ⟨_,e,_,_⟩=>a8 n e x
 |none=>none
def aSp(n:Nat)(xs:List Operand):Option JS→Option (List Value)
 |some ⟨_,e,_,_⟩=>xD n e xs
 |none=>none
def vaO(P:Program)(n:Nat)(a:Oper):Option JS→Option Value
 |some ⟨_,e,_,_⟩=>ZQ P n e a
 |none=>none
theorem Yk(h:S0 o=true):∃e w kn,o=some ⟨.fin .normal,e,w,kn⟩:=by
 unfold S0 at h
 split at h
 ·exact⟨_,_,_,rfl⟩
 ·cases h
def Yh(f:FuncId)(k:CallKind):Frame:={(default:Frame) with fn:=f,kind:=k,roundOf:=none}
section
variable {P:Program} {main:Bool} {T:Goroutine→St→Prop} {b:Frame} {yS:List Item} {cs:List Frame} {n:Nat} {D:List Deferred} {ro:Nat→Option Obj} {o:Option JS} {ops:Array Oper}
theorem aaj(h:TT T b yS cs n D ro o)(hQ:X.Q=jU T b yS cs)(hn:X.n=n)(hD:X.D=D)(zw:X.ro=ro)(h1:S0 o=true):J X o:=by
 subst hn hD zw
 obtain⟨e,w,kn,rfl⟩:=Yk h1
 intro bO
 show X.Q .normal _ _
 rw[hQ]
 exact h _ _ _ rfl bO
theorem xq{hm:P.follows .mixedOrders=true}{hT:Closed P main T}(h:TT T b yS cs n D ro o)(h1:S0 o=true:=by kernel_rfl):J (CT hm hT b yS cs n D ro) o:=aaj h rfl rfl rfl rfl h1
theorem aw5{hm:P.follows .mixedOrders=true}{hT:Closed P main T}(h:TT T b yS cs n D ro o)(h1:S0 o=true:=by kernel_rfl):J ((CT hm hT b yS cs n D oZ).at ro) o:=aaj h rfl rfl rfl rfl h1
theorem aw4{hm:P.follows .mixedOrders=true}{hT:Closed P main T}(h:TT T b yS cs n (ek bd::D) ro o)(h1:S0 o=true:=by kernel_rfl):J ((CT hm hT b yS cs n D ro).dm bd) o:=aaj h rfl rfl rfl rfl h1
theorem u9(hm:P.follows .mixedOrders=true)(hT:Closed P main T)(hj:J (CT hm hT b yS cs n D ro) (opO ops todo o))(hk:b.kind≠ .early:=by decide)(hr:b.roundOf=none:=by rfl):TT T b (.inRegion ops todo::yS) cs n D ro o:=by
 rintro e w kn rfl bO
 exact hj bO main T ⟨rfl,rfl⟩ b yS cs rfl hk hr fun e a s q=>q
theorem aw6(hm:P.follows .mixedOrders=true)(hT:Closed P main T){c:Code}(hj:J (CT hm hT b yS cs n D ro) (cdO c o))(hk:b.kind≠ .early:=by decide)(hr:b.roundOf=none:=by rfl):TT T b (.code c::yS) cs n D ro o:=by
 rintro e w kn rfl bO
 exact hj bO main T ⟨rfl,rfl⟩ b yS cs rfl hk hr fun e a s q=>q
theorem tSt(hT:Closed P main T)(ef:Env)(wf:List Sg)(ps:List Nat)(h:∀rest,TT T b yS cs n D ro (some ⟨.fin .normal,ef++rest,wf,⟨[],[]⟩⟩))(h1:uz (oU ef) o=some ef:=by kernel_rfl)(h2:qP ps o=some wf:=by kernel_rfl)(h3:Y1 (oU ef) ef=some ef:=by kernel_rfl):TT T b yS cs n D ro o:=by
 rintro e w kn rfl bO
 obtain⟨rest,he⟩:=gx (n:=n) (D:=D) (kJ (by rw[sM] at h1;exact h1)) (kJ h3)
 rw[he]
 exact hT.mono _ ⟨ro,den wf⟩ _ (dP (lM h2) (Sub.refl _)) (h rest _ _ _ rfl fun _ h=>(by cases h))
section
variable {k:List Item} {rest l:List Code} (hT:Closed P main T)
include hT
theorem pP(hl:gQ l= .region id ops false::rest)(h:∀l',gQ l'=rest→TT T b (.inRegion ops (List.range ops.size)::(l'.map .code++k)) cs n D ro o):TT T b (l.map .code++k) cs n D ro o:=
 fun e w kn ho bO=>dI hT hl fun l' yA=>h l' yA e w kn ho bO
theorem T5{c:Operand}{x y:Code}{t q:Bool}(hl:gQ l= .cond c x y::rest)(hq:q=t)(h:∀l',gQ l'=rest→TT T b (.code (if t then x else y)::(l'.map .code++k)) cs n D ro o)(hc:evO n c o=some (.bool q):=by kernel_rfl):TT T b (l.map .code++k) cs n D ro o:=by
 subst hq
 rintro e w kn rfl bO
 exact zm hT hl (by rw[ep];exact aC hc) fun l' yA=>h l' yA e w kn rfl bO
theorem JJ{c:Code}(hl:gQ l= .block id c::rest)(h:∀l',gQ l'=rest→TT T b ([c].map .code++(.inBlock id::(l'.map .code++k))) cs n D ro o):TT T b (l.map .code++k) cs n D ro o:=
 fun e w kn ho bO=>vw hT hl fun l' yA=>h l' yA e w kn ho bO
theorem alW{c:Code}(hl:gQ l= .loop c::rest)(h:∀l',gQ l'=rest→TT T b ([c].map .code++(.inLoop c::(l'.map .code++k))) cs n D ro o):TT T b (l.map .code++k) cs n D ro o:=
 fun e w kn ho bO=>Ko hT hl fun l' yA=>h l' yA e w kn ho bO
theorem alX{c:Code}(hl:gQ l=c::rest)(h:∀l',gQ l'=rest→TT T b (.code c::(l'.map .code++k)) cs n D ro o):TT T b (l.map .code++k) cs n D ro o:=
 fun e w kn ho bO=>nI hT hl fun l' yA=>h l' yA e w kn ho bO
theorem alU(h:TT T b k cs n D ro o):TT T b (.code .skip::k) cs n D ro o:=fun e w kn ho bO=>LG hT (h e w kn ho bO)
theorem alY{k':List Item}(hk:exitTo id k=some k')(h:TT T b k' cs n D ro o):TT T b (.code (.exit id)::k) cs n D ro o:=fun e w kn ho bO=>LI hT hk (h e w kn ho bO)
theorem alZ(h:TT T b k cs n D ro o):TT T b (.inBlock id::k) cs n D ro o:=fun e w kn ho bO=>BW hT (h e w kn ho bO)
theorem T4(h:TT T b k cs n D ro o):TT T b (.inRegion ops []::k) cs n D ro o:=fun e w kn ho bO=>iv hT (h e w kn ho bO)
theorem aak{c:Code}(h:TT T b ([c].map .code++(.inLoop c::k)) cs n D ro o):TT T b (.inLoop c::k) cs n D ro o:=fun e w kn ho bO=>yN hT (h e w kn ho bO)
theorem aw0{a:Oper}{f:Nat→Value}{ob:Obj}(ho:ops[i]?=some a) (hg:a.guard=none) (sQ:∀e q,Rt P (execOp (ev n e) a) q=some (ob,f q)) (hk:b.kind≠ .early) (hr:b.roundOf=none)
 (h:∀q,TT T b (.inRegion ops todo::k) cs n D ro (nwO a.dst (f q) q ob o)):TT T b (.inRegion ops (i::todo)::k) cs n D ro o:=by
 rintro e w kn rfl bO
 refine sH hT ho (db _ _ hg) hk hr ?_
 rw[ep]
 refine Fc (f:=f) (fun q _=>⟨_,rfl,?_⟩) _ (sQ e)
 rw[aU]
 have:=h q _ _ _ rfl bO
 rw[iJ] at this
 exact this
theorem awX{a:Oper}(v:Value)(ho:ops[i]?=some a) (hg:a.guard=none) (hk:b.kind≠ .early) (hr:b.roundOf=none) (h:TT T b (.inRegion ops todo::k) cs n D ro (YU a.dst v o)) (hv:vaO P n a o=some v:=by kernel_rfl):TT T b (.inRegion ops (i::todo)::k) cs n D ro o:=by
 rintro e w kn rfl bO
 refine sH hT ho (db _ _ hg) hk hr ?_
 rw[ep]
 refine y9 hv _ (Ext.refl _) _ (fun _ _ h=>aC h) _ _ ⟨v,rfl,?_⟩
 rw[aU]
 exact h _ _ _ rfl bO
theorem tLd{a:Oper}(v:Value)(ho:ops[i]?=some a) (hg:a.guard=none) (aw:a.op= .load U x) (ht:(aV P U).map (·.agg)=some false) (hk:b.kind≠ .early) (hr:b.roundOf=none) {fz:Nat×Nat} {t:TypeId} (hb:∀e w kn,o=some ⟨.fin .normal,e,w,kn⟩→(⟨ro,den w⟩:St).has q (.cells ⟨[v]⟩ t fz))
 (h:TT T b (.inRegion ops todo::k) cs n D ro (YU a.dst v o)) (hx:evO n x o=some (.pointer (some ⟨q,0,none⟩)):=by kernel_rfl):TT T b (.inRegion ops (i::todo)::k) cs n D ro o:=by
 rintro e w kn rfl bO
 refine sH hT ho (db _ _ hg) hk hr ?_
 rw[ep]
 cases dQ:aV P U with
 |none=>rw[dQ] at ht;cases ht
 |some z=>
 rw[dQ] at ht
 simp only[Option.map_some,Option.some.injEq] at ht
 obtain⟨bu,tf⟩:=an dQ
 rw[ht] at tf
 simp only[execOp,aw,Instr.loadAt,aC hx,Instr.sureAddr,loadVar,aa,ae,kF tf,Bool.false_eq_true,if_false]
 refine u7 ⟨[v],t,fz,hb _ _ _ rfl,rfl⟩ ⟨v,rfl,?_⟩
 rw[aU]
 exact h _ _ _ rfl bO
theorem aK4{a:Oper}(v:Value)(ho:ops[i]?=some a) (hg:a.guard=none) (aw:a.op= .load U x) (ht:(aV P U).map (·.agg)=some false) (hk:b.kind≠ .early) (hr:b.roundOf=none) (ps:List Nat) (t:TypeId)
 (h:TT T b (.inRegion ops todo::k) cs n D ro (YU a.dst v o)) (hx:evO n x o=some (.pointer (some ⟨q,0,none⟩)):=by kernel_rfl) (hd:dY ps o=some [(q,.cells ⟨[v]⟩ t (0,0))]:=by kernel_rfl):TT T b (.inRegion ops (i::todo)::k) cs n D ro o:=
 tLd hT v ho hg aw ht hk hr (fz:=(0,0)) (t:=t) (q:=q) (fun e w kn he=>by
  subst he
  exact .inr ((bB hd).mem_iff.2 (List.mem_append_left _ (List.mem_singleton.2 rfl)))) h hx
end
theorem aoF(hT:Closed P main T){a:Oper}{xs:Array Operand}(ho:ops[i]?=some a) (hg:a.guard=none) (aw:a.op= .defer ⟨.value (.func f),xs,ats⟩) (hk:b.kind≠ .early) (hr:b.roundOf=none)
 (h:TT T b k cs n ({target:= .fn (.func f) ⟨[]⟩,args:=⟨vs⟩}::D) ro (YU a.dst undef o)) (hx:aSp n xs.toList o=some vs:=by kernel_rfl):TT T b (.inRegion ops [i]::k) cs n D ro o:=by
 rintro e w kn rfl bO
 have hC:∀m T',(fun m T'=>m=main∧T'=T:Class) m T'→Closed P m T':=by rintro _ _ ⟨rfl,rfl⟩;exact hT
 have key:ab (fun m T'=>m=main∧T'=T) b.fn none ops [i] (jU T b k cs) (A n e D) ⟨ro,den w⟩:=by
  refine Km (P:=P) hC ho (db _ _ hg) (.inl rfl) ?_
  rw[ep]
  have e1:ev n e (.func f)= .func (.func f) #[] #[]:=rfl
  have e2:xs.map (ev n e)=⟨vs⟩:=rR hx
  simp only[execOp,aw,resolve,e1,Deferred.ofValue,ae,e2]
  refine⟨rfl,?_⟩
  have hA:({A n e D with defers:={target:= .fn (.func f) ⟨[]⟩,args:=⟨vs⟩}::(A n e D).defers}:Act).put a.dst undef=A n (upd a.dst undef e) ({target:= .fn (.func f) ⟨[]⟩,args:=⟨vs⟩}::D):=by
   rw[←aU];rfl
  have he:(⟨[]⟩:Array Value)++(⟨vs⟩:Array Value)=⟨vs⟩:=by simp
  rw[he]
  have:=h _ _ _ rfl bO
  rw[←hA] at this
  exact fun m T' hc b' k' Hh h1 h2 h3 h4=>by
   obtain⟨rfl,rfl⟩:=hc
   exact iv hT (h4 .normal _ _ this)
 exact key main T ⟨rfl,rfl⟩ b k cs rfl hk hr fun e a s q=>q
end
attribute [irreducible] S0 opO cdO
structure agG(L:Nat→Option Obj)(X:Cells)(ro aL:Nat→Option Obj):Prop where
 of:∀q o,L q=some o→(q,o)∈X
 on:∀q o,(q,o)∈X→L q=some o
 sub:Sub ro aL
 kn:Knows aL X
 nd:(X.map (·.1)).Nodup
 ap:∀q o,(q,o)∈X→ro q=none
def bkO(L:Cells):Option JS→Option JS
 |some ⟨p,e,w,_⟩=>some ⟨p,e,.l L::w,⟨[],[]⟩⟩
 |none=>none
def QX(ps:List Nat):Option JS→Option Cells
 |some ⟨_,_,w,_⟩=>some (den (dA ps 0 w))
 |none=>none
def UU:Option JS→Option JS
 |some ⟨p,e,_,kn⟩=>some ⟨p,e,[],⟨kn.c,[]⟩⟩
 |none=>none
theorem B0:∀(w:List Sg) (k:Nat),dA [] k w=w
 | [],_=>rfl
 |x::w,k=>by
  simp only[dA,aX]
  rw[B0 w]
  rfl
theorem agG.back{L:Nat→Option Obj}{X:Cells}{ro aL roK:Nat→Option Obj}{rwK:Cells}(h:agG L X ro aL)(hs:Sub aL roK):
 (∀w,aP ⟨roK,rwK⟩ w→(∀b o,L b=some o→w.heap[b]?=some o)→aP ⟨ro,X++rwK⟩ w)∧∀b,(⟨ro,X++rwK⟩:St).knows b→L b≠none∨(⟨roK,rwK⟩:St).knows b:=by
 refine⟨fun w hw hL=>⟨fun q o hq=>hw.ro q o (hs _ _ (h.sub _ _ hq)),fun q o hq=>?_,?_,fun q o hq=>?_⟩,fun q hq=>?_⟩
 ·rcases List.mem_append.1 hq with hq|hq
  ·exact hL q o (h.on q o hq)
  ·exact hw.rw q o hq
 ·show ((X++rwK).map (·.1)).Nodup
  rw[List.map_append,List.nodup_append]
  refine⟨h.nd,hw.nodup,fun q hq q' G5 e=>?_⟩
  subst e
  obtain⟨⟨q1,o1⟩,h1,rfl⟩:=List.mem_map.1 hq
  obtain⟨⟨q2,o2⟩,h2,e2⟩:=List.mem_map.1 G5
  simp only at e2
  subst e2
  have h3:=hs _ _ (h.kn _ h1)
  have h4:=hw.apart _ _ h2
  dsimp only at h3 h4
  rw[h4] at h3
  cases h3
 ·show ro q=none
  rcases List.mem_append.1 hq with hq|hq
  ·exact h.ap q o hq
  ·have h2:roK q=none:=hw.apart q o hq
   cases hr:ro q with
   |none=>rfl
   |some o'=>rw[hs _ _ (h.sub _ _ hr)] at h2;cases h2
 ·rcases hq with hq| ⟨o,hq⟩
  ·have hq:ro q≠none:=hq
   cases hr:ro q with
   |none=>exact absurd hr hq
   |some o'=>exact .inr (.inl (by show roK q≠none;rw[hs _ _ (h.sub _ _ hr)];simp))
  ·rcases List.mem_append.1 hq with h'|h'
   ·exact .inl (by rw[h.on q o h'];simp)
   ·exact .inr (.inr ⟨o,h'⟩)
section
variable {ι:Type} {E:dV ι} {Q:Machine→Outcome→World→Trace→Prop} {b:Frame} {yS:List Item} {cs:List Frame} {n:Nat} {D:List Deferred} {ro:Nat→Option Obj} {o:Option JS} {ops:Array Oper} {L:Nat→Option Obj}
theorem aoE{tm:Bool}(iw ic:Nat)(X:Cells)(iO:Closed E.P true (TL E.P eC (fun _=>none) (Calm E.os E.out) Q))
 (h:∀L aL,agG L X ro aL→E.Wg≠E.Ch→L E.Ch=none→TT (TM E L Q 0 false [] 0) b yS cs n D aL (UU o))
 (hW:dY [iw,ic] o=some [(E.Wg,wgBlock E.ty 0 0),(E.Ch,.chan 0 #[] false 0 0 tm)]:=by kernel_rfl)(hX:QX [iw,ic] o=some X:=by kernel_rfl):TT (TL E.P eC (fun _=>none) (Calm E.os E.out) Q) b yS cs n D ro o:=by
 rintro e w kn rfl bO
 refine Closed.jQ iO rfl fun⟨w0,Vf⟩=>?_
 have hp:=bB hW
 simp only[QX,Option.some.injEq] at hX
 have Qc:=hp
 dsimp only at Qc
 rw[hX] at Qc
 have hm:∀x,x∈den w↔x=(E.Wg,wgBlock E.ty 0 0)∨x=(E.Ch,.chan 0 #[] false 0 0 tm)∨x∈X:=fun x=>by
  rw[Qc.mem_iff]
  simp
 have ma:=(Qc.map (·.1)).nodup_iff.1 Vf.nodup
 simp only[List.cons_append,List.nil_append,List.map_cons,List.nodup_cons,List.mem_cons,not_or] at ma
 obtain⟨⟨ee,hW1⟩,hC1,OC⟩:=ma
 have yX:∀x∈X,x∈den w:=fun x hx=>(hm x).2 (.inr (.inr hx))
 have aBq:(E.Wg,wgBlock E.ty 0 0)∈den w:=(hm _).2 (.inl rfl)
 have aeK:(E.Ch,Obj.chan 0 #[] false 0 0 tm)∈den w:=(hm _).2 (.inr (.inl rfl))
 have KU:∀y∈X,y.1≠E.Wg∧y.1≠E.Ch:=fun y hy=>⟨fun e=>hW1 (e▸List.mem_map.2 ⟨_,hy,rfl⟩),fun e=>hC1 (e▸List.mem_map.2 ⟨_,hy,rfl⟩)⟩
 let L:Nat→Option Obj:=fun q=>(X.find? fun y=>y.1==q).map (·.2)
 have SE:∀q o,L q=some o→(q,o)∈X:=fun q o hq=>by
  obtain⟨y,hy,rfl⟩:=Option.map_eq_some_iff.1 hq
  obtain⟨h1,h2⟩:=ov hy
  subst h2
  exact h1
 have aRd:∀q o,(q,o)∈X→L q=some o:=fun q o hq=>by
  show (X.find? fun y=>y.1==q).map (·.2)=some o
  rw[vZ OC hq];rfl
 have SF:L E.Ch=none:=by
  cases hq:L E.Ch with
  |none=>rfl
  |some o=>exact absurd rfl (KU _ (SE _ _ hq)).2
 have mJ:∀q o,(q,o)∈X→ro q=none:=fun q o hq=>Vf.apart q o (yX _ hq)
 have fM:Sub ro (St.freeze ⟨ro,X⟩).ro:=fun q o hq=>St.nG (s:=⟨ro,X⟩) hq fun q o hq=>mJ q o hq
 have adR:∀q,(∃o,(q,o)∈den w)→(q=E.Wg∨q=E.Ch)→¬(St.freeze ⟨ro,X⟩).knows q:=by
  rintro q ⟨o,ho⟩ hq (hk| ⟨o',D5⟩)
  ·simp only[St.freeze] at hk
   split at hk
   ·rename_i y hy
    obtain⟨h1,h2⟩:=ov hy
    have:=KU _ h1
    rcases hq with e|e
    ·exact this.1 (h2.trans e)
    ·exact this.2 (h2.trans e)
   ·exact hk (Vf.apart q o ho)
  ·cases D5
 have aAu:agG L X ro (St.freeze ⟨ro,X⟩).ro:=⟨SE,aRd,fM,fun x hx=>St.sV (s:=⟨ro,X⟩) (by rcases x with ⟨q,o⟩;exact hx) OC,OC,mJ⟩
 refine MY (E:=E) (L:=L) (s':=St.freeze ⟨ro,X⟩) rfl ee aBq ⟨tm,aeK⟩ ?_ (adR _ ⟨_,aBq⟩ (.inl rfl)) (adR _ ⟨_,aeK⟩ (.inr rfl)) (fun q ⟨o,ho⟩=>by cases ho) (fun q o hq=>⟨.inr (yX _ (SE _ _ hq)),KU _ (SE _ _ hq)⟩) ?_
 ·refine⟨den w,by simp[St.freeze],fun q o hq=>?_⟩
  simp only[St.freeze] at hq
  split at hq
  ·rename_i y hy
   obtain⟨h1,h2⟩:=ov hy
   cases hq
   subst h2
   exact .inr (yX _ h1)
  ·exact .inl hq
 ·exact(h L _ aAu ee SF _ _ _ rfl (bO.up fM)).1
theorem aK7{os:List ι}{a:Oper}{bs:List Nat}(h:TT (TM E L Q 1 false os 0) b k cs n D ro (YU a.dst (.tuple #[]) o))(ho:ops[0]?=some a) (hg:a.guard=none) (aw:a.op= .call ⟨.value (.func f),#[x,.const (.int .i64 1)],ats⟩) (hf:FF E.P f) (hk:b.kind≠ .early) (hr:b.roundOf=none) (HL:os.length <E.max)
 (aei:GB E.P E.ty os.length (Frame.enter E.P f #[.pointer (some ⟨E.Wg,0,none⟩),.int .i64 1] .normal)=some bs) (Zh:∀b∈bs,b=E.Wg) (hx:evO n x o=some (.pointer (some ⟨E.Wg,0,none⟩)):=by kernel_rfl):TT (TM E L Q 0 false os 0) b (.inRegion ops [0]::k) cs n D ro o:=by
 rintro e w kn rfl bO
 have hT:Closed E.P true (TM E L Q 0 false os 0):=fp (E:=E) false os (fun e=>(by cases e))
 have SD:Closed E.P true (TM E L Q 1 false os 0):=fp (E:=E) false os (fun e=>(by cases e))
 refine NK (rest:=[]) hT ho hg hk hr aw hf ?_
 have nf:(#[x,.const (.int .i64 1)]:Array Operand).map (A n e D).eval= #[.pointer (some ⟨E.Wg,0,none⟩),.int .i64 1]:=by
  rw[ep]
  simp only[List.map_toArray,List.map_cons,List.map_nil,aC hx]
  rfl
 rw[nf]
 refine⟨Jr (E:=E) aei Zh HL ?_,fun e=>(by cases e)⟩
 rw[fT,ho]
 simp only[Option.bind_some]
 rw[aU]
 exact(iv SD (h _ _ _ rfl bO)).1
theorem tGo{os:List ι}(oo:ι){a:Oper}(L1:Cells)(ho:ops[i]?=some a) (hg:a.guard=none) (aw:a.op= .go ⟨.value y,#[],ats⟩) (hk:b.kind≠ .early) (hr:b.roundOf=none)
 (h:∀aL,Sub ro aL→Knows aL L1→eR E.P false (E.H4 oo) (born E.P {target:= .fn (.func f) ⟨ca⟩,args:= #[]}) ⟨aL,[]⟩∧TT (TM E L Q 0 false (os++[oo]) 0) b (.inRegion ops todo::k) cs n D aL (UU (YU a.dst undef o)))
 (hy:evO n y o=some (.func (.func f) ⟨[]⟩ ⟨ca⟩):=by kernel_rfl) (hL:QX [] o=some L1:=by kernel_rfl):TT (TM E L Q 1 false os 0) b (.inRegion ops (i::todo)::k) cs n D ro o:=by
 rintro e w kn rfl bO
 have SD:Closed E.P true (TM E L Q 1 false os 0):=fp (E:=E) false os (fun e=>(by cases e))
 refine Closed.jQ SD rfl fun pn=>?_
 obtain⟨w0,Vf⟩:=pn
 have ma:((den w).map (·.1)).Nodup:=Vf.nodup
 have mJ:∀q o,(q,o)∈den w→ro q=none:=Vf.apart
 have fM:Sub ro (St.freeze ⟨ro,den w⟩).ro:=fun q o hq=>St.nG (s:=⟨ro,den w⟩) hq mJ
 have arQ:Knows (St.freeze ⟨ro,den w⟩).ro L1:=fun x hx=>St.sV (s:=⟨ro,den w⟩) (by rcases x with ⟨q,o⟩;simp only[QX,Option.some.injEq] at hL;rw[←hL,B0] at hx;exact hx) ma
 obtain⟨h1,h2⟩:=h _ fM arQ
 have bM:=fun w'=>Ed (P:=E.P) (main:=true) (b:=b) (a:=A n e D) (k:=k) (cs:=cs) (rest:=todo) ho hg hk hr aw (by rw[ep];exact aC hy) w'
 have:=h2 _ _ _ rfl (bO.up fM)
 rw[←aU] at this
 exact⟨TC.mono (St.BP ⟨ro,den w⟩) (Ib (E:=E) (o:=oo) (s:=St.freeze ⟨ro,den w⟩) rfl rfl (fun w' _=>bM w') h1 this.1),fun e=>(by cases e)⟩
theorem aoI{os:List ι}{a:Oper}(L1:Cells)(ho:ops[i]?=some a) (hg:a.guard=none) (aw:a.op= .go ⟨.value y,#[],ats⟩) (hk:b.kind≠ .early) (hr:b.roundOf=none)
 (h:∀aL,Sub ro aL→Knows aL L1→E.closes ⟨aL,[]⟩ (born E.P {target:= .fn (.func f) ⟨ca⟩,args:= #[]})∧TT (TM E L Q 0 true os 0) b (.inRegion ops todo::k) cs n D aL (UU (YU a.dst undef o)))
 (hy:evO n y o=some (.func (.func f) ⟨[]⟩ ⟨ca⟩):=by kernel_rfl) (hL:QX [] o=some L1:=by kernel_rfl):TT (TM E L Q 0 false os 0) b (.inRegion ops (i::todo)::k) cs n D ro o:=by
 rintro e w kn rfl bO
 have SD:Closed E.P true (TM E L Q 0 false os 0):=fp (E:=E) false os (fun e=>(by cases e))
 refine Closed.jQ SD rfl fun pn=>?_
 obtain⟨w0,Vf⟩:=pn
 have ma:((den w).map (·.1)).Nodup:=Vf.nodup
 have mJ:∀q o,(q,o)∈den w→ro q=none:=Vf.apart
 have fM:Sub ro (St.freeze ⟨ro,den w⟩).ro:=fun q o hq=>St.nG (s:=⟨ro,den w⟩) hq mJ
 have arQ:Knows (St.freeze ⟨ro,den w⟩).ro L1:=fun x hx=>St.sV (s:=⟨ro,den w⟩) (by rcases x with ⟨q,o⟩;simp only[QX,Option.some.injEq] at hL;rw[←hL,B0] at hx;exact hx) ma
 obtain⟨h1,h2⟩:=h _ fM arQ
 have bM:=fun w'=>Ed (P:=E.P) (main:=true) (b:=b) (a:=A n e D) (k:=k) (cs:=cs) (rest:=todo) ho hg hk hr aw (by rw[ep];exact aC hy) w'
 have:=h2 _ _ _ rfl (bO.up fM)
 rw[←aU] at this
 exact⟨TC.mono (St.BP ⟨ro,den w⟩) (Ic (E:=E) (s:=St.freeze ⟨ro,den w⟩) rfl rfl (fun w' _=>bM w') h1 this.1),fun e=>(by cases e)⟩
theorem alV{os:List ι}{a:Oper}{rc:Operand}{z:Value}{X:Cells}{aA:Nat→Option Obj}(hl:agG L X oZ aA)(bW:Sub aA ro)(SF:L E.Ch=none)(ho:ops[0]?=some a) (hg:a.guard=none) (Qa:∀ρ,bh E.P (execOp ρ a)=some (.comm #[{chan:=ρ rc,send:=none,zero:=z}] true (.recv true))) (hk:b.kind≠ .early) (hr:b.roundOf=none)
 (I5:∀a' oo b' v Y,os=a'++oo::b'→E.TA oo v Y→TT (TM E L Q 0 true (a'++b') 0) b (.inRegion ops todo::k) cs n D ro (adO Y (YU a.dst (.tuple #[v,.bool true]) o)))
 (qe:os=[]→TT (TL E.P eC (fun _=>none) (Calm E.os E.out) Q) b (.inRegion ops todo::k) cs n D oZ (bkO X (YU a.dst (.tuple #[z,.bool false]) o)))
 (hx:evO n rc o=some (.chan (some E.Ch)):=by kernel_rfl):TT (TM E L Q 0 true os 0) b (.inRegion ops (0::todo)::k) cs n D ro o:=by
 rintro e w kn rfl bO
 have hT:Closed E.P true (TM E L Q 0 true os 0):=fp (E:=E) true os (fun _=>rfl)
 refine Closed.jQ hT rfl fun pn=>?_
 have hvc:ev n e rc= .chan (some E.Ch):=aC hx
 have bM:∀w',stepG E.P true (G (aI b (A n e D) (.inRegion ops (0::todo)::k)) cs) w'= .comm (G (aI b (A n e D) (.inRegion ops (0::todo)::k)) cs) #[rcase E.Ch z] true (.recv true) w' #[]:=by
  intro w'
  have yY:=kM b (A n e D) (.inRegion ops (0::todo)::k)
  simp only[aI] at yY
  have hw:Region.wanted a (yielded ops (A n e D).tmps)=true:=db _ _ hg
  have jL:(b.kind==CallKind.early)=false:=by simpa using hk
  have gN:stepG E.P true (G (aI b (A n e D) (.inRegion ops (0::todo)::k)) cs) w'=stepG.apply E.P true (aI b (A n e D) (.inRegion ops (0::todo)::k)) cs none (execOp (A n e D).eval a) w':=by
   simp only[G,stepG,stepG.exec,aI,ho,Option.map_some,Option.getD_some,hw,if_true,stepG.oper,Frame.oper?,yY]
   rw[hr]
  have bN:=tE (Qa (ev n e)) w' #[]
  rw[hvc] at bN
  rw[gN,ep]
  simp only[stepG.apply,if_true,bN,aI,jL,Bool.false_eq_true,if_false]
  simp[seen_none,GStep.after,G,rcase]
 have pd:∀v,Conc.served (G (aI b (A n e D) (.inRegion ops (0::todo)::k)) cs) v=G (aI b (A n (upd a.dst v e) D) (.inRegion ops todo::k)) cs:=by
  intro v
  have:=fT b (A n e D) ops 0 todo k v
  rw[ho] at this
  simp only[Option.bind_some] at this
  rw[aU] at this
  simp only[Conc.served,G] at this ⊢
  rw[this]
 have ub:os=[]→∀pc (g:Goroutine),g.status= .running→(∀w',stepG E.P true g w'= .comm (G (aI b (A n e D) (.inRegion ops (0::todo)::k)) cs) #[rcase E.Ch z] true (.recv true) w' #[])→
  TL E.P (jk pc) L (GZ E pc) Q g ⟨ro,den w⟩:=by
  intro tt pc g hg' aqX
  obtain⟨hb1,gF⟩:=hl.back (rwK:=den w) bW
  refine TV (E:=E) (z:=z) (s':=⟨oZ,X++den w⟩) SF hg' (fun w' _=>aqX w') hb1 gF ?_
  rw[pd]
  have:=qe tt _ _ _ rfl fun x hx=>(by cases hx)
  rw[gI] at this
  exact this
 refine⟨TZ (E:=E) (z:=z) rfl (fun w' _=>bM w') (fun a' oo b' v Y tt oe=>?_) fun tt pc=>⟨ub tt pc _ rfl bM,ub tt pc _ rfl fun w'=>bM w'⟩,fun _ tt pc=>ub tt pc _ rfl bM⟩
 rw[pd]
 have:=I5 a' oo b' v Y tt oe _ _ _ rfl bO
 rw[gI] at this
 exact this.1
theorem awZ{oo:ι}{a:Oper}{sc sv:Operand}{v:Value}{Y:Cells}(ys:List Nat)(ho:ops[i]?=some a) (hg:a.guard=none) (hse:∀ρ,execOp ρ a=Sem.pure (.comm #[{chan:=ρ sc,send:=some (ρ sv),zero:= .tuple #[]}] true .send)) (hk:b.kind≠ .early) (hr:b.roundOf=none)
 (hs:E.TA oo v Y) (h:TT (eR E.P false E.G2) b (.inRegion ops todo::k) cs n D ro (BZ ys (YU a.dst undef o)))
 (hx:evO n sc o=some (.chan (some E.Ch)):=by kernel_rfl) (hv:evO n sv o=some v:=by kernel_rfl) (hY:dY ys o=some Y:=by kernel_rfl):TT (eR E.P false (E.H4 oo)) b (.inRegion ops (i::todo)::k) cs n D ro o:=by
 rintro e w kn rfl bO
 refine eR.stop ?_
 have:=h e w kn
 refine⟨rfl,G (aI b (A n e D) (.inRegion ops (i::todo)::k)) cs,v,.tuple #[],Y,den (dA ys 0 w),bB hY,hs,fun w' pn=>?_,?_⟩
 ·have he:=kM b (A n e D) (.inRegion ops (i::todo)::k)
  simp only[aI] at he
  have ar7:ev n e sc= .chan (some E.Ch):=aC hx
  have ar6:ev n e sv=v:=aC hv
  have hw:Region.wanted a (yielded ops (A n e D).tmps)=true:=db _ _ hg
  have jL:(b.kind==CallKind.early)=false:=by simpa using hk
  have azF:=hse (ev n e)
  rw[ar7,ar6] at azF
  have gN:stepG E.P false (G (aI b (A n e D) (.inRegion ops (i::todo)::k)) cs) w'=stepG.apply E.P true (aI b (A n e D) (.inRegion ops (i::todo)::k)) cs none (execOp (A n e D).eval a) w':=by
   simp only[G,stepG,stepG.exec,aI,ho,Option.map_some,Option.getD_some,hw,if_true,stepG.oper,Frame.oper?,he]
   rw[hr]
  rw[gN,ep,azF]
  simp only[stepG.apply,if_true,Sem.runT,aI,jL,Bool.false_eq_true,if_false]
  simp[seen_none,GStep.after,G,scase]
 ·have pd:Conc.served (G (aI b (A n e D) (.inRegion ops (i::todo)::k)) cs) undef=G (aI b (A n (upd a.dst undef e) D) (.inRegion ops todo::k)) cs:=by
   have:=fT b (A n e D) ops i todo k undef
   rw[ho] at this
   simp only[Option.bind_some] at this
   rw[aU] at this
   simp only[Conc.served,G] at this ⊢
   rw[this]
  rw[pd]
  exact h _ _ _ (by simp only[BZ,YU]) bO
theorem aoB{dn:Nat}{bs:List Nat}(hf:E.P.funcs[b.fn]?=some fn) (zx:fn.results= #[]) (yE:AV E.P dn=true) (CH:xd E.P E.ty E.max (Frame.enter E.P dn #[.pointer (some ⟨E.Wg,0,none⟩)] .deferred)=some bs) (Zh:∀b∈bs,b=E.Wg) (ps:List Nat) (hk:b.kind= .deferred) (hr:b.roundOf=none)
 (hd:dY ps o=some [(bd,.deferred (some []))]:=by kernel_rfl):TT (eR E.P false E.G2) b [] [cB E.P] n [ek bd,{target:= .fn (.func dn) ⟨[]⟩,args:=⟨[.pointer (some ⟨E.Wg,0,none⟩)]⟩}] ro o:=by
 rintro e w kn rfl bO
 have hT2:=dX E.P false E.G2
 refine hT2.go rfl rfl (g':=G {aI b (A n e [ek bd,{target:= .fn (.func dn) ⟨[]⟩,args:=⟨[.pointer (some ⟨E.Wg,0,none⟩)]⟩}]) [] with mode:= .returning} [cB E.P]) (fun w=>by simp[G,stepG,stepG.exec,aI,hr]) ?_
 have hp:=bB hd
 obtain⟨Lw,Rr,hs⟩:=List.append_of_mem (hp.mem_iff.2 (List.mem_append_left _ (List.mem_singleton.2 rfl)))
 refine unwind_mark (C:=CA E.P) (fun _ _ h=>h) hT2 (.inl rfl) (fr:={aI b (A n e [ek bd,{target:= .fn (.func dn) ⟨[]⟩,args:=⟨[.pointer (some ⟨E.Wg,0,none⟩)]⟩}]) [] with mode:= .returning}) rfl hs ?_
 refine jD (C:=CA E.P) (fun _ _ h=>h) hT2 (.inl rfl) (kY yE) (ds:=[]) rfl ?_
 refine eR.stop ?_
 have hq:QuitsD E.P 2 0 (G {aI b (A n e []) [] with mode:= .returning} [cB E.P]):=nT rfl rfl hk hf zx
 exact GA (E:=E) (c:={aI b (A n e []) [] with mode:= .returning}) (.inl rfl) hq CH Zh
end
theorem aw7{S:Goroutine→St→Prop}{c:Code}{ro:Nat→Option Obj}(hf:P.funcs[f]?=some fn) (hb:fn.body=some c) (hn:fn.ntmps=n) (ff:AV P f=true) (hle:Nat.ble ca.length n=true)
 (h:TT (eR P false S) (Yh f .deferred) ([c].map .code++[]) [cB P] n [] ro (some ⟨.fin .normal,fZ 0 ca,[],⟨[],[]⟩⟩)):eR P false S (born P {target:= .fn (.func f) ⟨ca⟩,args:= #[]}) ⟨ro,[]⟩:=by
 have hT:=dX P false S
 refine jD (C:=CA P) (fun _ _ h=>h) hT (fr:={(default:Frame) with fn:=P.funcs.size,defers:=[{target:= .fn (.func f) ⟨ca⟩,args:= #[]}],mode:= .panicking [goexitEntry]}) (.inr ⟨_,rfl⟩) (kY ff) rfl ?_
 show eR P false S (G (Frame.enter P f (#[]++⟨ca⟩) .deferred) [cB P]) ⟨ro,[]⟩
 have iu:Frame.enter P f (#[]++⟨ca⟩) .deferred=aI (Yh f .deferred) (A n (fZ 0 ca) []) [.code c]:=by
  rw[←kN ca n (Nat.le_of_ble_eq_true hle)]
  simp[Frame.enter,aI,hf,hb,hn,Yh]
 rw[iu]
 exact h _ _ _ rfl fun x hx=>(by cases hx)
theorem aib{ι:Type}{E:dV ι}{x:Jy}(hx:x.OK E.P E.ty){bs:List Nat}(Oq:Au E.P E.ty E.max (Frame.enter E.P x.wait #[.pointer (some ⟨E.Wg,0,none⟩)] .normal)=some bs)(Zh:∀b∈bs,b=E.Wg)
 {ro:Nat→Option Obj}{a:Oper}{t:TypeId}{fz:Nat×Nat}(hq:ro q=some (.cells ⟨[.chan (some E.Ch)]⟩ t fz))(ho0:x.q1[0]?=some a) (hg0:a.guard=none) (aOG:a.op= .load U y) (ht:(aV E.P U).map (·.agg)=some false)
 (hy:evO x.n y (some ⟨.fin .normal,fe x.o0.dst (.tuple #[]) (fZ 0 [.pointer (some ⟨E.Wg,0,none⟩),.pointer (some ⟨q,0,none⟩)]),[],⟨[],[]⟩⟩)=some (.pointer (some ⟨q,0,none⟩)))
 (hc:evO x.n x.cx (YU a.dst (.chan (some E.Ch)) (some ⟨.fin .normal,fe x.o0.dst (.tuple #[]) (fZ 0 [.pointer (some ⟨E.Wg,0,none⟩),.pointer (some ⟨q,0,none⟩)]),[],⟨[],[]⟩⟩))=some (.chan (some E.Ch))):
 E.closes ⟨ro,[]⟩ (born E.P {target:= .fn (.func x.f) ⟨[.pointer (some ⟨E.Wg,0,none⟩),.pointer (some ⟨q,0,none⟩)]⟩,args:= #[]}):=by
 obtain⟨fn,hf,zx,Qd⟩:=hx.fn
 obtain⟨hbf,rN,qF⟩:=hx.bf
 have hk:x.b.kind≠ .early:=by rw[rN];simp
 have Oy:∀g g',g.status= .running→g'.status= .running→(∀w,stepG E.P false g w= .go g' w #[])→E.closes ⟨ro,[]⟩ g'→E.closes ⟨ro,[]⟩ g:=
  fun g g' hg _ bM ⟨q,hq⟩=>⟨q+1,hg,g',fun w _=>bM w,hq⟩
 refine Oy _ _ rfl rfl (GK (kY hx.ff) _) ?_
 have FY:(#[]++(⟨[.pointer (some ⟨E.Wg,0,none⟩),.pointer (some ⟨q,0,none⟩)]⟩:Array Value))= #[.pointer (some ⟨E.Wg,0,none⟩),.pointer (some ⟨q,0,none⟩)]:=by simp
 rw[FY]
 refine SV (iB:=[]) (cs:=[cB E.P]) Oy (hx.enter _ _) ?_
 refine Gy (E:=E) ?_ Oq Zh
 have hT:=dX E.P false E.H3
 show eR E.P false E.H3 (G ((aI x.b (A x.n (fZ 0 [.pointer (some ⟨E.Wg,0,none⟩),.pointer (some ⟨q,0,none⟩)]) []) (.inRegion x.q0 (0::[])::[.code x.rest])).finish (.tuple #[])) [cB E.P]) ⟨ro,[]⟩
 rw[fT,hx.op0,aU]
 simp only[Option.bind_some]
 rw[j7]
 refine iv hT ?_
 obtain⟨id,ac2⟩:=hx.rest
 refine dI (l:=[x.rest]) (k:=[]) hT ac2 fun l2 qE=>?_
 have:=gG qE
 subst this
 rw[hx.size]
 have key:TT (eR E.P false E.H3) x.b (.inRegion x.q1 (0::[1])::[]) [cB E.P] x.n [] ro (some ⟨.fin .normal,fe x.o0.dst (.tuple #[]) (fZ 0 [.pointer (some ⟨E.Wg,0,none⟩),.pointer (some ⟨q,0,none⟩)]),[],⟨[],[]⟩⟩):=by
  refine tLd hT (.chan (some E.Ch)) ho0 hg0 aOG ht hk qF (q:=q) (t:=t) (fz:=fz) (fun _ _ _ _=> .inl hq) ?_ hy
  intro e w kn he bO
  refine eR.stop ?_
  have hx2:ev x.n e x.cx= .chan (some E.Ch):=by
   rw[he] at hc
   exact aC hc
  obtain⟨ho,hg,ats,aw⟩:=hx.op
  have hq:(E.P.funcs[x.b.fn]?).any (·.norace)=false:=by rw[hbf,hf];simpa using Qd
  refine⟨rfl,?_,G (x.b.at (Act.put (A x.n e []) x.oc.dst (.tuple #[])) (.inRegion x.q1 []::[])) [cB E.P],fun w s r tm hc=>?_,4,?_⟩
  ·simp[mayWake,G,aI,ho,aw]
  ·rw[BU qF]
   have:=stepG_close (P:=E.P) (main:=false) (b:=x.b) (a:=A x.n e []) (kk:=[]) (cs:=[cB E.P]) (rest:=[]) ho (db x.oc _ hg) hk aw (by rw[ep];exact hx2) hc hq
   exact this
  ·rw[←BU qF]
   refine .ctl (g':=G (aI x.b (Act.put (A x.n e []) x.oc.dst (.tuple #[])) []) [cB E.P]) rfl (fun w=>by simp[G,stepG,stepG.exec,aI]) ?_
   refine .ctl (g':=G {aI x.b (Act.put (A x.n e []) x.oc.dst (.tuple #[])) [] with mode:= .returning} [cB E.P]) rfl (fun w=>by simp[G,stepG,stepG.exec,aI,qF]) ?_
   refine nT rfl ?_ rN (by show E.P.funcs[x.b.fn]?=_;rw[hbf];exact hf) zx
   show (Act.put (A x.n e []) x.oc.dst (.tuple #[])).defers=[]
   rw[aU];rfl
 exact key _ _ _ rfl fun x hx=>(by cases hx)
theorem jpF{V:Value}(lp:List Nat)(B:Cells)(FU:AV X.P f=true)(hf:∀aA,Sub X.ro aA→Knows aA B→dL X.P f vs aA V)(hj:J X (Kg B V o))(h1:dF X.n (agi X.n) o=some (f,vs):=by kernel_rfl)(h3:dY lp o=some B:=by kernel_rfl):J X o:=by
 refine jGN h1 h3 (fun s p e ho hh hc=>?_) hj
 have hcb:xU X.P X.n p e=some (f,vs):=by unfold xU;rw[hc];simp only[FU,cond_true]
 obtain⟨ff,x,xs,at_,fi,ca,ws,aw,hx,rJ,rfl⟩:=qo hcb
 rcases p with ⟨dst,op,ty,pos,cT,g⟩
 dsimp only at aw;subst aw
 refine⟨rfl,fun s0 FD uQ ops i sP rest hw s' hs todo Q hk=>?_⟩
 have hez:Ext ⟨X.ro,B⟩ s':=fun b ob hb=>hs _ _ (hb.elim (fun h=>FD _ _ (.inl h)) fun h=>uQ (b,ob) h)
 exact NU X.hC sP hw (aY hx) ff (wZ rJ) (PS fi ws ca) hez (fun aA h1=>hf aA (EA h1) fun y hy=>h1 _ _ (.inr hy)) hk
def bgI(body:Code)(i:Nat):Option JS→Option (JS×Nat)
 |some ⟨.fin .normal,e,w,kn⟩=>match yl w i with
  |some (.b b (.loop r))=>match r.state with
   | .ready=>some (⟨.code body [],e,QT w i (.b b (.loop {r with state:= .busy})),kn⟩,b)
   |_=>none
  |_=>none
 |_=>none
theorem jbI{ro:Nat→Option Obj}(i:Nat)(h:J (X.re bl ro Φ) (Dt (bgI body i o)))(h1:QQ (bgI body i o)=some bl:=by kernel_rfl):J (X.rd bl ro Φ body) o:=by
 unfold bgI at h h1
 split at h<;>try (simp only[Dt] at h;exact h.elim)
 rename_i e w kn
 split at h<;>try (simp only[Dt] at h;exact h.elim)
 rename_i b r hn
 split at h<;>try (simp only[Dt] at h;exact h.elim)
 rename_i bM
 simp only[hn,bM,QQ,Option.some.injEq] at h1
 subst h1
 simp only[Dt] at h
 intro bO
 have hw:=h bO
 obtain⟨L,R,h2,h3⟩:=ze hn
 simp only[JP,Cx.rd,GP,Cc]
 refine⟨L,r,R,h2,bM,?_⟩
 simp only[JP,h3] at hw
 exact hw
theorem tGe{b:Frame}{D:List Deferred}{ro:Nat→Option Obj}(h:TT T b yS cs n D ro (geO o)):TT T b yS cs n D ro o:=by
 rintro e w kn rfl bO
 have:=h e (.l []::w) kn (by simp only[geO]) bO
 rw[gI] at this
 exact this
def aaI:Option JS→Option JS
 |some ⟨.fin .normal,e,w,kn⟩=>some ⟨.fin .ret,e,w,kn⟩
 |_=>none
theorem aoA{c:Code}{ro:Nat→Option Obj}{L:Cells}(hf:P.funcs[f]?=some fn) (hb:fn.body=some c) (hn:fn.ntmps=n) (hle:Nat.ble args.length n=true)
 (h:TT T (Yh f .normal) ([c].map .code++[]) cs n [] ro (some ⟨.fin .normal,fZ 0 args,[.l L],⟨[],[]⟩⟩)):T (G (Frame.enter P f ⟨args⟩ .normal) cs) ⟨ro,L⟩:=by
 have iu:Frame.enter P f ⟨args⟩ .normal=aI (Yh f .normal) (A n (fZ 0 args) []) [.code c]:=by
  rw[←kN args n (Nat.le_of_ble_eq_true hle)]
  simp[Frame.enter,aI,hf,hb,hn,Yh]
 rw[iu]
 exact h _ _ _ rfl fun x hx=>(by cases hx)
theorem aK3(hm:P.follows .mixedOrders=true)(hT:Closed P main T){cl:Frame}{LN:List Frame}{ro:Nat→Option Obj}(v:Value)(hs ps:List Nat)(Y:Cells)(hf:P.funcs[f]?=some fn)
 (hk:T (G (cl.finish v) LN) ⟨ro,Y⟩) (h1:sU (jY P n f hs (aaI o))=some v:=by kernel_rfl) (h2:Qn (jY P n f hs (aaI o))=Qm (jY P n f hs (aaI o)):=by kernel_rfl) (h3:dY ps o=some Y:=by kernel_rfl):TT T (Yh f .normal) (.code .ret::yS) (cl::LN) n [] ro o:=by
 rintro e w kn rfl bO
 simp only[aaI] at h1 h2
 simp only[jY] at h1 h2
 cases hr:Bb P n e w kn.c hs (sW P f).results.toList with
 |none=>simp only[hr,sU] at h1;cases h1
 |some x=>
  rcases x with ⟨vs,q⟩
  simp only[hr,sU,Option.some.injEq,Qn,Qm] at h1 h2
  have rM:=tF (X:=⟨P,fun m T'=>m=main∧T'=T,by rintro _ _ ⟨rfl,rfl⟩;exact hT,hm,f,none,n,[],ro,fun _ _ _=>True⟩) bO hr (mb h2)
  have hp:=bB h3
  have uO:sW P f=fn:=by simp only[sW,hf]
  have G5:=Nn (s0:=⟨ro,Y⟩) (R:=fun en s'=>∃v,en= .returned v∧T (G (cl.finish v) LN) s') (.inl rfl) rM h1 (dP hp (Sub.refl _)) ⟨v,rfl,hk⟩
  rw[uO] at G5
  refine hT.go rfl rfl (g':=G {aI (Yh f .normal) (A n e []) (.code .ret::yS) with mode:= .returning} (cl::LN)) (fun w=>by simp[G,stepG,stepG.exec,aI,Yh]) ?_
  refine sB (C:=CA P) (fun _ _ h=>h) (T:=T) hT hf (fr:={aI (Yh f .normal) (A n e []) (.code .ret::yS) with mode:= .returning}) rfl rfl rfl rfl (R:=fun en s'=>∃v,en= .returned v∧T (G (cl.finish v) LN) s') G5.2 (fun v s' hv=>?_)
  obtain⟨v',hv',ht⟩:=hv
  cases hv'
  exact ht
attribute [irreducible] UU bkO bgI QX aaI
def G0(P:Program)(f:FuncId)(args:List Value)(ro:Nat→Option Obj)(own:Cells)(Φ:Value→Cells→Prop):Prop:=
 ∀fr,Fn (C0 P) P f ⟨args⟩ ⟨ro,own++fr⟩ (fun en s'=>∃v Y,en= .returned v∧(⟨ro,Y++fr⟩:St).le s'∧Φ v Y)
theorem G0.mono{ro:Nat→Option Obj}{own:Cells}{Φ':Value→Cells→Prop}(h:G0 P f args ro own Φ)(hk:∀v X,Φ v X→Φ' v X):G0 P f args ro own Φ':=
 fun fr=>Fn.mono (h fr) fun _ _ ⟨v,X,h1,h2,h3⟩=>⟨v,X,h1,h2,hk v X h3⟩
abbrev RC(ro:Nat→Option Obj)(fr:Cells)(Φ:Value→Cells→Prop):Ending→St→Prop:=fun en s'=>∃v Y,en= .returned v∧(⟨ro,Y++fr⟩:St).le s'∧Φ v Y
def XC(P:Program)(hm:P.follows .mixedOrders=true)(f:FuncId)(ro:Nat→Option Obj)(R:Ending→St→Prop):Cx:=⟨P,C0 P,xe,hm,f,none,(sW P f).ntmps,[],ro,q7 P (sW P f) R⟩
theorem qC{hm:P.follows .mixedOrders=true}{ro:Nat→Option Obj}:QR (XC P hm f ro R) R:=⟨rfl,rfl⟩
theorem Jg{C:Class}(hC:∀main T,C main T→Closed P main T){c:Code}{s:St}(hf:P.funcs[f]?=some fn) (hb:fn.body=some c) (hl:Nat.ble args.length fn.ntmps=true) (h:Wp C f none c (q7 P fn R) (A fn.ntmps (fZ 0 args) []) s):Fn C P f ⟨args⟩ s R:=by
 refine Pj hC hf hb ?_
 have he:=kN args fn.ntmps (Nat.le_of_ble_eq_true hl)
 rw[←he] at h
 exact h
theorem HC(hm:P.follows .mixedOrders=true){ro:Nat→Option Obj}{L:Cells}(own:List Sg)(kn:Cells)(hk:Knows ro kn)(h:∀fr,J (XC P hm f ro (RC ro fr Φ)) (kS P f args (own++[.l fr]) kn))(hL:den own=L:=by rfl):G0 P f args ro L Φ:=by
 subst hL
 intro fr
 have h:=h fr
 unfold kS at h
 split at h<;>try exact h.elim
 rename_i fn hf
 split at h<;>try exact h.elim
 rename_i c hc
 cases hl:Nat.ble args.length fn.ntmps with
 |false=>rw[hl] at h;exact h.elim
 |true=>
  rw[hl] at h
  have uO:sW P f=fn:=by simp only[sW,hf]
  have:=h hk
  simp only[JP,XC,KQ,uO] at this
  have hd:den (own++[.l fr])=den own++fr:=by rw[lE];rfl
  rw[hd] at this
  exact Jg xe hf hc hl this
section
variable {X:Cx} {o:Option JS}
theorem KE{own:Cells}(ps:List Nat)(hC:∀main T,X.C main T→C0 X.P main T)(hf:G0 X.P f vs X.ro own Φ)(hj:∀v Y,Φ v Y→J X (mZ ps v Y o))(h1:e9 X.n (xU X.P X.n) o=some (f,vs):=by kernel_rfl)(h2:dY ps o=some own:=by kernel_rfl):J X o:=by
 obtain⟨ops,i,todo,k,e,w,kn,p,rfl,ho,hw,hc⟩:=dc h1
 obtain⟨ff,x,xs,at_,fi,ca,ws,aw,hx,rJ,rfl⟩:=qo hc
 intro bO
 rcases p with ⟨dst,op,ty,pos,cT,g⟩
 dsimp only at aw;subst aw
 have hp:=bB h2
 have uO:Fn X.C X.P f ⟨fi++ws++ca⟩ ⟨X.ro,den w⟩ (fun en s'=>∃v Y,en= .returned v∧(⟨X.ro,Y++den (dA ps 0 w)⟩:St).le s'∧Φ v Y):=fun main T hT c cs k1 k2=>
  (X.hC main T hT).mono _ ⟨X.ro,own++den (dA ps 0 w)⟩ _ (dP (J:=[]) (by rw[List.append_nil];exact hp) (Sub.refl _)) (Fn.weaken hC (hf _) main T hT c cs k1 k2)
 refine tR (fi:=⟨fi⟩) (ca:=⟨ca⟩) (ws:=fi++ws++ca) X.hC ho hw hx ff rJ (PS fi ws ca) uO (fun v' s' hr=>?_) (fun ch s' hr=>by obtain⟨_,_,e,_⟩:=hr;cases e) (fun s' hr=>by obtain⟨_,_,e,_⟩:=hr;cases e)
 obtain⟨v,Y,hv,hle,p6⟩:=hr
 cases hv
 have:=hj _ Y p6
 rw[nW ho] at this
 have:=this bO
 simp only[JP,gI] at this
 exact this.more X.hC hle
theorem RI{fr:Cells}(hq:QR X (RC oZ fr Φ))(v:Value)(ps:List Nat)(Y:Cells)(fM:Sub oZ X.ro)(hR:Φ v Y)(h1:sU (jY X.P X.n X.fn [] o)=some v:=by kernel_rfl)(h2:Qn (jY X.P X.n X.fn [] o)=Qm (jY X.P X.n X.fn [] o):=by kernel_rfl)(h3:dY ps o=some (Y++fr):=by kernel_rfl)(h4:BS o=true:=by kernel_rfl):J X o:=
 aF hq v [] ps (Y++fr) fM ⟨v,Y,rfl,St.le_refl _,hR⟩ h1 h2 h3 h4
end
noncomputable def EK(P:Program)(g:FuncId):Func:=match Ht P g with
 |some (gn,_,_)=>gn
 |none=>default
noncomputable def Hs(P:Program)(g:FuncId):Tmp:=match Ht P g with
 |some (_,t,_)=>t
 |none=>0
noncomputable def recC(P:Program)(g:FuncId):Code:=match Ht P g with
 |some (_,_,c)=>c
 |none=> .skip
def ao2(P:Program)(g:FuncId):Bool:=(Ht P g).isSome
theorem aiq{g:FuncId}(h:ao2 P g=true):Ht P g=some (EK P g,Hs P g,recC P g):=by
 unfold ao2 at h
 unfold EK Hs recC
 cases hr:Ht P g with
 |none=>rw[hr] at h;cases h
 |some x=>rcases x with ⟨a,b,c⟩;rfl
noncomputable def XD(P:Program)(hm:P.follows .mixedOrders=true)(f:FuncId)(ro:Nat→Option Obj)(R:Ending→St→Prop)(g:FuncId):Cx:=⟨P,CP P,eW,hm,f,none,(sW P f).ntmps,[],ro,S9 (CP P) P (sW P f) g (EK P g) (Hs P g) (recC P g) R⟩
theorem aM8(hm:P.follows .mixedOrders=true){ro:Nat→Option Obj}{L:Cells}(g:FuncId)(own:List Sg)(kn:Cells)(hk:Knows ro kn)(h:J (XD P hm f ro (RX ro Φ) g) (kS P f args own kn))(hL:den own=L:=by rfl)(ac3:ao2 P g=true:=by kernel_rfl):eG P f args ro L Φ:=by
 subst hL
 unfold kS at h
 split at h<;>try exact h.elim
 rename_i fn hf
 split at h<;>try exact h.elim
 rename_i c hc
 cases hl:Nat.ble args.length fn.ntmps with
 |false=>rw[hl] at h;exact h.elim
 |true=>
  rw[hl] at h
  have uO:sW P f=fn:=by simp only[sW,hf]
  have:=h hk
  simp only[JP,XD,KQ,uO] at this
  exact Gi eW hf hc rfl hl (aiq ac3) this
def dfV(n:Nat)(p:Oper)(e:Env):Option (FuncId×List Value):=match p.op with
 | .defer ⟨.value x,⟨[]⟩,⟨[]⟩⟩=>match a8 n e x with
  |some (.func (.func f) ⟨[]⟩ ⟨ca⟩)=>some (f,ca)
  |_=>none
 |_=>none
theorem atV{p:Oper}{e:Env}(h:dfV n p e=some (f,ca)):∃x,p.op= .defer ⟨.value x,#[],#[]⟩∧a8 n e x=some (.func (.func f) ⟨[]⟩ ⟨ca⟩):=by
 unfold dfV at h
 split at h<;>try (cases h;done)
 rename_i x aw
 split at h<;>try (cases h;done)
 rename_i hx
 cases h
 exact⟨x,aw,hx⟩
def skO:Option JS→Option JS
 |some ⟨.ops ops (i::todo) k,e,w,kn⟩=>match ops[i]? with
  |some p=>some ⟨.ops ops todo k,upd p.dst undef e,w,kn⟩
  |none=>none
 |_=>none
def Ol(t:Tmp)(rest:Code)(ca:List Value):Option JS→Option JS
 |some ⟨.fin _,_,w,kn⟩=>some ⟨.code rest [],upd (some t) .nilIface (fZ 0 ca),w,⟨kn.c,[]⟩⟩
 |_=>none
def rwS:Option JS→Option (List Sg)
 |some s=>some s.rw
 |none=>none
section
variable {X:Cx} {o:Option JS}
theorem jdf(hj:J (X.wd ({target:= .fn (.func f) ⟨ca⟩,args:= #[]}::X.D)) (skO o))(h1:e9 X.n (dfV X.n) o=some (f,ca):=by kernel_rfl)(hr:X.ax=none:=by rfl):J X o:=by
 obtain⟨ops,i,todo,k,e,w,kn,p,rfl,ho,hw,hc⟩:=dc h1
 obtain⟨x,aw,hx⟩:=atV hc
 intro bO
 rcases p with ⟨dst,op,ty,pos,cT,g⟩
 dsimp only at aw;subst aw
 simp only[skO,ho] at hj
 have:=hj bO
 simp only[JP,P0] at this
 show ab X.C X.fn X.ax ops (i::todo) (KQ X k) (A X.n e X.D) ⟨X.ro,den w⟩
 rw[hr]
 have h2:(X.wd ({target:= .fn (.func f) ⟨ca⟩,args:= #[]}::X.D)).ax=none:=hr
 rw[h2] at this
 exact aiS X.hC ho hw hx this
structure QD(X:Cx)(g:FuncId)(R:Ending→St→Prop)(ca:List Value):Prop where
 q:X.Q=S9 X.C X.P (sW X.P X.fn) g (EK X.P g) (Hs X.P g) (recC X.P g) R
 d:X.D=[{target:= .fn (.func g) ⟨ca⟩,args:= #[]}]
theorem jrD{g:FuncId}(hq:QD X g R ca)(v:Value)(hs ps:List Nat)(Y:Cells)(k:Nat)(fM:Sub oZ X.ro)(hR:R (.returned v) ⟨oZ,Y⟩)(hl:Nat.ble ca.length (EK X.P g).ntmps=true:=by kernel_rfl)
 (h1:sU (jY X.P X.n X.fn hs o)=some v:=by kernel_rfl)(h2:Qn (jY X.P X.n X.fn hs o)=Qm (jY X.P X.n X.fn hs o):=by kernel_rfl)(h3:dY ps o=some Y:=by kernel_rfl)(h4:BS o=true:=by kernel_rfl)
 (h5:BS (res (YN X.P (EK X.P g).ntmps k [] (Ol (Hs X.P g) (recC X.P g) ca o)))=true:=by kernel_rfl)(h6:rwS (res (YN X.P (EK X.P g).ntmps k [] (Ol (Hs X.P g) (recC X.P g) ca o)))=rwS o:=by kernel_rfl)
 (h7:lhs (YN X.P (EK X.P g).ntmps k [] (Ol (Hs X.P g) (recC X.P g) ca o))=rhs (YN X.P (EK X.P g).ntmps k [] (Ol (Hs X.P g) (recC X.P g) ca o)):=by kernel_rfl):J X o:=by
 obtain⟨ex,e,w,kn,rfl,hex⟩:=sY h4
 simp only[jY] at h1 h2
 cases hr:Bb X.P X.n e w kn.c hs (sW X.P X.fn).results.toList with
 |none=>simp only[hr,sU] at h1;cases h1
 |some x=>
  rcases x with ⟨vs,q⟩
  simp only[hr,sU,Option.some.injEq,Qn,Qm] at h1 h2
  intro bO
  have rM:=tF bO hr (mb h2)
  have hp:=bB h3
  have G5:=Nn (s0:=⟨oZ,Y⟩) (R:=R) hex rM h1 (dP hp fM) hR
  have ht:bH X.P (results (sW X.P X.fn) (A X.n e X.D).tmps) ⟨X.ro,den w⟩ (fun v s'=>∃s0,s0.le s'∧R (.returned v) s0) (fun _ _=>False):=by
   rcases hex with rfl|rfl<;>exact G5.2
  show X.Q ex (A X.n e X.D) ⟨X.ro,den w⟩
  rw[hq.q]
  refine⟨hex.symm,ca,hl,hq.d,?_⟩
  let X2:Cx:=⟨X.P,X.C,X.hC,X.hm,g,none,(EK X.P g).ntmps,[],X.ro,fun e2 a2 s2=>(e2= .normal∨e2= .ret)∧a2.defers=[]∧bH X.P (results (sW X.P X.fn) (A X.n e X.D).tmps) s2 (fun v s3=>∃s0,s0.le s3∧R (.returned v) s0) (fun _ _=>False)⟩
  have hj:J X2 (Ol (Hs X.P g) (recC X.P g) ca (some ⟨.fin ex,e,w,kn⟩)):=by
   refine jd k [] ?_ h7
   have h5':=h5
   have h6':=h6
   obtain⟨ex2,e2,w2,kn2,tX,aPE⟩:=sY h5'
   show J X2 (res (YN X.P (EK X.P g).ntmps k [] (Ol (Hs X.P g) (recC X.P g) ca (some ⟨.fin ex,e,w,kn⟩))))
   rw[tX] at h6' ⊢
   simp only[rwS,Option.some.injEq] at h6'
   subst h6'
   exact fun _=>⟨aPE.symm,rfl,ht⟩
  simp only[Ol] at hj
  exact hj bO
end
attribute [irreducible] skO Ol rwS dfV
def uB(r ck:Nat)(seen:List Nat):Obj:= .mapIter (some r) ck ⟨seen⟩ ck
def cy(es:Array MapEntry)(seen:List Nat):List MapEntry:=es.toList.filter fun e=> !seen.contains e.born
theorem BD(es:Array MapEntry):cy es []=es.toList:=by simp[cy]
theorem Xu{es:Array MapEntry}{b:Nat}{e:MapEntry}:e∈cy es (seen++[b])↔e∈cy es seen∧e.born≠b:=by
 simp only[cy,List.mem_filter,Bool.not_eq_true',List.contains_eq_mem,List.mem_append,List.mem_singleton,decide_eq_false_iff_not,not_or,and_assoc]
theorem Fs{es:Array MapEntry}{e:MapEntry}(h:e∈cy es seen):(cy es (seen++[e.born])).length <(cy es seen).length:=by
 have:cy es (seen++[e.born])=(cy es seen).filter fun x=> !decide (x.born=e.born):=by
  simp only[cy,List.filter_filter]
  refine List.filter_congr fun x _=>?_
  simp only[List.contains_eq_mem,List.mem_append,List.mem_singleton,Bool.decide_or,Bool.not_or]
  rw[Bool.and_comm]
 rw[this]
 exact List.length_filter_lt_length_iff_exists.2 ⟨e,h,by simp⟩
def mrV(P:Program)(n:Nat)(p:Oper)(e:Env):Option Value:=match p.op with
 | .range T x=>match aV P T with
  |some ⟨.map _ _,_,_,_⟩=>a8 n e x
  |_=>none
 |_=>none
def nmV(n:Nat)(p:Oper)(e:Env):Option Value:=match p.op with
 | .next x false=>a8 n e x
 |_=>none
def enV(n:Nat)(p:Oper)(e:Env):Option Value:=match p.op with
 | .entry x=>a8 n e x
 |_=>none
theorem Ie{β:Type}{s:St}{Q:β→St→Prop}{E:Halt→St→Prop}{k:Nat→Sem β}(hn:0 <n)(h:∀j,j <n→bH P (k j) s Q E):bH P (choose (.mapNext n) >>= k) s Q E:=by
 show (if (Question.mapNext n).forced=true then _ else _)
 split
 ·exact h 0 hn
 ·exact fun q=>h _ (Nat.mod_lt _ hn)
section
variable {X:Cx} {o:Option JS}
theorem jmR{es:Array MapEntry}(hm:X.ro r=some (.map es ck))(hj:∀b,J X (mZ [] (.pointer (some ⟨b,0,none⟩)) [(b,uB r ck [])] o))(hv:e9 X.n (mrV X.P X.n) o=some (.map (some r)):=by kernel_rfl)(hB:dY [] o=some []:=by kernel_rfl):J X o:=by
 refine jS (Φ:=fun v L'=>∃b,v= .pointer (some ⟨b,0,none⟩)∧L'=[(b,uB r ck [])]) [] [] hv hB (fun p e hf=>?_) (fun v L' p6=>?_)
 ·unfold mrV at hf
  split at hf<;>try (cases hf;done)
  rename_i T x aw
  split at hf<;>try (cases hf;done)
  rename_i dQ
  obtain⟨bu,tf⟩:=an dQ
  refine⟨by rw[aw];simp,fun R Q E hQ=>?_⟩
  simp only[execOp,aw,Instr.range,aa,aW tf,aC hf]
  refine cq (.inl hm) rfl rfl ?_
  simp only[aa,ae,nZ]
  intro b hb
  exact hQ _ _ ⟨b,rfl,rfl⟩
 ·obtain⟨b,rfl,rfl⟩:=p6
  exact hj b
theorem jmN{kv:κ→Value}{F:List (κ×Value)}{es:Array MapEntry}(i:Nat)(hm:X.ro r=some (.map es ck))(hE:td kv F es ck)
 (hT:∀k v e,(k,v)∈F→e∈cy es seen→e.key=kv k→e.val=v→J X (mZ [i] (.tuple ⟨[.bool true,kv k,v]⟩) [(it,uB r ck (seen++[e.born]))] o))
 (hF:cy es seen=[]→J X (mZ [i] (.tuple ⟨[.bool false]⟩) [(it,uB r ck seen)] o))
 (hv:e9 X.n (nmV X.n) o=some (.pointer (some ⟨it,0,none⟩)):=by kernel_rfl)(hB:dY [i] o=some [(it,uB r ck seen)]:=by kernel_rfl):J X o:=by
 refine jS (Φ:=fun v L'=>(∃e,e∈cy es seen∧v= .tuple ⟨[.bool true,e.key,e.val]⟩∧L'=[(it,uB r ck (seen++[e.born]))])∨(cy es seen=[]∧v= .tuple ⟨[.bool false]⟩∧L'=[(it,uB r ck seen)])) [i] _ hv hB (fun p e hf=>?_) (fun v L' p6=>?_)
 ·unfold nmV at hf
  split at hf<;>try (cases hf;done)
  rename_i x aw
  refine⟨by rw[aw];simp,fun R Q E hQ=>?_⟩
  simp only[execOp,aw,Instr.next,aa,aC hf]
  have hs:(⟨X.ro,[(it,uB r ck seen)]++R⟩:St).rw=[]++(it,uB r ck seen)::R:=rfl
  refine cq (o:=uB r ck seen) (.inr (by rw[hs];exact fx)) rfl rfl ?_
  simp only[uB,aa]
  refine cq (.inl hm) rfl rfl ?_
  simp only[aa]
  have hb:=hE.2.2
  have bM:¬((!(⟨seen⟩:Array Nat).isEmpty&& !es.isEmpty&&es.all (·.born≥ck))=true):=by
   intro h
   simp only[Bool.and_eq_true,Bool.not_eq_true',Array.all_eq_true,decide_eq_true_eq] at h
   obtain⟨⟨_,h1⟩,h2⟩:=h
   have uM:0 <es.size:=by
    rcases Nat.eq_zero_or_pos es.size with h0|h0
    ·simp[Array.isEmpty,h0] at h1
    ·exact h0
   have:=h2 0 uM
   have:=hb es[0] (by simp)
   omega
  rw[if_neg bM]
  have xJ:(es.filter fun e=> !(⟨seen⟩:Array Nat).contains e.born)=⟨cy es seen⟩:=by
   rcases es with ⟨l⟩
   simp[cy]
  have hold:((⟨cy es seen⟩:Array MapEntry).filter fun e=>decide (e.born <ck))=⟨cy es seen⟩:=by
   have:(cy es seen).filter (fun e=>decide (e.born <ck))=cy es seen:=List.filter_eq_self.2 fun e he=>decide_eq_true (hb e (List.mem_filter.1 he).1)
   simp[this]
  have sQ:((⟨cy es seen⟩:Array MapEntry).filter fun e=>decide (e.born≥ck))=⟨[]⟩:=by
   have:(cy es seen).filter (fun e=>decide (e.born≥ck))=[]:=List.filter_eq_nil_iff.2 fun e he=>by
    have:=hb e (List.mem_filter.1 he).1
    simp only[decide_eq_true_eq];omega
   simp[this]
  simp only[xJ,hold,sQ]
  cases hl:cy es seen with
  |nil=>
   simp only[List.isEmpty_toArray,List.isEmpty_nil,if_true]
   refine Ie (by simp) fun j hj=>?_
   have hc:(#[(none:Option MapEntry)]++((⟨[]⟩:Array MapEntry)++⟨[]⟩).map some)[j]?=some none:=by
    simp at hj
    subst hj;simp
   show bH X.P ((match (#[(none:Option MapEntry)]++((⟨[]⟩:Array MapEntry)++⟨[]⟩).map some)[j]? with|some (some e)=>_|some none=>_|none=>_) >>= fun v=>pure (Next.value v)) _ _ _
   rw[hc]
   exact hQ _ _ (.inr ⟨hl,rfl,rfl⟩)
  |cons e0 l=>
   have hem:(⟨e0::l⟩:Array MapEntry).isEmpty=false:=by simp
   simp only[hem,Bool.false_eq_true,if_false]
   have FY:(#[]++((⟨e0::l⟩:Array MapEntry)++⟨[]⟩).map some:Array (Option MapEntry))=⟨(e0::l).map some⟩:=by simp
   rw[FY]
   refine Ie (by simp) fun k cz=>?_
   have cz:k <(e0::l).length:=by simpa using cz
   have hk:(⟨(e0::l).map some⟩:Array (Option MapEntry))[k]?=some (some (e0::l)[k]):=by
    rw[List.getElem?_toArray,List.getElem?_map,List.getElem?_eq_getElem cz];rfl
   show bH X.P ((match (⟨(e0::l).map some⟩:Array (Option MapEntry))[k]? with|some (some e)=>_|some none=>_|none=>_) >>= fun v=>pure (Next.value v)) _ _ _
   rw[hk]
   simp only[aa]
   have mY:(⟨X.ro,[(it,Obj.mapIter (some r) ck ⟨seen⟩ ck)]++R⟩:St).rw=[]++(it,Obj.mapIter (some r) ck ⟨seen⟩ ck)::R:=rfl
   refine ez (o:= .mapIter (some r) ck ((⟨seen⟩:Array Nat).push (e0::l)[k].born) ck) rfl mY rfl ?_
   have hp:(⟨seen⟩:Array Nat).push (e0::l)[k].born=⟨seen++[(e0::l)[k].born]⟩:=by simp
   rw[hp]
   have:=hQ (.tuple ⟨[.bool true,(e0::l)[k].key,(e0::l)[k].val]⟩) [(it,uB r ck (seen++[(e0::l)[k].born]))] (.inl ⟨_,by rw[hl];exact List.getElem_mem cz,rfl,rfl⟩)
   exact this
 ·rcases p6 with ⟨e,he,rfl,rfl⟩| ⟨h1,rfl,rfl⟩
  ·have:(e.key,e.val)∈F.map (fun x=>(kv x.1,x.2)):=by
    rw[←hE.1];exact List.mem_map_of_mem (f:=fun e:MapEntry=>(e.key,e.val)) (List.mem_filter.1 he).1
   obtain⟨⟨k,v⟩,h1,h2⟩:=List.mem_map.1 this
   simp only[Prod.mk.injEq] at h2
   have:=hT k v e h1 he h2.1.symm h2.2.symm
   rwa[h2.1,h2.2] at this
  ·exact hF h1
theorem jmE{kv:κ→Value}{F:List (κ×Value)}{es:Array MapEntry}{e:MapEntry}{k:κ}{v:Value}(i:Nat)(hm:X.ro r=some (.map es ck))(hE:td kv F es ck)(he:e∈cy es seen)(hk:e.key=kv k)(hvl:e.val=v)
 (hj:J X (mZ [i] (.tuple ⟨[kv k,v]⟩) [(it,uB r ck (seen++[e.born]))] o))
 (hv:e9 X.n (enV X.n) o=some (.pointer (some ⟨it,0,none⟩)):=by kernel_rfl)(hB:dY [i] o=some [(it,uB r ck (seen++[e.born]))]:=by kernel_rfl):J X o:=by
 refine jS (Φ:=fun w L'=>w= .tuple ⟨[kv k,v]⟩∧L'=[(it,uB r ck (seen++[e.born]))]) [i] _ hv hB (fun p en hf=>?_) (fun w L' p6=>?_)
 ·unfold enV at hf
  split at hf<;>try (cases hf;done)
  rename_i x aw
  refine⟨by rw[aw];simp,fun R Q E hQ=>?_⟩
  simp only[execOp,aw,Instr.entry,aa,aC hf]
  have hs:(⟨X.ro,[(it,uB r ck (seen++[e.born]))]++R⟩:St).rw=[]++(it,uB r ck (seen++[e.born]))::R:=rfl
  refine cq (o:=uB r ck (seen++[e.born])) (.inr (by rw[hs];exact fx)) rfl rfl ?_
  have rN:(⟨seen++[e.born]⟩:Array Nat).back?=some e.born:=by simp[Array.back?]
  simp only[uB,rN,aa]
  refine cq (.inl hm) rfl rfl ?_
  have hfe:es.find? (fun x=>x.born==e.born)=some e:=by
   rcases es with ⟨l⟩
   have Ze:e∈l:=(List.mem_filter.1 he).1
   have ma:(l.map (·.born)).Nodup:=hE.2.1
   simp only[List.find?_toArray]
   clear hm hE he hj hv hB hs hQ
   induction l with
   |nil=>cases Ze
   |cons y l ih=>
    simp only[List.map_cons,List.nodup_cons,List.mem_map,not_exists,not_and] at ma
    rcases List.mem_cons.1 Ze with rfl|h
    ·simp
    ·have:y.born≠e.born:=fun h2=>ma.1 e h h2.symm
     rw[List.find?_cons_of_neg (by simpa using this)]
     exact ih h ma.2
  simp only[bne_self_eq_false,Bool.false_eq_true,if_false,hfe,ae,aa]
  exact hQ _ _ ⟨by rw[hk,hvl],rfl⟩
 ·obtain⟨rfl,rfl⟩:=p6
  exact hj
end
theorem RD{kv:κ→Value}{F:List (κ×Value)}{es:Array MapEntry}(hE:td kv F es ck){e x:MapEntry}(he:e∈cy es seen)(hx:x∈cy es seen):x=e∨x∈cy es (seen++[e.born]):=by
 by_cases h:x.born=e.born
 ·left
  have ma:=hE.2.1
  have h1:=(List.mem_filter.1 he).1
  have h2:=(List.mem_filter.1 hx).1
  generalize es.toList=l at ma h1 h2
  induction l with
  |nil=>cases h1
  |cons y l ih=>
   simp only[List.map_cons,List.nodup_cons,List.mem_map,not_exists,not_and] at ma
   rcases List.mem_cons.1 h1 with k1|k1
   ·rcases List.mem_cons.1 h2 with k2|k2
    ·rw[k1,k2]
    ·exact absurd (by rw[h,k1]) (ma.1 x k2)
   ·rcases List.mem_cons.1 h2 with k2|k2
    ·exact absurd (by rw[←h,k2]) (ma.1 e k1)
    ·exact ih ma.2 k1 k2
 ·exact .inr (Xu.2 ⟨hx,h⟩)
def msV(P:Program)(n:Nat)(p:Oper)(e:Env):Option (TypeId×List Value):=match p.op with
 | .makeSlice T x y=>match aV P T with
  |some ⟨.slice E,_,_,_⟩=>match aV P E with
   |some te=>match a8 n e x,a8 n e y with
    |some (.int .i64 a),some (.int .i64 b)=>bif (decide (a=2)&&decide (b=2))&&(Nat.beq te.size 1&&Nat.ble (tA P E) 65536) then some (E,te.zero) else none
    |_,_=>none
   |none=>none
  |_=>none
 |_=>none
theorem jmS{E:TypeId}{z:Value}(hj:∀b,J X (mZ [] (.slice (some ⟨b,0,none⟩) 2 2) [(b,.cells ⟨[z,z]⟩ E (0,0))] o))(hv:e9 X.n (msV X.P X.n) o=some (E,[z]):=by kernel_rfl)(hB:dY [] o=some []:=by kernel_rfl):J X o:=by
 refine jS (Φ:=fun v L'=>∃b,v= .slice (some ⟨b,0,none⟩) 2 2∧L'=[(b,.cells ⟨[z,z]⟩ E (0,0))]) [] [] hv hB (fun p e hf=>?_) (fun v L' p6=>?_)
 ·unfold msV at hf
  split at hf<;>try (cases hf;done)
  rename_i T x y aw
  split at hf<;>try (cases hf;done)
  rename_i E' _ _ _ dQ
  split at hf<;>try (cases hf;done)
  rename_i te tW
  split at hf<;>try (cases hf;done)
  rename_i a b hx hy
  cases hc:((decide (a=2)&&decide (b=2))&&(Nat.beq te.size 1&&Nat.ble (tA X.P E') 65536)) with
  |false=>rw[hc] at hf;cases hf
  |true=>
   rw[hc] at hf
   simp only[cond_true,Option.some.injEq,Prod.mk.injEq] at hf
   obtain⟨rfl,hz⟩:=hf
   simp only[Bool.and_eq_true,decide_eq_true_eq,Nat.beq_eq,Nat.ble_eq] at hc
   obtain⟨⟨rfl,rfl⟩,uM,hby⟩:=hc
   obtain⟨Zl,tf⟩:=an dQ
   obtain⟨bu,jW⟩:=an tW
   obtain⟨i,hi,hi1,Sq,hi3⟩:=jW.info
   have ake:bu≤65536:=by simp only[tA,hi] at hby;omega
   have asz:¬((bu:Int)*2>2^48):=by omega
   have w2:IntKind.i64.wrap 2=2:=kD 2 (by omega)
   have iO:(MG [z] te.agg).cells=⟨[z]⟩:=by rw[←hz];exact ei jW
   have FY:((Array.range ((2:Int).toNat*1)).map fun x=>(⟨[z]⟩:Array Value)[x % (⟨[z]⟩:Array Value).size]!)=⟨[z,z]⟩:=by apply Array.ext';simp[Nat.mod_one,List.range,List.range.loop]
   refine⟨by rw[aw];simp,fun R Q E hQ=>?_⟩
   simp only[execOp,aw,Instr.makeSlice,aC hx,aC hy,asInt,asIntOf,aa,aW tf,ae,nt hi,Sq,w2,asz,show ¬((2:Int) <0) by omega,show ¬((2:Int)>2) by omega,decide_false,Bool.or_self,Bool.false_eq_true,if_false]
   refine sq ?_
   simp only[aa,bV jW,uM,show ¬((2:Int).toNat*1=0) by decide,if_false,j9 jW,ae,hz,iO,FY,jo]
   intro b hb
   exact hQ _ _ ⟨b,rfl,rfl⟩
 ·obtain⟨b,rfl,rfl⟩:=p6
  exact hj b
def ak5(body:Code):Option JS→Option (JS×Nat)
 |some ⟨.fin .normal,e,.b c oc:: .b b (.loop r)::w,kn⟩=>match r.state with
  | .ready=>some (⟨.code body [],e,.b c oc:: .b b (.loop {r with state:= .busy})::w,kn⟩,b)
  |_=>none
 |_=>none
theorem azf{ro:Nat→Option Obj}(h:J (X.re bl ro Φ) (Dt (ak5 body o)))(h1:QQ (ak5 body o)=some bl:=by kernel_rfl):J (X.rd bl ro Φ body) o:=by
 unfold ak5 at h h1
 split at h<;>try (unfold Dt at h;exact h.elim)
 rename_i e c oc b r w kn
 split at h<;>try (unfold Dt at h;exact h.elim)
 rename_i bM
 unfold QQ at h1
 unfold Dt at h
 simp only[bM,Option.some.injEq] at h1
 subst h1
 intro bO
 have hw:=h bO
 simp only[JP,Cx.rd,GP,Cc]
 refine⟨[(c,oc)],r,den w,by rw[iJ,iJ];rfl,bM,?_⟩
 simp only[JP,iJ] at hw
 exact hw
theorem azc{hm:P.follows .mixedOrders=true}{ro:Nat→Option Obj}(own:List Sg)(kn:Cells)(hk:Knows ro kn)(h:J (XM P hm f ro R) (kS P f args own kn)):Fn (CP P) P f ⟨args⟩ ⟨ro,den own⟩ R:=by
 unfold kS at h
 split at h<;>try exact h.elim
 rename_i fn hf
 split at h<;>try exact h.elim
 rename_i c hc
 cases hl:Nat.ble args.length fn.ntmps with
 |false=>rw[hl] at h;exact h.elim
 |true=>
  rw[hl] at h
  have uO:sW P f=fn:=by simp only[sW,hf]
  have:=h hk
  simp only[JP,XM,KQ,uO] at this
  refine Jh eW hf hc ?_
  have he:=kN args fn.ntmps (Nat.le_of_ble_eq_true hl)
  rw[←he] at this
  exact this
section
variable {X:Cx} {o:Option JS}
theorem aM9{ui:List Nat}(hq:QM X R ui)(v:Value)(pm hs ps:List Nat)(Y:Cells)(fM:Sub oZ X.ro)(hR:R (.returned v) ⟨oZ,Y⟩)(h0:dY pm o=some (mk ui):=by kernel_rfl)(h1:sU (jY X.P X.n X.fn hs (BZ pm o))=some v:=by kernel_rfl)(h2:Qn (jY X.P X.n X.fn hs (BZ pm o))=Qm (jY X.P X.n X.fn hs (BZ pm o)):=by kernel_rfl)(h3:dY ps (BZ pm o)=some Y:=by kernel_rfl)(h4:BS o=true:=by kernel_rfl):J X o:=by
 obtain⟨ex,e,w,kn,rfl,hex⟩:=sY h4
 simp only[BZ,jY] at h1 h2 h3
 cases hr:Bb X.P X.n e (dA pm 0 w) kn.c hs (sW X.P X.fn).results.toList with
 |none=>simp only[hr,sU] at h1;cases h1
 |some x=>
  rcases x with ⟨vs,q⟩
  simp only[hr,sU,Option.some.injEq,Qn,Qm] at h1 h2
  intro bO
  have rM:=tF bO hr (mb h2)
  have hp:=bB h3
  have G5:=Nn (s0:=⟨oZ,Y⟩) (R:=R) hex rM h1 (dP hp fM) hR
  have ht:bH X.P (results (sW X.P X.fn) (A X.n e X.D).tmps) ⟨X.ro,den (dA pm 0 w)⟩ (fun v s'=>∃s0,s0.le s'∧R (.returned v) s0) (fun _ _=>False):=by
   rcases hex with rfl|rfl<;>exact G5.2
  show X.Q ex (A X.n e X.D) ⟨X.ro,den w⟩
  rw[hq.q]
  have hm:∃ui rest,(A X.n e X.D).defers=ui.map ek∧(den w).Perm (mk ui++rest)∧bH X.P (results (sW X.P X.fn) (A X.n e X.D).tmps) ⟨X.ro,rest⟩ (fun v s'=>∃s0,s0.le s'∧R (.returned v) s0) (fun _ _=>False):=⟨ui,_,hq.d,bB h0,ht⟩
  rcases hex with rfl|rfl<;>exact hm
end
attribute [irreducible] mrV nmV enV uB msV ak5
end Go.L

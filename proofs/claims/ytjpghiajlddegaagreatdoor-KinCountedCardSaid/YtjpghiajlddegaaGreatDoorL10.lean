/- Part 10 of the proof: a program logic, contracts, a theorem on goroutines. -/
import Derived.Test.YtjpghiajlddegaaGreatDoorL9
set_option maxRecDepth 100000
set_option linter.all false
namespace Go.L
open Go Go.Conc
open Go.ConcR (KK wgBlock WgAt stA smA rd wr)
variable {f:FuncId} {Φ:Value→Cells→Prop} {todo seen:List Nat} {P:Program} {oM:Nat→Option Obj} {R:Ending→St→Prop} {args ca vs:List Value} {T:Goroutine→St→Prop} {o:Option JS} {k yJ:List Item} {ats:Array TypeId} {i n id ck q r bd bl it:Nat} {fn:Func} {x y:Operand} {X:Cx} {U:TypeId} {cs:List Frame} {κ:Type} {main:Bool} {body:Code}
def TT(T:Goroutine→St→Prop)(b:Frame)(yJ:List Item)(cs:List Frame)(n:Nat)(D:List Deferred)(ro:Nat→Option Obj)(o:Option JS):Prop:=
 ∀e w kn,o=some ⟨.fin .normal,e,w,kn⟩→Knows ro kn.c→T (G (aH b (A n e D) yJ) cs) ⟨ro,den w⟩
def CT(hm:P.follows .mixedOrders=true)(hT:Closed P main T)(b:Frame)(yJ:List Item)(cs:List Frame)(n:Nat)(D:List Deferred)(ro:Nat→Option Obj):Cx:=
 ⟨P,fun m T'=>m=main∧T'=T,by rintro _ _ ⟨rfl,rfl⟩;exact hT,hm,b.fn,none,n,D,ro,jA T b yJ cs⟩
def SO:Option JS→Bool
 |some ⟨.fin .normal,_,_,_⟩=>true
 |_=>false
def opO(ops:Array Oper)(todo:List Nat):Option JS→Option JS
 |some ⟨.fin .normal,e,w,kn⟩=>some ⟨.ops ops todo [],e,w,⟨kn.c,[]⟩⟩
 |_=>none
def cdO(c:Code):Option JS→Option JS
 |some ⟨.fin .normal,e,w,kn⟩=>some ⟨.code c [],e,w,⟨kn.c,[]⟩⟩
 |_=>none
def YL(dst:Option Tmp)(v:Value):Option JS→Option JS
 |some ⟨p,e,w,kn⟩=>some ⟨p,upd dst v e,w,kn⟩
 |none=>none
def nwO(dst:Option Tmp)(v:Value)(q:Nat)(ob:Obj):Option JS→Option JS
 |some ⟨p,e,w,kn⟩=>some ⟨p,upd dst v e,.b q ob::w,kn⟩
 |none=>none
def adO(L:Cells):Option JS→Option JS
 |some ⟨p,e,w,kn⟩=>some ⟨p,e,.l L::w,kn⟩
 |none=>none
def evO(n:Nat)(x:Operand):Option JS→Option Value
 |some ⟨_,e,_,_⟩=>ba n e x
 |none=>none
def aRU(n:Nat)(xs:List Operand):Option JS→Option (List Value)
 |some ⟨_,e,_,_⟩=>xq n e xs
 |none=>none
def vaO(P:Program)(n:Nat)(a:Oper):Option JS→Option Value
 |some ⟨_,e,_,_⟩=>ZA P n e a
 |none=>none
theorem Ya(h:SO o=true):∃e w kn,o=some ⟨.fin .normal,e,w,kn⟩:=by
 unfold SO at h
 split at h
 ·exact⟨_,_,_,rfl⟩
 ·cases h
def X6(f:FuncId)(k:CallKind):Frame:={(default:Frame) with fn:=f,kind:=k,roundOf:=none}
section
variable {P:Program} {main:Bool} {T:Goroutine→St→Prop} {b:Frame} {yJ:List Item} {cs:List Frame} {n:Nat} {D:List Deferred} {ro:Nat→Option Obj} {o:Option JS} {ops:Array Oper}
theorem ZW(h:TT T b yJ cs n D ro o)(hQ:X.Q=jA T b yJ cs)(hn:X.n=n)(hD:X.D=D)(zr:X.ro=ro)(h1:SO o=true):J X o:=by
 subst hn hD zr
 obtain⟨e,w,kn,rfl⟩:=Ya h1
 intro bP
 show X.Q .normal _ _
 rw[hQ]
 exact h _ _ _ rfl bP
theorem wY{hm:P.follows .mixedOrders=true}{hT:Closed P main T}(h:TT T b yJ cs n D ro o)(h1:SO o=true:=by kernel_rfl):J (CT hm hT b yJ cs n D ro) o:=ZW h rfl rfl rfl rfl h1
theorem awc{hm:P.follows .mixedOrders=true}{hT:Closed P main T}(h:TT T b yJ cs n D ro o)(h1:SO o=true:=by kernel_rfl):J ((CT hm hT b yJ cs n D oM).at ro) o:=ZW h rfl rfl rfl rfl h1
theorem awb{hm:P.follows .mixedOrders=true}{hT:Closed P main T}(h:TT T b yJ cs n (dS bd::D) ro o)(h1:SO o=true:=by kernel_rfl):J ((CT hm hT b yJ cs n D ro).dm bd) o:=ZW h rfl rfl rfl rfl h1
theorem uV(hm:P.follows .mixedOrders=true)(hT:Closed P main T)(hj:J (CT hm hT b yJ cs n D ro) (opO ops todo o))(hk:b.kind≠ .early:=by decide)(hr:b.roundOf=none:=by rfl):TT T b (.inRegion ops todo::yJ) cs n D ro o:=by
 rintro e w kn rfl bP
 exact hj bP main T ⟨rfl,rfl⟩ b yJ cs rfl hk hr fun e a s q=>q
theorem awd(hm:P.follows .mixedOrders=true)(hT:Closed P main T){c:Code}(hj:J (CT hm hT b yJ cs n D ro) (cdO c o))(hk:b.kind≠ .early:=by decide)(hr:b.roundOf=none:=by rfl):TT T b (.code c::yJ) cs n D ro o:=by
 rintro e w kn rfl bP
 exact hj bP main T ⟨rfl,rfl⟩ b yJ cs rfl hk hr fun e a s q=>q
theorem tSt(hT:Closed P main T)(ef:Env)(wf:List Sg)(ps:List Nat)(h:∀rest,TT T b yJ cs n D ro (some ⟨.fin .normal,ef++rest,wf,⟨[],[]⟩⟩))(h1:ug (oI ef) o=some ef:=by kernel_rfl)(h2:qE ps o=some wf:=by kernel_rfl)(h3:YO (oI ef) ef=some ef:=by kernel_rfl):TT T b yJ cs n D ro o:=by
 rintro e w kn rfl bP
 obtain⟨rest,he⟩:=fP (n:=n) (D:=D) (j6 (by rw[sj] at h1;exact h1)) (j6 h3)
 rw[he]
 exact hT.mono _ ⟨ro,den wf⟩ _ (dH (lf h2) (Sub.refl _)) (h rest _ _ _ rfl fun _ h=>(by cases h))
section
variable {k:List Item} {rest l:List Code} (hT:Closed P main T)
include hT
theorem px(hl:gv l= .region id ops false::rest)(h:∀l',gv l'=rest→TT T b (.inRegion ops (List.range ops.size)::(l'.map .code++k)) cs n D ro o):TT T b (l.map .code++k) cs n D ro o:=
 fun e w kn ho bP=>dB hT hl fun l' ym=>h l' ym e w kn ho bP
theorem TS{c:Operand}{x y:Code}{t q:Bool}(hl:gv l= .cond c x y::rest)(hq:q=t)(h:∀l',gv l'=rest→TT T b (.code (if t then x else y)::(l'.map .code++k)) cs n D ro o)(hc:evO n c o=some (.bool q):=by kernel_rfl):TT T b (l.map .code++k) cs n D ro o:=by
 subst hq
 rintro e w kn rfl bP
 exact zg hT hl (by rw[dW];exact aC hc) fun l' ym=>h l' ym e w kn rfl bP
theorem JE{c:Code}(hl:gv l= .block id c::rest)(h:∀l',gv l'=rest→TT T b ([c].map .code++(.inBlock id::(l'.map .code++k))) cs n D ro o):TT T b (l.map .code++k) cs n D ro o:=
 fun e w kn ho bP=>u5 hT hl fun l' ym=>h l' ym e w kn ho bP
theorem als{c:Code}(hl:gv l= .loop c::rest)(h:∀l',gv l'=rest→TT T b ([c].map .code++(.inLoop c::(l'.map .code++k))) cs n D ro o):TT T b (l.map .code++k) cs n D ro o:=
 fun e w kn ho bP=>Kh hT hl fun l' ym=>h l' ym e w kn ho bP
theorem alu{c:Code}(hl:gv l=c::rest)(h:∀l',gv l'=rest→TT T b (.code c::(l'.map .code++k)) cs n D ro o):TT T b (l.map .code++k) cs n D ro o:=
 fun e w kn ho bP=>nn hT hl fun l' ym=>h l' ym e w kn ho bP
theorem alq(h:TT T b k cs n D ro o):TT T b (.code .skip::k) cs n D ro o:=fun e w kn ho bP=>Lh hT (h e w kn ho bP)
theorem alv{k':List Item}(hk:exitTo id k=some k')(h:TT T b k' cs n D ro o):TT T b (.code (.exit id)::k) cs n D ro o:=fun e w kn ho bP=>Li hT hk (h e w kn ho bP)
theorem alw(h:TT T b k cs n D ro o):TT T b (.inBlock id::k) cs n D ro o:=fun e w kn ho bP=>BO hT (h e w kn ho bP)
theorem TR(h:TT T b k cs n D ro o):TT T b (.inRegion ops []::k) cs n D ro o:=fun e w kn ho bP=>gM hT (h e w kn ho bP)
theorem ZX{c:Code}(h:TT T b ([c].map .code++(.inLoop c::k)) cs n D ro o):TT T b (.inLoop c::k) cs n D ro o:=fun e w kn ho bP=>yD hT (h e w kn ho bP)
theorem av7{a:Oper}{f:Nat→Value}{ob:Obj}(ho:ops[i]?=some a) (hg:a.guard=none) (sw:∀e q,Ri P (execOp (ev n e) a) q=some (ob,f q)) (hk:b.kind≠ .early) (hr:b.roundOf=none)
 (h:∀q,TT T b (.inRegion ops todo::k) cs n D ro (nwO a.dst (f q) q ob o)):TT T b (.inRegion ops (i::todo)::k) cs n D ro o:=by
 rintro e w kn rfl bP
 refine sb hT ho (da _ _ hg) hk hr ?_
 rw[dW]
 refine Fc (f:=f) (fun q _=>⟨_,rfl,?_⟩) _ (sw e)
 rw[aU]
 have:=h q _ _ _ rfl bP
 rw[ib] at this
 exact this
theorem av4{a:Oper}(v:Value)(ho:ops[i]?=some a) (hg:a.guard=none) (hk:b.kind≠ .early) (hr:b.roundOf=none) (h:TT T b (.inRegion ops todo::k) cs n D ro (YL a.dst v o)) (hv:vaO P n a o=some v:=by kernel_rfl):TT T b (.inRegion ops (i::todo)::k) cs n D ro o:=by
 rintro e w kn rfl bP
 refine sb hT ho (da _ _ hg) hk hr ?_
 rw[dW]
 refine yW hv _ (Ext.refl _) _ (fun _ _ h=>aC h) _ _ ⟨v,rfl,?_⟩
 rw[aU]
 exact h _ _ _ rfl bP
theorem tLd{a:Oper}(v:Value)(ho:ops[i]?=some a) (hg:a.guard=none) (ax:a.op= .load U x) (ht:(aV P U).map (·.agg)=some false) (hk:b.kind≠ .early) (hr:b.roundOf=none) {fz:Nat×Nat} {t:TypeId} (hb:∀e w kn,o=some ⟨.fin .normal,e,w,kn⟩→(⟨ro,den w⟩:St).has q (.cells ⟨[v]⟩ t fz))
 (h:TT T b (.inRegion ops todo::k) cs n D ro (YL a.dst v o)) (hx:evO n x o=some (.pointer (some ⟨q,0,none⟩)):=by kernel_rfl):TT T b (.inRegion ops (i::todo)::k) cs n D ro o:=by
 rintro e w kn rfl bP
 refine sb hT ho (da _ _ hg) hk hr ?_
 rw[dW]
 cases dI:aV P U with
 |none=>rw[dI] at ht;cases ht
 |some z=>
 rw[dI] at ht
 simp only[Option.map_some,Option.some.injEq] at ht
 obtain⟨bu,tf⟩:=ar dI
 rw[ht] at tf
 simp only[execOp,ax,Instr.loadAt,aC hx,Instr.sureAddr,loadVar,aa,ae,jW tf,Bool.false_eq_true,if_false]
 refine uU ⟨[v],t,fz,hb _ _ _ rfl,rfl⟩ ⟨v,rfl,?_⟩
 rw[aU]
 exact h _ _ _ rfl bP
theorem aKl{a:Oper}(v:Value)(ho:ops[i]?=some a) (hg:a.guard=none) (ax:a.op= .load U x) (ht:(aV P U).map (·.agg)=some false) (hk:b.kind≠ .early) (hr:b.roundOf=none) (ps:List Nat) (t:TypeId)
 (h:TT T b (.inRegion ops todo::k) cs n D ro (YL a.dst v o)) (hx:evO n x o=some (.pointer (some ⟨q,0,none⟩)):=by kernel_rfl) (hd:dN ps o=some [(q,.cells ⟨[v]⟩ t (0,0))]:=by kernel_rfl):TT T b (.inRegion ops (i::todo)::k) cs n D ro o:=
 tLd hT v ho hg ax ht hk hr (fz:=(0,0)) (t:=t) (q:=q) (fun e w kn he=>by
  subst he
  exact .inr ((bB hd).mem_iff.2 (List.mem_append_left _ (List.mem_singleton.2 rfl)))) h hx
end
theorem aoa(hT:Closed P main T){a:Oper}{xs:Array Operand}(ho:ops[i]?=some a) (hg:a.guard=none) (ax:a.op= .defer ⟨.value (.func f),xs,ats⟩) (hk:b.kind≠ .early) (hr:b.roundOf=none)
 (h:TT T b k cs n ({target:= .fn (.func f) ⟨[]⟩,args:=⟨vs⟩}::D) ro (YL a.dst undef o)) (hx:aRU n xs.toList o=some vs:=by kernel_rfl):TT T b (.inRegion ops [i]::k) cs n D ro o:=by
 rintro e w kn rfl bP
 have hC:∀m T',(fun m T'=>m=main∧T'=T:Class) m T'→Closed P m T':=by rintro _ _ ⟨rfl,rfl⟩;exact hT
 have key:ab (fun m T'=>m=main∧T'=T) b.fn none ops [i] (jA T b k cs) (A n e D) ⟨ro,den w⟩:=by
  refine Kg (P:=P) hC ho (da _ _ hg) (.inl rfl) ?_
  rw[dW]
  have e1:ev n e (.func f)= .func (.func f) #[] #[]:=rfl
  have e2:xs.map (ev n e)=⟨vs⟩:=rF hx
  simp only[execOp,ax,resolve,e1,Deferred.ofValue,ae,e2]
  refine⟨rfl,?_⟩
  have hA:({A n e D with defers:={target:= .fn (.func f) ⟨[]⟩,args:=⟨vs⟩}::(A n e D).defers}:Act).put a.dst undef=A n (upd a.dst undef e) ({target:= .fn (.func f) ⟨[]⟩,args:=⟨vs⟩}::D):=by
   rw[←aU];rfl
  have he:(⟨[]⟩:Array Value)++(⟨vs⟩:Array Value)=⟨vs⟩:=by simp
  rw[he]
  have:=h _ _ _ rfl bP
  rw[←hA] at this
  exact fun m T' hc b' k' Hg h1 h2 h3 h4=>by
   obtain⟨rfl,rfl⟩:=hc
   exact gM hT (h4 .normal _ _ this)
 exact key main T ⟨rfl,rfl⟩ b k cs rfl hk hr fun e a s q=>q
end
attribute [irreducible] SO opO cdO
structure agj(L:Nat→Option Obj)(X:Cells)(ro aK:Nat→Option Obj):Prop where
 of:∀q o,L q=some o→(q,o)∈X
 on:∀q o,(q,o)∈X→L q=some o
 sub:Sub ro aK
 kn:Knows aK X
 nd:(X.map (·.1)).Nodup
 ap:∀q o,(q,o)∈X→ro q=none
def bkO(L:Cells):Option JS→Option JS
 |some ⟨p,e,w,_⟩=>some ⟨p,e,.l L::w,⟨[],[]⟩⟩
 |none=>none
def QJ(ps:List Nat):Option JS→Option Cells
 |some ⟨_,_,w,_⟩=>some (den (dj ps 0 w))
 |none=>none
def UO:Option JS→Option JS
 |some ⟨p,e,_,kn⟩=>some ⟨p,e,[],⟨kn.c,[]⟩⟩
 |none=>none
theorem BS:∀(w:List Sg) (k:Nat),dj [] k w=w
 | [],_=>rfl
 |x::w,k=>by
  simp only[dj,aX]
  rw[BS w]
  rfl
theorem agj.back{L:Nat→Option Obj}{X:Cells}{ro aK roK:Nat→Option Obj}{rwK:Cells}(h:agj L X ro aK)(hs:Sub aK roK):
 (∀w,aP ⟨roK,rwK⟩ w→(∀b o,L b=some o→w.heap[b]?=some o)→aP ⟨ro,X++rwK⟩ w)∧∀b,(⟨ro,X++rwK⟩:St).knows b→L b≠none∨(⟨roK,rwK⟩:St).knows b:=by
 refine⟨fun w hw hL=>⟨fun q o hq=>hw.ro q o (hs _ _ (h.sub _ _ hq)),fun q o hq=>?_,?_,fun q o hq=>?_⟩,fun q hq=>?_⟩
 ·rcases List.mem_append.1 hq with hq|hq
  ·exact hL q o (h.on q o hq)
  ·exact hw.rw q o hq
 ·show ((X++rwK).map (·.1)).Nodup
  rw[List.map_append,List.nodup_append]
  refine⟨h.nd,hw.nodup,fun q hq q' G5 e=>?_⟩
  subst e
  obtain⟨⟨q1,o1⟩,h1,rfl⟩:=List.mem_map.1 hq
  obtain⟨⟨q2,o2⟩,h2,e2⟩:=List.mem_map.1 G5
  simp only at e2
  subst e2
  have h3:=hs _ _ (h.kn _ h1)
  have h4:=hw.apart _ _ h2
  dsimp only at h3 h4
  rw[h4] at h3
  cases h3
 ·show ro q=none
  rcases List.mem_append.1 hq with hq|hq
  ·exact h.ap q o hq
  ·have h2:roK q=none:=hw.apart q o hq
   cases hr:ro q with
   |none=>rfl
   |some o'=>rw[hs _ _ (h.sub _ _ hr)] at h2;cases h2
 ·rcases hq with hq| ⟨o,hq⟩
  ·have hq:ro q≠none:=hq
   cases hr:ro q with
   |none=>exact absurd hr hq
   |some o'=>exact .inr (.inl (by show roK q≠none;rw[hs _ _ (h.sub _ _ hr)];simp))
  ·rcases List.mem_append.1 hq with h'|h'
   ·exact .inl (by rw[h.on q o h'];simp)
   ·exact .inr (.inr ⟨o,h'⟩)
section
variable {ι:Type} {E:dK ι} {Q:Machine→Outcome→World→Trace→Prop} {b:Frame} {yJ:List Item} {cs:List Frame} {n:Nat} {D:List Deferred} {ro:Nat→Option Obj} {o:Option JS} {ops:Array Oper} {L:Nat→Option Obj}
theorem an9{tm:Bool}(iw ic:Nat)(X:Cells)(ir:Closed E.P true (TL E.P eg (fun _=>none) (Calm E.os E.out) Q))
 (h:∀L aK,agj L X ro aK→E.Wg≠E.Ch→L E.Ch=none→TT (TM E L Q 0 false [] 0) b yJ cs n D aK (UO o))
 (hW:dN [iw,ic] o=some [(E.Wg,wgBlock E.ty 0 0),(E.Ch,.chan 0 #[] false 0 0 tm)]:=by kernel_rfl)(hX:QJ [iw,ic] o=some X:=by kernel_rfl):TT (TL E.P eg (fun _=>none) (Calm E.os E.out) Q) b yJ cs n D ro o:=by
 rintro e w kn rfl bP
 refine Closed.ju ir rfl fun⟨w0,U8⟩=>?_
 have hp:=bB hW
 simp only[QJ,Option.some.injEq] at hX
 have PZ:=hp
 dsimp only at PZ
 rw[hX] at PZ
 have hm:∀x,x∈den w↔x=(E.Wg,wgBlock E.ty 0 0)∨x=(E.Ch,.chan 0 #[] false 0 0 tm)∨x∈X:=fun x=>by
  rw[PZ.mem_iff]
  simp
 have lI:=(PZ.map (·.1)).nodup_iff.1 U8.nodup
 simp only[List.cons_append,List.nil_append,List.map_cons,List.nodup_cons,List.mem_cons,not_or] at lI
 obtain⟨⟨dP,hW1⟩,hC1,Oj⟩:=lI
 have yN:∀x∈X,x∈den w:=fun x hx=>(hm x).2 (.inr (.inr hx))
 have aAA:(E.Wg,wgBlock E.ty 0 0)∈den w:=(hm _).2 (.inl rfl)
 have aeo:(E.Ch,Obj.chan 0 #[] false 0 0 tm)∈den w:=(hm _).2 (.inr (.inl rfl))
 have KM:∀y∈X,y.1≠E.Wg∧y.1≠E.Ch:=fun y hy=>⟨fun e=>hW1 (e▸List.mem_map.2 ⟨_,hy,rfl⟩),fun e=>hC1 (e▸List.mem_map.2 ⟨_,hy,rfl⟩)⟩
 let L:Nat→Option Obj:=fun q=>(X.find? fun y=>y.1==q).map (·.2)
 have Su:∀q o,L q=some o→(q,o)∈X:=fun q o hq=>by
  obtain⟨y,hy,rfl⟩:=Option.map_eq_some_iff.1 hq
  obtain⟨h1,h2⟩:=nX hy
  subst h2
  exact h1
 have aQs:∀q o,(q,o)∈X→L q=some o:=fun q o hq=>by
  show (X.find? fun y=>y.1==q).map (·.2)=some o
  rw[vD Oj hq];rfl
 have Sv:L E.Ch=none:=by
  cases hq:L E.Ch with
  |none=>rfl
  |some o=>exact absurd rfl (KM _ (Su _ _ hq)).2
 have mj:∀q o,(q,o)∈X→ro q=none:=fun q o hq=>U8.apart q o (yN _ hq)
 have fq:Sub ro (St.freeze ⟨ro,X⟩).ro:=fun q o hq=>St.ni (s:=⟨ro,X⟩) hq fun q o hq=>mj q o hq
 have ady:∀q,(∃o,(q,o)∈den w)→(q=E.Wg∨q=E.Ch)→¬(St.freeze ⟨ro,X⟩).knows q:=by
  rintro q ⟨o,ho⟩ hq (hk| ⟨o',DZ⟩)
  ·simp only[St.freeze] at hk
   split at hk
   ·rename_i y hy
    obtain⟨h1,h2⟩:=nX hy
    have:=KM _ h1
    rcases hq with e|e
    ·exact this.1 (h2.trans e)
    ·exact this.2 (h2.trans e)
   ·exact hk (U8.apart q o ho)
  ·cases DZ
 have azD:agj L X ro (St.freeze ⟨ro,X⟩).ro:=⟨Su,aQs,fq,fun x hx=>St.sE (s:=⟨ro,X⟩) (by rcases x with ⟨q,o⟩;exact hx) Oj,Oj,mj⟩
 refine MJ (E:=E) (L:=L) (s':=St.freeze ⟨ro,X⟩) rfl dP aAA ⟨tm,aeo⟩ ?_ (ady _ ⟨_,aAA⟩ (.inl rfl)) (ady _ ⟨_,aeo⟩ (.inr rfl)) (fun q ⟨o,ho⟩=>by cases ho) (fun q o hq=>⟨.inr (yN _ (Su _ _ hq)),KM _ (Su _ _ hq)⟩) ?_
 ·refine⟨den w,by simp[St.freeze],fun q o hq=>?_⟩
  simp only[St.freeze] at hq
  split at hq
  ·rename_i y hy
   obtain⟨h1,h2⟩:=nX hy
   cases hq
   subst h2
   exact .inr (yN _ h1)
  ·exact .inl hq
 ·exact(h L _ azD dP Sv _ _ _ rfl (bP.up fq)).1
theorem aKo{os:List ι}{a:Oper}{bs:List Nat}(h:TT (TM E L Q 1 false os 0) b k cs n D ro (YL a.dst (.tuple #[]) o))(ho:ops[0]?=some a) (hg:a.guard=none) (ax:a.op= .call ⟨.value (.func f),#[x,.const (.int .i64 1)],ats⟩) (hf:FF E.P f) (hk:b.kind≠ .early) (hr:b.roundOf=none) (HF:os.length <E.max)
 (ad1:GC E.P E.ty os.length (Frame.enter E.P f #[.pointer (some ⟨E.Wg,0,none⟩),.int .i64 1] .normal)=some bs) (YY:∀b∈bs,b=E.Wg) (hx:evO n x o=some (.pointer (some ⟨E.Wg,0,none⟩)):=by kernel_rfl):TT (TM E L Q 0 false os 0) b (.inRegion ops [0]::k) cs n D ro o:=by
 rintro e w kn rfl bP
 have hT:Closed E.P true (TM E L Q 0 false os 0):=eX (E:=E) false os (fun e=>(by cases e))
 have Ss:Closed E.P true (TM E L Q 1 false os 0):=eX (E:=E) false os (fun e=>(by cases e))
 refine Nw (rest:=[]) hT ho hg hk hr ax hf ?_
 have mL:(#[x,.const (.int .i64 1)]:Array Operand).map (A n e D).eval= #[.pointer (some ⟨E.Wg,0,none⟩),.int .i64 1]:=by
  rw[dW]
  simp only[List.map_toArray,List.map_cons,List.map_nil,aC hx]
  rfl
 rw[mL]
 refine⟨Jm (E:=E) ad1 YY HF ?_,fun e=>(by cases e)⟩
 rw[fB,ho]
 simp only[Option.bind_some]
 rw[aU]
 exact(gM Ss (h _ _ _ rfl bP)).1
theorem tGo{os:List ι}(oo:ι){a:Oper}(L1:Cells)(ho:ops[i]?=some a) (hg:a.guard=none) (ax:a.op= .go ⟨.value y,#[],ats⟩) (hk:b.kind≠ .early) (hr:b.roundOf=none)
 (h:∀aK,Sub ro aK→Knows aK L1→eG E.P false (E.HX oo) (born E.P {target:= .fn (.func f) ⟨ca⟩,args:= #[]}) ⟨aK,[]⟩∧TT (TM E L Q 0 false (os++[oo]) 0) b (.inRegion ops todo::k) cs n D aK (UO (YL a.dst undef o)))
 (hy:evO n y o=some (.func (.func f) ⟨[]⟩ ⟨ca⟩):=by kernel_rfl) (hL:QJ [] o=some L1:=by kernel_rfl):TT (TM E L Q 1 false os 0) b (.inRegion ops (i::todo)::k) cs n D ro o:=by
 rintro e w kn rfl bP
 have Ss:Closed E.P true (TM E L Q 1 false os 0):=eX (E:=E) false os (fun e=>(by cases e))
 refine Closed.ju Ss rfl fun oQ=>?_
 obtain⟨w0,U8⟩:=oQ
 have lI:((den w).map (·.1)).Nodup:=U8.nodup
 have mj:∀q o,(q,o)∈den w→ro q=none:=U8.apart
 have fq:Sub ro (St.freeze ⟨ro,den w⟩).ro:=fun q o hq=>St.ni (s:=⟨ro,den w⟩) hq mj
 have ari:Knows (St.freeze ⟨ro,den w⟩).ro L1:=fun x hx=>St.sE (s:=⟨ro,den w⟩) (by rcases x with ⟨q,o⟩;simp only[QJ,Option.some.injEq] at hL;rw[←hL,BS] at hx;exact hx) lI
 obtain⟨h1,h2⟩:=h _ fq ari
 have bL:=fun w'=>Ec (P:=E.P) (main:=true) (b:=b) (a:=A n e D) (k:=k) (cs:=cs) (rest:=todo) ho hg hk hr ax (by rw[dW];exact aC hy) w'
 have:=h2 _ _ _ rfl (bP.up fq)
 rw[←aU] at this
 exact⟨TC.mono (St.BH ⟨ro,den w⟩) (H5 (E:=E) (o:=oo) (s:=St.freeze ⟨ro,den w⟩) rfl rfl (fun w' _=>bL w') h1 this.1),fun e=>(by cases e)⟩
theorem aod{os:List ι}{a:Oper}(L1:Cells)(ho:ops[i]?=some a) (hg:a.guard=none) (ax:a.op= .go ⟨.value y,#[],ats⟩) (hk:b.kind≠ .early) (hr:b.roundOf=none)
 (h:∀aK,Sub ro aK→Knows aK L1→E.closes ⟨aK,[]⟩ (born E.P {target:= .fn (.func f) ⟨ca⟩,args:= #[]})∧TT (TM E L Q 0 true os 0) b (.inRegion ops todo::k) cs n D aK (UO (YL a.dst undef o)))
 (hy:evO n y o=some (.func (.func f) ⟨[]⟩ ⟨ca⟩):=by kernel_rfl) (hL:QJ [] o=some L1:=by kernel_rfl):TT (TM E L Q 0 false os 0) b (.inRegion ops (i::todo)::k) cs n D ro o:=by
 rintro e w kn rfl bP
 have Ss:Closed E.P true (TM E L Q 0 false os 0):=eX (E:=E) false os (fun e=>(by cases e))
 refine Closed.ju Ss rfl fun oQ=>?_
 obtain⟨w0,U8⟩:=oQ
 have lI:((den w).map (·.1)).Nodup:=U8.nodup
 have mj:∀q o,(q,o)∈den w→ro q=none:=U8.apart
 have fq:Sub ro (St.freeze ⟨ro,den w⟩).ro:=fun q o hq=>St.ni (s:=⟨ro,den w⟩) hq mj
 have ari:Knows (St.freeze ⟨ro,den w⟩).ro L1:=fun x hx=>St.sE (s:=⟨ro,den w⟩) (by rcases x with ⟨q,o⟩;simp only[QJ,Option.some.injEq] at hL;rw[←hL,BS] at hx;exact hx) lI
 obtain⟨h1,h2⟩:=h _ fq ari
 have bL:=fun w'=>Ec (P:=E.P) (main:=true) (b:=b) (a:=A n e D) (k:=k) (cs:=cs) (rest:=todo) ho hg hk hr ax (by rw[dW];exact aC hy) w'
 have:=h2 _ _ _ rfl (bP.up fq)
 rw[←aU] at this
 exact⟨TC.mono (St.BH ⟨ro,den w⟩) (H6 (E:=E) (s:=St.freeze ⟨ro,den w⟩) rfl rfl (fun w' _=>bL w') h1 this.1),fun e=>(by cases e)⟩
theorem alr{os:List ι}{a:Oper}{rc:Operand}{z:Value}{X:Cells}{aA:Nat→Option Obj}(hl:agj L X oM aA)(bV:Sub aA ro)(Sv:L E.Ch=none)(ho:ops[0]?=some a) (hg:a.guard=none) (PX:∀ρ,bk E.P (execOp ρ a)=some (.comm #[{chan:=ρ rc,send:=none,zero:=z}] true (.recv true))) (hk:b.kind≠ .early) (hr:b.roundOf=none)
 (IZ:∀a' oo b' v Y,os=a'++oo::b'→E.To oo v Y→TT (TM E L Q 0 true (a'++b') 0) b (.inRegion ops todo::k) cs n D ro (adO Y (YL a.dst (.tuple #[v,.bool true]) o)))
 (pY:os=[]→TT (TL E.P eg (fun _=>none) (Calm E.os E.out) Q) b (.inRegion ops todo::k) cs n D oM (bkO X (YL a.dst (.tuple #[z,.bool false]) o)))
 (hx:evO n rc o=some (.chan (some E.Ch)):=by kernel_rfl):TT (TM E L Q 0 true os 0) b (.inRegion ops (0::todo)::k) cs n D ro o:=by
 rintro e w kn rfl bP
 have hT:Closed E.P true (TM E L Q 0 true os 0):=eX (E:=E) true os (fun _=>rfl)
 refine Closed.ju hT rfl fun oQ=>?_
 have hvc:ev n e rc= .chan (some E.Ch):=aC hx
 have bL:∀w',stepG E.P true (G (aH b (A n e D) (.inRegion ops (0::todo)::k)) cs) w'= .comm (G (aH b (A n e D) (.inRegion ops (0::todo)::k)) cs) #[rcase E.Ch z] true (.recv true) w' #[]:=by
  intro w'
  have yO:=j9 b (A n e D) (.inRegion ops (0::todo)::k)
  simp only[aH] at yO
  have hw:Region.wanted a (yielded ops (A n e D).tmps)=true:=da _ _ hg
  have jh:(b.kind==CallKind.early)=false:=by simpa using hk
  have gq:stepG E.P true (G (aH b (A n e D) (.inRegion ops (0::todo)::k)) cs) w'=stepG.apply E.P true (aH b (A n e D) (.inRegion ops (0::todo)::k)) cs none (execOp (A n e D).eval a) w':=by
   simp only[G,stepG,stepG.exec,aH,ho,Option.map_some,Option.getD_some,hw,if_true,stepG.oper,Frame.oper?,yO]
   rw[hr]
  have bN:=th (PX (ev n e)) w' #[]
  rw[hvc] at bN
  rw[gq,dW]
  simp only[stepG.apply,if_true,bN,aH,jh,Bool.false_eq_true,if_false]
  simp[seen_none,GStep.after,G,rcase]
 have oO:∀v,Conc.served (G (aH b (A n e D) (.inRegion ops (0::todo)::k)) cs) v=G (aH b (A n (upd a.dst v e) D) (.inRegion ops todo::k)) cs:=by
  intro v
  have:=fB b (A n e D) ops 0 todo k v
  rw[ho] at this
  simp only[Option.bind_some] at this
  rw[aU] at this
  simp only[Conc.served,G] at this ⊢
  rw[this]
 have tN:os=[]→∀pc (g:Goroutine),g.status= .running→(∀w',stepG E.P true g w'= .comm (G (aH b (A n e D) (.inRegion ops (0::todo)::k)) cs) #[rcase E.Ch z] true (.recv true) w' #[])→
  TL E.P (iJ pc) L (G0 E pc) Q g ⟨ro,den w⟩:=by
  intro sU pc g hg' aqs
  obtain⟨hb1,fU⟩:=hl.back (rwK:=den w) bV
  refine TH (E:=E) (z:=z) (s':=⟨oM,X++den w⟩) Sv hg' (fun w' _=>aqs w') hb1 fU ?_
  rw[oO]
  have:=pY sU _ _ _ rfl fun x hx=>(by cases hx)
  rw[fY] at this
  exact this
 refine⟨TO (E:=E) (z:=z) rfl (fun w' _=>bL w') (fun a' oo b' v Y sU nT=>?_) fun sU pc=>⟨tN sU pc _ rfl bL,tN sU pc _ rfl fun w'=>bL w'⟩,fun _ sU pc=>tN sU pc _ rfl bL⟩
 rw[oO]
 have:=IZ a' oo b' v Y sU nT _ _ _ rfl bP
 rw[fY] at this
 exact this.1
theorem av6{oo:ι}{a:Oper}{sc sv:Operand}{v:Value}{Y:Cells}(ys:List Nat)(ho:ops[i]?=some a) (hg:a.guard=none) (hse:∀ρ,execOp ρ a=Sem.pure (.comm #[{chan:=ρ sc,send:=some (ρ sv),zero:= .tuple #[]}] true .send)) (hk:b.kind≠ .early) (hr:b.roundOf=none)
 (hs:E.To oo v Y) (h:TT (eG E.P false E.G2) b (.inRegion ops todo::k) cs n D ro (BR ys (YL a.dst undef o)))
 (hx:evO n sc o=some (.chan (some E.Ch)):=by kernel_rfl) (hv:evO n sv o=some v:=by kernel_rfl) (hY:dN ys o=some Y:=by kernel_rfl):TT (eG E.P false (E.HX oo)) b (.inRegion ops (i::todo)::k) cs n D ro o:=by
 rintro e w kn rfl bP
 refine eG.stop ?_
 have:=h e w kn
 refine⟨rfl,G (aH b (A n e D) (.inRegion ops (i::todo)::k)) cs,v,.tuple #[],Y,den (dj ys 0 w),bB hY,hs,fun w' oQ=>?_,?_⟩
 ·have he:=j9 b (A n e D) (.inRegion ops (i::todo)::k)
  simp only[aH] at he
  have arB:ev n e sc= .chan (some E.Ch):=aC hx
  have arA:ev n e sv=v:=aC hv
  have hw:Region.wanted a (yielded ops (A n e D).tmps)=true:=da _ _ hg
  have jh:(b.kind==CallKind.early)=false:=by simpa using hk
  have ayM:=hse (ev n e)
  rw[arB,arA] at ayM
  have gq:stepG E.P false (G (aH b (A n e D) (.inRegion ops (i::todo)::k)) cs) w'=stepG.apply E.P true (aH b (A n e D) (.inRegion ops (i::todo)::k)) cs none (execOp (A n e D).eval a) w':=by
   simp only[G,stepG,stepG.exec,aH,ho,Option.map_some,Option.getD_some,hw,if_true,stepG.oper,Frame.oper?,he]
   rw[hr]
  rw[gq,dW,ayM]
  simp only[stepG.apply,if_true,Sem.runT,aH,jh,Bool.false_eq_true,if_false]
  simp[seen_none,GStep.after,G,scase]
 ·have oO:Conc.served (G (aH b (A n e D) (.inRegion ops (i::todo)::k)) cs) undef=G (aH b (A n (upd a.dst undef e) D) (.inRegion ops todo::k)) cs:=by
   have:=fB b (A n e D) ops i todo k undef
   rw[ho] at this
   simp only[Option.bind_some] at this
   rw[aU] at this
   simp only[Conc.served,G] at this ⊢
   rw[this]
  rw[oO]
  exact h _ _ _ (by simp only[BR,YL]) bP
theorem an6{dn:Nat}{bs:List Nat}(hf:E.P.funcs[b.fn]?=some fn) (zt:fn.results= #[]) (yq:AR E.P dn=true) (Ct:wP E.P E.ty E.max (Frame.enter E.P dn #[.pointer (some ⟨E.Wg,0,none⟩)] .deferred)=some bs) (YY:∀b∈bs,b=E.Wg) (ps:List Nat) (hk:b.kind= .deferred) (hr:b.roundOf=none)
 (hd:dN ps o=some [(bd,.deferred (some []))]:=by kernel_rfl):TT (eG E.P false E.G2) b [] [cB E.P] n [dS bd,{target:= .fn (.func dn) ⟨[]⟩,args:=⟨[.pointer (some ⟨E.Wg,0,none⟩)]⟩}] ro o:=by
 rintro e w kn rfl bP
 have hT2:=dM E.P false E.G2
 refine hT2.go rfl rfl (g':=G {aH b (A n e [dS bd,{target:= .fn (.func dn) ⟨[]⟩,args:=⟨[.pointer (some ⟨E.Wg,0,none⟩)]⟩}]) [] with mode:= .returning} [cB E.P]) (fun w=>by simp[G,stepG,stepG.exec,aH,hr]) ?_
 have hp:=bB hd
 obtain⟨Lw,Rr,hs⟩:=List.append_of_mem (hp.mem_iff.2 (List.mem_append_left _ (List.mem_singleton.2 rfl)))
 refine unwind_mark (C:=CA E.P) (fun _ _ h=>h) hT2 (.inl rfl) (fr:={aH b (A n e [dS bd,{target:= .fn (.func dn) ⟨[]⟩,args:=⟨[.pointer (some ⟨E.Wg,0,none⟩)]⟩}]) [] with mode:= .returning}) rfl hs ?_
 refine iU (C:=CA E.P) (fun _ _ h=>h) hT2 (.inl rfl) (kG yq) (ds:=[]) rfl ?_
 refine eG.stop ?_
 have hq:QuitsD E.P 2 0 (G {aH b (A n e []) [] with mode:= .returning} [cB E.P]):=nC rfl rfl hk hf zt
 exact GB (E:=E) (c:={aH b (A n e []) [] with mode:= .returning}) (.inl rfl) hq Ct YY
end
theorem awe{S:Goroutine→St→Prop}{c:Code}{ro:Nat→Option Obj}(hf:P.funcs[f]?=some fn) (hb:fn.body=some c) (hn:fn.ntmps=n) (ff:AR P f=true) (hle:Nat.ble ca.length n=true)
 (h:TT (eG P false S) (X6 f .deferred) ([c].map .code++[]) [cB P] n [] ro (some ⟨.fin .normal,fG 0 ca,[],⟨[],[]⟩⟩)):eG P false S (born P {target:= .fn (.func f) ⟨ca⟩,args:= #[]}) ⟨ro,[]⟩:=by
 have hT:=dM P false S
 refine iU (C:=CA P) (fun _ _ h=>h) hT (fr:={(default:Frame) with fn:=P.funcs.size,defers:=[{target:= .fn (.func f) ⟨ca⟩,args:= #[]}],mode:= .panicking [goexitEntry]}) (.inr ⟨_,rfl⟩) (kG ff) rfl ?_
 show eG P false S (G (Frame.enter P f (#[]++⟨ca⟩) .deferred) [cB P]) ⟨ro,[]⟩
 have gL:Frame.enter P f (#[]++⟨ca⟩) .deferred=aH (X6 f .deferred) (A n (fG 0 ca) []) [.code c]:=by
  rw[←kg ca n (Nat.le_of_ble_eq_true hle)]
  simp[Frame.enter,aH,hf,hb,hn,X6]
 rw[gL]
 exact h _ _ _ rfl fun x hx=>(by cases hx)
theorem ahT{ι:Type}{E:dK ι}{x:Jt}(hx:x.OK E.P E.ty){bs:List Nat}(N9:Ap E.P E.ty E.max (Frame.enter E.P x.wait #[.pointer (some ⟨E.Wg,0,none⟩)] .normal)=some bs)(YY:∀b∈bs,b=E.Wg)
 {ro:Nat→Option Obj}{a:Oper}{t:TypeId}{fz:Nat×Nat}(hq:ro q=some (.cells ⟨[.chan (some E.Ch)]⟩ t fz))(ho0:x.q1[0]?=some a) (hg0:a.guard=none) (aNU:a.op= .load U y) (ht:(aV E.P U).map (·.agg)=some false)
 (hy:evO x.n y (some ⟨.fin .normal,eS x.o0.dst (.tuple #[]) (fG 0 [.pointer (some ⟨E.Wg,0,none⟩),.pointer (some ⟨q,0,none⟩)]),[],⟨[],[]⟩⟩)=some (.pointer (some ⟨q,0,none⟩)))
 (hc:evO x.n x.cx (YL a.dst (.chan (some E.Ch)) (some ⟨.fin .normal,eS x.o0.dst (.tuple #[]) (fG 0 [.pointer (some ⟨E.Wg,0,none⟩),.pointer (some ⟨q,0,none⟩)]),[],⟨[],[]⟩⟩))=some (.chan (some E.Ch))):
 E.closes ⟨ro,[]⟩ (born E.P {target:= .fn (.func x.f) ⟨[.pointer (some ⟨E.Wg,0,none⟩),.pointer (some ⟨q,0,none⟩)]⟩,args:= #[]}):=by
 obtain⟨fn,hf,zt,P0⟩:=hx.fn
 obtain⟨hbf,rB,qu⟩:=hx.bf
 have hk:x.b.kind≠ .early:=by rw[rB];simp
 have Of:∀g g',g.status= .running→g'.status= .running→(∀w,stepG E.P false g w= .go g' w #[])→E.closes ⟨ro,[]⟩ g'→E.closes ⟨ro,[]⟩ g:=
  fun g g' hg _ bL ⟨q,hq⟩=>⟨q+1,hg,g',fun w _=>bL w,hq⟩
 refine Of _ _ rfl rfl (GL (kG hx.ff) _) ?_
 have F3:(#[]++(⟨[.pointer (some ⟨E.Wg,0,none⟩),.pointer (some ⟨q,0,none⟩)]⟩:Array Value))= #[.pointer (some ⟨E.Wg,0,none⟩),.pointer (some ⟨q,0,none⟩)]:=by simp
 rw[F3]
 refine SJ (gR:=[]) (cs:=[cB E.P]) Of (hx.enter _ _) ?_
 refine Gz (E:=E) ?_ N9 YY
 have hT:=dM E.P false E.HW
 show eG E.P false E.HW (G ((aH x.b (A x.n (fG 0 [.pointer (some ⟨E.Wg,0,none⟩),.pointer (some ⟨q,0,none⟩)]) []) (.inRegion x.q0 (0::[])::[.code x.rest])).finish (.tuple #[])) [cB E.P]) ⟨ro,[]⟩
 rw[fB,hx.op0,aU]
 simp only[Option.bind_some]
 rw[jI]
 refine gM hT ?_
 obtain⟨id,acL⟩:=hx.rest
 refine dB (l:=[x.rest]) (k:=[]) hT acL fun l2 qt=>?_
 have:=fW qt
 subst this
 rw[hx.size]
 have key:TT (eG E.P false E.HW) x.b (.inRegion x.q1 (0::[1])::[]) [cB E.P] x.n [] ro (some ⟨.fin .normal,eS x.o0.dst (.tuple #[]) (fG 0 [.pointer (some ⟨E.Wg,0,none⟩),.pointer (some ⟨q,0,none⟩)]),[],⟨[],[]⟩⟩):=by
  refine tLd hT (.chan (some E.Ch)) ho0 hg0 aNU ht hk qu (q:=q) (t:=t) (fz:=fz) (fun _ _ _ _=> .inl hq) ?_ hy
  intro e w kn he bP
  refine eG.stop ?_
  have hx2:ev x.n e x.cx= .chan (some E.Ch):=by
   rw[he] at hc
   exact aC hc
  obtain⟨ho,hg,ats,ax⟩:=hx.op
  have hq:(E.P.funcs[x.b.fn]?).any (·.norace)=false:=by rw[hbf,hf];simpa using P0
  refine⟨rfl,?_,G (x.b.at (Act.put (A x.n e []) x.oc.dst (.tuple #[])) (.inRegion x.q1 []::[])) [cB E.P],fun w s r tm hc=>?_,4,?_⟩
  ·simp[mayWake,G,aH,ho,ax]
  ·rw[BM qu]
   have:=stepG_close (P:=E.P) (main:=false) (b:=x.b) (a:=A x.n e []) (kk:=[]) (cs:=[cB E.P]) (rest:=[]) ho (da x.oc _ hg) hk ax (by rw[dW];exact hx2) hc hq
   exact this
  ·rw[←BM qu]
   refine .ctl (g':=G (aH x.b (Act.put (A x.n e []) x.oc.dst (.tuple #[])) []) [cB E.P]) rfl (fun w=>by simp[G,stepG,stepG.exec,aH]) ?_
   refine .ctl (g':=G {aH x.b (Act.put (A x.n e []) x.oc.dst (.tuple #[])) [] with mode:= .returning} [cB E.P]) rfl (fun w=>by simp[G,stepG,stepG.exec,aH,qu]) ?_
   refine nC rfl ?_ rB (by show E.P.funcs[x.b.fn]?=_;rw[hbf];exact hf) zt
   show (Act.put (A x.n e []) x.oc.dst (.tuple #[])).defers=[]
   rw[aU];rfl
 exact key _ _ _ rfl fun x hx=>(by cases hx)
theorem jpF{V:Value}(lp:List Nat)(B:Cells)(FW:AR X.P f=true)(hf:∀aA,Sub X.ro aA→Knows aA B→dz X.P f vs aA V)(hj:J X (J7 B V o))(h1:du X.n (afV X.n) o=some (f,vs):=by kernel_rfl)(h3:dN lp o=some B:=by kernel_rfl):J X o:=by
 refine jGN h1 h3 (fun s p e ho hh hc=>?_) hj
 have hcb:xK X.P X.n p e=some (f,vs):=by unfold xK;rw[hc];simp only[FW,cond_true]
 obtain⟨ff,x,xs,at_,fi,ca,ws,ax,hx,rq,rfl⟩:=qg hcb
 rcases p with ⟨dst,op,ty,pos,cS,g⟩
 dsimp only at ax;subst ax
 refine⟨rfl,fun s0 FE uB ops i su rest hw s' hs todo Q hk=>?_⟩
 have hez:Ext ⟨X.ro,B⟩ s':=fun b ob hb=>hs _ _ (hb.elim (fun h=>FE _ _ (.inl h)) fun h=>uB (b,ob) h)
 exact NH X.hC su hw (aY hx) ff (wK rq) (PB fi ws ca) hez (fun aA h1=>hf aA (Ey h1) fun y hy=>h1 _ _ (.inr hy)) hk
def bgI(body:Code)(i:Nat):Option JS→Option (JS×Nat)
 |some ⟨.fin .normal,e,w,kn⟩=>match x3 w i with
  |some (.b b (.loop r))=>match r.state with
   | .ready=>some (⟨.code body [],e,QF w i (.b b (.loop {r with state:= .busy})),kn⟩,b)
   |_=>none
  |_=>none
 |_=>none
theorem jbI{ro:Nat→Option Obj}(i:Nat)(h:J (X.re bl ro Φ) (Dr (bgI body i o)))(h1:QC (bgI body i o)=some bl:=by kernel_rfl):J (X.rd bl ro Φ body) o:=by
 unfold bgI at h h1
 split at h<;>try (simp only[Dr] at h;exact h.elim)
 rename_i e w kn
 split at h<;>try (simp only[Dr] at h;exact h.elim)
 rename_i b r hn
 split at h<;>try (simp only[Dr] at h;exact h.elim)
 rename_i bL
 simp only[hn,bL,QC,Option.some.injEq] at h1
 subst h1
 simp only[Dr] at h
 intro bP
 have hw:=h bP
 obtain⟨L,R,h2,h3⟩:=y7 hn
 simp only[JP,Cx.rd,GQ,B3]
 refine⟨L,r,R,h2,bL,?_⟩
 simp only[JP,h3] at hw
 exact hw
theorem tGe{b:Frame}{D:List Deferred}{ro:Nat→Option Obj}(h:TT T b yJ cs n D ro (geO o)):TT T b yJ cs n D ro o:=by
 rintro e w kn rfl bP
 have:=h e (.l []::w) kn (by simp only[geO]) bP
 rw[fY] at this
 exact this
def aaq:Option JS→Option JS
 |some ⟨.fin .normal,e,w,kn⟩=>some ⟨.fin .ret,e,w,kn⟩
 |_=>none
theorem an5{c:Code}{ro:Nat→Option Obj}{L:Cells}(hf:P.funcs[f]?=some fn) (hb:fn.body=some c) (hn:fn.ntmps=n) (hle:Nat.ble args.length n=true)
 (h:TT T (X6 f .normal) ([c].map .code++[]) cs n [] ro (some ⟨.fin .normal,fG 0 args,[.l L],⟨[],[]⟩⟩)):T (G (Frame.enter P f ⟨args⟩ .normal) cs) ⟨ro,L⟩:=by
 have gL:Frame.enter P f ⟨args⟩ .normal=aH (X6 f .normal) (A n (fG 0 args) []) [.code c]:=by
  rw[←kg args n (Nat.le_of_ble_eq_true hle)]
  simp[Frame.enter,aH,hf,hb,hn,X6]
 rw[gL]
 exact h _ _ _ rfl fun x hx=>(by cases hx)
theorem aKk(hm:P.follows .mixedOrders=true)(hT:Closed P main T){cl:Frame}{Ll:List Frame}{ro:Nat→Option Obj}(v:Value)(hs ps:List Nat)(Y:Cells)(hf:P.funcs[f]?=some fn)
 (hk:T (G (cl.finish v) Ll) ⟨ro,Y⟩) (h1:sD (jD P n f hs (aaq o))=some v:=by kernel_rfl) (h2:Qd (jD P n f hs (aaq o))=Qc (jD P n f hs (aaq o)):=by kernel_rfl) (h3:dN ps o=some Y:=by kernel_rfl):TT T (X6 f .normal) (.code .ret::yJ) (cl::Ll) n [] ro o:=by
 rintro e w kn rfl bP
 simp only[aaq] at h1 h2
 simp only[jD] at h1 h2
 cases hr:A3 P n e w kn.c hs (sG P f).results.toList with
 |none=>simp only[hr,sD] at h1;cases h1
 |some x=>
  rcases x with ⟨vs,q⟩
  simp only[hr,sD,Option.some.injEq,Qd,Qc] at h1 h2
  have rz:=tj (X:=⟨P,fun m T'=>m=main∧T'=T,by rintro _ _ ⟨rfl,rfl⟩;exact hT,hm,f,none,n,[],ro,fun _ _ _=>True⟩) bP hr (lJ h2)
  have hp:=bB h3
  have uA:sG P f=fn:=by simp only[sG,hf]
  have G5:=M9 (s0:=⟨ro,Y⟩) (R:=fun en s'=>∃v,en= .returned v∧T (G (cl.finish v) Ll) s') (.inl rfl) rz h1 (dH hp (Sub.refl _)) ⟨v,rfl,hk⟩
  rw[uA] at G5
  refine hT.go rfl rfl (g':=G {aH (X6 f .normal) (A n e []) (.code .ret::yJ) with mode:= .returning} (cl::Ll)) (fun w=>by simp[G,stepG,stepG.exec,aH,X6]) ?_
  refine rX (C:=CA P) (fun _ _ h=>h) (T:=T) hT hf (fr:={aH (X6 f .normal) (A n e []) (.code .ret::yJ) with mode:= .returning}) rfl rfl rfl rfl (R:=fun en s'=>∃v,en= .returned v∧T (G (cl.finish v) Ll) s') G5.2 (fun v s' hv=>?_)
  obtain⟨v',hv',ht⟩:=hv
  cases hv'
  exact ht
attribute [irreducible] UO bkO bgI QJ aaq
def B4(P:Program)(f:FuncId)(args:List Value)(ro:Nat→Option Obj)(own:Cells)(Φ:Value→Cells→Prop):Prop:=
 ∀fr,Fn (C0 P) P f ⟨args⟩ ⟨ro,own++fr⟩ (fun en s'=>∃v Y,en= .returned v∧(⟨ro,Y++fr⟩:St).le s'∧Φ v Y)
theorem B4.mono{ro:Nat→Option Obj}{own:Cells}{Φ':Value→Cells→Prop}(h:B4 P f args ro own Φ)(hk:∀v X,Φ v X→Φ' v X):B4 P f args ro own Φ':=
 fun fr=>Fn.mono (h fr) fun _ _ ⟨v,X,h1,h2,h3⟩=>⟨v,X,h1,h2,hk v X h3⟩
abbrev RC(ro:Nat→Option Obj)(fr:Cells)(Φ:Value→Cells→Prop):Ending→St→Prop:=fun en s'=>∃v Y,en= .returned v∧(⟨ro,Y++fr⟩:St).le s'∧Φ v Y
def XC(P:Program)(hm:P.follows .mixedOrders=true)(f:FuncId)(ro:Nat→Option Obj)(R:Ending→St→Prop):Cx:=⟨P,C0 P,wQ,hm,f,none,(sG P f).ntmps,[],ro,qR P (sG P f) R⟩
theorem qC{hm:P.follows .mixedOrders=true}{ro:Nat→Option Obj}:QR (XC P hm f ro R) R:=⟨rfl,rfl⟩
theorem Jb{C:Class}(hC:∀main T,C main T→Closed P main T){c:Code}{s:St}(hf:P.funcs[f]?=some fn) (hb:fn.body=some c) (hl:Nat.ble args.length fn.ntmps=true) (h:Wp C f none c (qR P fn R) (A fn.ntmps (fG 0 args) []) s):Fn C P f ⟨args⟩ s R:=by
 refine O4 hC hf hb ?_
 have he:=kg args fn.ntmps (Nat.le_of_ble_eq_true hl)
 rw[←he] at h
 exact h
theorem zo(hm:P.follows .mixedOrders=true){ro:Nat→Option Obj}{L:Cells}(own:List Sg)(kn:Cells)(hk:Knows ro kn)(h:∀fr,J (XC P hm f ro (RC ro fr Φ)) (ky P f args (own++[.l fr]) kn))(hL:den own=L:=by rfl):B4 P f args ro L Φ:=by
 subst hL
 intro fr
 have h:=h fr
 unfold ky at h
 split at h<;>try exact h.elim
 rename_i fn hf
 split at h<;>try exact h.elim
 rename_i c hc
 cases hl:Nat.ble args.length fn.ntmps with
 |false=>rw[hl] at h;exact h.elim
 |true=>
  rw[hl] at h
  have uA:sG P f=fn:=by simp only[sG,hf]
  have:=h hk
  simp only[JP,XC,KQ,uA] at this
  have hd:den (own++[.l fr])=den own++fr:=by rw[kV];rfl
  rw[hd] at this
  exact Jb wQ hf hc hl this
section
variable {X:Cx} {o:Option JS}
theorem Kx{own:Cells}(ps:List Nat)(hC:∀main T,X.C main T→C0 X.P main T)(hf:B4 X.P f vs X.ro own Φ)(hj:∀v Y,Φ v Y→J X (mH ps v Y o))(h1:eR X.n (xK X.P X.n) o=some (f,vs):=by kernel_rfl)(h2:dN ps o=some own:=by kernel_rfl):J X o:=by
 obtain⟨ops,i,todo,k,e,w,kn,p,rfl,ho,hw,hc⟩:=db h1
 obtain⟨ff,x,xs,at_,fi,ca,ws,ax,hx,rq,rfl⟩:=qg hc
 intro bP
 rcases p with ⟨dst,op,ty,pos,cS,g⟩
 dsimp only at ax;subst ax
 have hp:=bB h2
 have uA:Fn X.C X.P f ⟨fi++ws++ca⟩ ⟨X.ro,den w⟩ (fun en s'=>∃v Y,en= .returned v∧(⟨X.ro,Y++den (dj ps 0 w)⟩:St).le s'∧Φ v Y):=fun main T hT c cs k1 k2=>
  (X.hC main T hT).mono _ ⟨X.ro,own++den (dj ps 0 w)⟩ _ (dH (J:=[]) (by rw[List.append_nil];exact hp) (Sub.refl _)) (Fn.weaken hC (hf _) main T hT c cs k1 k2)
 refine tE (fi:=⟨fi⟩) (ca:=⟨ca⟩) (ws:=fi++ws++ca) X.hC ho hw hx ff rq (PB fi ws ca) uA (fun v' s' hr=>?_) (fun ch s' hr=>by obtain⟨_,_,e,_⟩:=hr;cases e) (fun s' hr=>by obtain⟨_,_,e,_⟩:=hr;cases e)
 obtain⟨v,Y,hv,hle,pR⟩:=hr
 cases hv
 have:=hj _ Y pR
 rw[nG ho] at this
 have:=this bP
 simp only[JP,fY] at this
 exact this.more X.hC hle
theorem UZ{fr:Cells}(hq:QR X (RC oM fr Φ))(v:Value)(ps:List Nat)(Y:Cells)(fq:Sub oM X.ro)(hR:Φ v Y)(h1:sD (jD X.P X.n X.fn [] o)=some v:=by kernel_rfl)(h2:Qd (jD X.P X.n X.fn [] o)=Qc (jD X.P X.n X.fn [] o):=by kernel_rfl)(h3:dN ps o=some (Y++fr):=by kernel_rfl)(h4:BK o=true:=by kernel_rfl):J X o:=
 aE hq v [] ps (Y++fr) fq ⟨v,Y,rfl,St.le_refl _,hR⟩ h1 h2 h3 h4
end
noncomputable def EI(P:Program)(g:FuncId):Func:=match Hs P g with
 |some (gn,_,_)=>gn
 |none=>default
noncomputable def Hr(P:Program)(g:FuncId):Tmp:=match Hs P g with
 |some (_,t,_)=>t
 |none=>0
noncomputable def recC(P:Program)(g:FuncId):Code:=match Hs P g with
 |some (_,_,c)=>c
 |none=> .skip
def aoy(P:Program)(g:FuncId):Bool:=(Hs P g).isSome
theorem ah7{g:FuncId}(h:aoy P g=true):Hs P g=some (EI P g,Hr P g,recC P g):=by
 unfold aoy at h
 unfold EI Hr recC
 cases hr:Hs P g with
 |none=>rw[hr] at h;cases h
 |some x=>rcases x with ⟨a,b,c⟩;rfl
noncomputable def XD(P:Program)(hm:P.follows .mixedOrders=true)(f:FuncId)(ro:Nat→Option Obj)(R:Ending→St→Prop)(g:FuncId):Cx:=⟨P,CP P,eL,hm,f,none,(sG P f).ntmps,[],ro,SY (CP P) P (sG P f) g (EI P g) (Hr P g) (recC P g) R⟩
theorem aMp(hm:P.follows .mixedOrders=true){ro:Nat→Option Obj}{L:Cells}(g:FuncId)(own:List Sg)(kn:Cells)(hk:Knows ro kn)(h:J (XD P hm f ro (RX ro Φ) g) (ky P f args own kn))(hL:den own=L:=by rfl)(acM:aoy P g=true:=by kernel_rfl):eo P f args ro L Φ:=by
 subst hL
 unfold ky at h
 split at h<;>try exact h.elim
 rename_i fn hf
 split at h<;>try exact h.elim
 rename_i c hc
 cases hl:Nat.ble args.length fn.ntmps with
 |false=>rw[hl] at h;exact h.elim
 |true=>
  rw[hl] at h
  have uA:sG P f=fn:=by simp only[sG,hf]
  have:=h hk
  simp only[JP,XD,KQ,uA] at this
  exact Gj eL hf hc rfl hl (ah7 acM) this
def dfV(n:Nat)(p:Oper)(e:Env):Option (FuncId×List Value):=match p.op with
 | .defer ⟨.value x,⟨[]⟩,⟨[]⟩⟩=>match ba n e x with
  |some (.func (.func f) ⟨[]⟩ ⟨ca⟩)=>some (f,ca)
  |_=>none
 |_=>none
theorem as8{p:Oper}{e:Env}(h:dfV n p e=some (f,ca)):∃x,p.op= .defer ⟨.value x,#[],#[]⟩∧ba n e x=some (.func (.func f) ⟨[]⟩ ⟨ca⟩):=by
 unfold dfV at h
 split at h<;>try (cases h;done)
 rename_i x ax
 split at h<;>try (cases h;done)
 rename_i hx
 cases h
 exact⟨x,ax,hx⟩
def skO:Option JS→Option JS
 |some ⟨.ops ops (i::todo) k,e,w,kn⟩=>match ops[i]? with
  |some p=>some ⟨.ops ops todo k,upd p.dst undef e,w,kn⟩
  |none=>none
 |_=>none
def N6(t:Tmp)(rest:Code)(ca:List Value):Option JS→Option JS
 |some ⟨.fin _,_,w,kn⟩=>some ⟨.code rest [],upd (some t) .nilIface (fG 0 ca),w,⟨kn.c,[]⟩⟩
 |_=>none
def rwS:Option JS→Option (List Sg)
 |some s=>some s.rw
 |none=>none
section
variable {X:Cx} {o:Option JS}
theorem jdf(hj:J (X.wd ({target:= .fn (.func f) ⟨ca⟩,args:= #[]}::X.D)) (skO o))(h1:eR X.n (dfV X.n) o=some (f,ca):=by kernel_rfl)(hr:X.ay=none:=by rfl):J X o:=by
 obtain⟨ops,i,todo,k,e,w,kn,p,rfl,ho,hw,hc⟩:=db h1
 obtain⟨x,ax,hx⟩:=as8 hc
 intro bP
 rcases p with ⟨dst,op,ty,pos,cS,g⟩
 dsimp only at ax;subst ax
 simp only[skO,ho] at hj
 have:=hj bP
 simp only[JP,PK] at this
 show ab X.C X.fn X.ay ops (i::todo) (KQ X k) (A X.n e X.D) ⟨X.ro,den w⟩
 rw[hr]
 have h2:(X.wd ({target:= .fn (.func f) ⟨ca⟩,args:= #[]}::X.D)).ay=none:=hr
 rw[h2] at this
 exact aiA X.hC ho hw hx this
structure QD(X:Cx)(g:FuncId)(R:Ending→St→Prop)(ca:List Value):Prop where
 q:X.Q=SY X.C X.P (sG X.P X.fn) g (EI X.P g) (Hr X.P g) (recC X.P g) R
 d:X.D=[{target:= .fn (.func g) ⟨ca⟩,args:= #[]}]
theorem jrD{g:FuncId}(hq:QD X g R ca)(v:Value)(hs ps:List Nat)(Y:Cells)(k:Nat)(fq:Sub oM X.ro)(hR:R (.returned v) ⟨oM,Y⟩)(hl:Nat.ble ca.length (EI X.P g).ntmps=true:=by kernel_rfl)
 (h1:sD (jD X.P X.n X.fn hs o)=some v:=by kernel_rfl)(h2:Qd (jD X.P X.n X.fn hs o)=Qc (jD X.P X.n X.fn hs o):=by kernel_rfl)(h3:dN ps o=some Y:=by kernel_rfl)(h4:BK o=true:=by kernel_rfl)
 (h5:BK (res (YD X.P (EI X.P g).ntmps k [] (N6 (Hr X.P g) (recC X.P g) ca o)))=true:=by kernel_rfl)(h6:rwS (res (YD X.P (EI X.P g).ntmps k [] (N6 (Hr X.P g) (recC X.P g) ca o)))=rwS o:=by kernel_rfl)
 (h7:lhs (YD X.P (EI X.P g).ntmps k [] (N6 (Hr X.P g) (recC X.P g) ca o))=rhs (YD X.P (EI X.P g).ntmps k [] (N6 (Hr X.P g) (recC X.P g) ca o)):=by kernel_rfl):J X o:=by
 obtain⟨ex,e,w,kn,rfl,hex⟩:=sI h4
 simp only[jD] at h1 h2
 cases hr:A3 X.P X.n e w kn.c hs (sG X.P X.fn).results.toList with
 |none=>simp only[hr,sD] at h1;cases h1
 |some x=>
  rcases x with ⟨vs,q⟩
  simp only[hr,sD,Option.some.injEq,Qd,Qc] at h1 h2
  intro bP
  have rz:=tj bP hr (lJ h2)
  have hp:=bB h3
  have G5:=M9 (s0:=⟨oM,Y⟩) (R:=R) hex rz h1 (dH hp fq) hR
  have ht:bG X.P (results (sG X.P X.fn) (A X.n e X.D).tmps) ⟨X.ro,den w⟩ (fun v s'=>∃s0,s0.le s'∧R (.returned v) s0) (fun _ _=>False):=by
   rcases hex with rfl|rfl<;>exact G5.2
  show X.Q ex (A X.n e X.D) ⟨X.ro,den w⟩
  rw[hq.q]
  refine⟨hex.symm,ca,hl,hq.d,?_⟩
  let X2:Cx:=⟨X.P,X.C,X.hC,X.hm,g,none,(EI X.P g).ntmps,[],X.ro,fun e2 a2 s2=>(e2= .normal∨e2= .ret)∧a2.defers=[]∧bG X.P (results (sG X.P X.fn) (A X.n e X.D).tmps) s2 (fun v s3=>∃s0,s0.le s3∧R (.returned v) s0) (fun _ _=>False)⟩
  have hj:J X2 (N6 (Hr X.P g) (recC X.P g) ca (some ⟨.fin ex,e,w,kn⟩)):=by
   refine jd k [] ?_ h7
   have h5':=h5
   have h6':=h6
   obtain⟨ex2,e2,w2,kn2,tK,aOU⟩:=sI h5'
   show J X2 (res (YD X.P (EI X.P g).ntmps k [] (N6 (Hr X.P g) (recC X.P g) ca (some ⟨.fin ex,e,w,kn⟩))))
   rw[tK] at h6' ⊢
   simp only[rwS,Option.some.injEq] at h6'
   subst h6'
   exact fun _=>⟨aOU.symm,rfl,ht⟩
  simp only[N6] at hj
  exact hj bP
end
attribute [irreducible] skO N6 rwS dfV
def ui(r ck:Nat)(seen:List Nat):Obj:= .mapIter (some r) ck ⟨seen⟩ ck
def cy(es:Array MapEntry)(seen:List Nat):List MapEntry:=es.toList.filter fun e=> !seen.contains e.born
theorem Bu(es:Array MapEntry):cy es []=es.toList:=by simp[cy]
theorem Xk{es:Array MapEntry}{b:Nat}{e:MapEntry}:e∈cy es (seen++[b])↔e∈cy es seen∧e.born≠b:=by
 simp only[cy,List.mem_filter,Bool.not_eq_true',List.contains_eq_mem,List.mem_append,List.mem_singleton,decide_eq_false_iff_not,not_or,and_assoc]
theorem Fs{es:Array MapEntry}{e:MapEntry}(h:e∈cy es seen):(cy es (seen++[e.born])).length <(cy es seen).length:=by
 have:cy es (seen++[e.born])=(cy es seen).filter fun x=> !decide (x.born=e.born):=by
  simp only[cy,List.filter_filter]
  refine List.filter_congr fun x _=>?_
  simp only[List.contains_eq_mem,List.mem_append,List.mem_singleton,Bool.decide_or,Bool.not_or]
  rw[Bool.and_comm]
 rw[this]
 exact List.length_filter_lt_length_iff_exists.2 ⟨e,h,by simp⟩
def mrV(P:Program)(n:Nat)(p:Oper)(e:Env):Option Value:=match p.op with
 | .range T x=>match aV P T with
  |some ⟨.map _ _,_,_,_⟩=>ba n e x
  |_=>none
 |_=>none
def nmV(n:Nat)(p:Oper)(e:Env):Option Value:=match p.op with
 | .next x false=>ba n e x
 |_=>none
def enV(n:Nat)(p:Oper)(e:Env):Option Value:=match p.op with
 | .entry x=>ba n e x
 |_=>none
theorem H7{β:Type}{s:St}{Q:β→St→Prop}{E:Halt→St→Prop}{k:Nat→Sem β}(hn:0 <n)(h:∀j,j <n→bG P (k j) s Q E):bG P (choose (.mapNext n) >>= k) s Q E:=by
 show (if (Question.mapNext n).forced=true then _ else _)
 split
 ·exact h 0 hn
 ·exact fun q=>h _ (Nat.mod_lt _ hn)
section
variable {X:Cx} {o:Option JS}
theorem jmR{es:Array MapEntry}(hm:X.ro r=some (.map es ck))(hj:∀b,J X (mH [] (.pointer (some ⟨b,0,none⟩)) [(b,ui r ck [])] o))(hv:eR X.n (mrV X.P X.n) o=some (.map (some r)):=by kernel_rfl)(hB:dN [] o=some []:=by kernel_rfl):J X o:=by
 refine jS (Φ:=fun v L'=>∃b,v= .pointer (some ⟨b,0,none⟩)∧L'=[(b,ui r ck [])]) [] [] hv hB (fun p e hf=>?_) (fun v L' pR=>?_)
 ·unfold mrV at hf
  split at hf<;>try (cases hf;done)
  rename_i T x ax
  split at hf<;>try (cases hf;done)
  rename_i dI
  obtain⟨bu,tf⟩:=ar dI
  refine⟨by rw[ax];simp,fun R Q E hQ=>?_⟩
  simp only[execOp,ax,Instr.range,aa,aW tf,aC hf]
  refine cq (.inl hm) rfl rfl ?_
  simp only[aa,ae,nJ]
  intro b hb
  exact hQ _ _ ⟨b,rfl,rfl⟩
 ·obtain⟨b,rfl,rfl⟩:=pR
  exact hj b
theorem jmN{kv:κ→Value}{F:List (κ×Value)}{es:Array MapEntry}(i:Nat)(hm:X.ro r=some (.map es ck))(hE:sO kv F es ck)
 (hT:∀k v e,(k,v)∈F→e∈cy es seen→e.key=kv k→e.val=v→J X (mH [i] (.tuple ⟨[.bool true,kv k,v]⟩) [(it,ui r ck (seen++[e.born]))] o))
 (hF:cy es seen=[]→J X (mH [i] (.tuple ⟨[.bool false]⟩) [(it,ui r ck seen)] o))
 (hv:eR X.n (nmV X.n) o=some (.pointer (some ⟨it,0,none⟩)):=by kernel_rfl)(hB:dN [i] o=some [(it,ui r ck seen)]:=by kernel_rfl):J X o:=by
 refine jS (Φ:=fun v L'=>(∃e,e∈cy es seen∧v= .tuple ⟨[.bool true,e.key,e.val]⟩∧L'=[(it,ui r ck (seen++[e.born]))])∨(cy es seen=[]∧v= .tuple ⟨[.bool false]⟩∧L'=[(it,ui r ck seen)])) [i] _ hv hB (fun p e hf=>?_) (fun v L' pR=>?_)
 ·unfold nmV at hf
  split at hf<;>try (cases hf;done)
  rename_i x ax
  refine⟨by rw[ax];simp,fun R Q E hQ=>?_⟩
  simp only[execOp,ax,Instr.next,aa,aC hf]
  have hs:(⟨X.ro,[(it,ui r ck seen)]++R⟩:St).rw=[]++(it,ui r ck seen)::R:=rfl
  refine cq (o:=ui r ck seen) (.inr (by rw[hs];exact e9)) rfl rfl ?_
  simp only[ui,aa]
  refine cq (.inl hm) rfl rfl ?_
  simp only[aa]
  have hb:=hE.2.2
  have bL:¬((!(⟨seen⟩:Array Nat).isEmpty&& !es.isEmpty&&es.all (·.born≥ck))=true):=by
   intro h
   simp only[Bool.and_eq_true,Bool.not_eq_true',Array.all_eq_true,decide_eq_true_eq] at h
   obtain⟨⟨_,h1⟩,h2⟩:=h
   have uz:0 <es.size:=by
    rcases Nat.eq_zero_or_pos es.size with h0|h0
    ·simp[Array.isEmpty,h0] at h1
    ·exact h0
   have:=h2 0 uz
   have:=hb es[0] (by simp)
   omega
  rw[if_neg bL]
  have xz:(es.filter fun e=> !(⟨seen⟩:Array Nat).contains e.born)=⟨cy es seen⟩:=by
   rcases es with ⟨l⟩
   simp[cy]
  have hold:((⟨cy es seen⟩:Array MapEntry).filter fun e=>decide (e.born <ck))=⟨cy es seen⟩:=by
   have:(cy es seen).filter (fun e=>decide (e.born <ck))=cy es seen:=List.filter_eq_self.2 fun e he=>decide_eq_true (hb e (List.mem_filter.1 he).1)
   simp[this]
  have sw:((⟨cy es seen⟩:Array MapEntry).filter fun e=>decide (e.born≥ck))=⟨[]⟩:=by
   have:(cy es seen).filter (fun e=>decide (e.born≥ck))=[]:=List.filter_eq_nil_iff.2 fun e he=>by
    have:=hb e (List.mem_filter.1 he).1
    simp only[decide_eq_true_eq];omega
   simp[this]
  simp only[xz,hold,sw]
  cases hl:cy es seen with
  |nil=>
   simp only[List.isEmpty_toArray,List.isEmpty_nil,if_true]
   refine H7 (by simp) fun j hj=>?_
   have hc:(#[(none:Option MapEntry)]++((⟨[]⟩:Array MapEntry)++⟨[]⟩).map some)[j]?=some none:=by
    simp at hj
    subst hj;simp
   show bG X.P ((match (#[(none:Option MapEntry)]++((⟨[]⟩:Array MapEntry)++⟨[]⟩).map some)[j]? with|some (some e)=>_|some none=>_|none=>_) >>= fun v=>pure (Next.value v)) _ _ _
   rw[hc]
   exact hQ _ _ (.inr ⟨hl,rfl,rfl⟩)
  |cons e0 l=>
   have hem:(⟨e0::l⟩:Array MapEntry).isEmpty=false:=by simp
   simp only[hem,Bool.false_eq_true,if_false]
   have F3:(#[]++((⟨e0::l⟩:Array MapEntry)++⟨[]⟩).map some:Array (Option MapEntry))=⟨(e0::l).map some⟩:=by simp
   rw[F3]
   refine H7 (by simp) fun k cz=>?_
   have cz:k <(e0::l).length:=by simpa using cz
   have hk:(⟨(e0::l).map some⟩:Array (Option MapEntry))[k]?=some (some (e0::l)[k]):=by
    rw[List.getElem?_toArray,List.getElem?_map,List.getElem?_eq_getElem cz];rfl
   show bG X.P ((match (⟨(e0::l).map some⟩:Array (Option MapEntry))[k]? with|some (some e)=>_|some none=>_|none=>_) >>= fun v=>pure (Next.value v)) _ _ _
   rw[hk]
   simp only[aa]
   have mG:(⟨X.ro,[(it,Obj.mapIter (some r) ck ⟨seen⟩ ck)]++R⟩:St).rw=[]++(it,Obj.mapIter (some r) ck ⟨seen⟩ ck)::R:=rfl
   refine dX (o:= .mapIter (some r) ck ((⟨seen⟩:Array Nat).push (e0::l)[k].born) ck) rfl mG rfl ?_
   have hp:(⟨seen⟩:Array Nat).push (e0::l)[k].born=⟨seen++[(e0::l)[k].born]⟩:=by simp
   rw[hp]
   have:=hQ (.tuple ⟨[.bool true,(e0::l)[k].key,(e0::l)[k].val]⟩) [(it,ui r ck (seen++[(e0::l)[k].born]))] (.inl ⟨_,by rw[hl];exact List.getElem_mem cz,rfl,rfl⟩)
   exact this
 ·rcases pR with ⟨e,he,rfl,rfl⟩| ⟨h1,rfl,rfl⟩
  ·have:(e.key,e.val)∈F.map (fun x=>(kv x.1,x.2)):=by
    rw[←hE.1];exact List.mem_map_of_mem (f:=fun e:MapEntry=>(e.key,e.val)) (List.mem_filter.1 he).1
   obtain⟨⟨k,v⟩,h1,h2⟩:=List.mem_map.1 this
   simp only[Prod.mk.injEq] at h2
   have:=hT k v e h1 he h2.1.symm h2.2.symm
   rwa[h2.1,h2.2] at this
  ·exact hF h1
theorem jmE{kv:κ→Value}{F:List (κ×Value)}{es:Array MapEntry}{e:MapEntry}{k:κ}{v:Value}(i:Nat)(hm:X.ro r=some (.map es ck))(hE:sO kv F es ck)(he:e∈cy es seen)(hk:e.key=kv k)(hvl:e.val=v)
 (hj:J X (mH [i] (.tuple ⟨[kv k,v]⟩) [(it,ui r ck (seen++[e.born]))] o))
 (hv:eR X.n (enV X.n) o=some (.pointer (some ⟨it,0,none⟩)):=by kernel_rfl)(hB:dN [i] o=some [(it,ui r ck (seen++[e.born]))]:=by kernel_rfl):J X o:=by
 refine jS (Φ:=fun w L'=>w= .tuple ⟨[kv k,v]⟩∧L'=[(it,ui r ck (seen++[e.born]))]) [i] _ hv hB (fun p en hf=>?_) (fun w L' pR=>?_)
 ·unfold enV at hf
  split at hf<;>try (cases hf;done)
  rename_i x ax
  refine⟨by rw[ax];simp,fun R Q E hQ=>?_⟩
  simp only[execOp,ax,Instr.entry,aa,aC hf]
  have hs:(⟨X.ro,[(it,ui r ck (seen++[e.born]))]++R⟩:St).rw=[]++(it,ui r ck (seen++[e.born]))::R:=rfl
  refine cq (o:=ui r ck (seen++[e.born])) (.inr (by rw[hs];exact e9)) rfl rfl ?_
  have rB:(⟨seen++[e.born]⟩:Array Nat).back?=some e.born:=by simp[Array.back?]
  simp only[ui,rB,aa]
  refine cq (.inl hm) rfl rfl ?_
  have hfe:es.find? (fun x=>x.born==e.born)=some e:=by
   rcases es with ⟨l⟩
   have YV:e∈l:=(List.mem_filter.1 he).1
   have lI:(l.map (·.born)).Nodup:=hE.2.1
   simp only[List.find?_toArray]
   clear hm hE he hj hv hB hs hQ
   induction l with
   |nil=>cases YV
   |cons y l ih=>
    simp only[List.map_cons,List.nodup_cons,List.mem_map,not_exists,not_and] at lI
    rcases List.mem_cons.1 YV with rfl|h
    ·simp
    ·have:y.born≠e.born:=fun h2=>lI.1 e h h2.symm
     rw[List.find?_cons_of_neg (by simpa using this)]
     exact ih h lI.2
  simp only[bne_self_eq_false,Bool.false_eq_true,if_false,hfe,ae,aa]
  exact hQ _ _ ⟨by rw[hk,hvl],rfl⟩
 ·obtain⟨rfl,rfl⟩:=pR
  exact hj
end
theorem Ru{kv:κ→Value}{F:List (κ×Value)}{es:Array MapEntry}(hE:sO kv F es ck){e x:MapEntry}(he:e∈cy es seen)(hx:x∈cy es seen):x=e∨x∈cy es (seen++[e.born]):=by
 by_cases h:x.born=e.born
 ·left
  have lI:=hE.2.1
  have h1:=(List.mem_filter.1 he).1
  have h2:=(List.mem_filter.1 hx).1
  generalize es.toList=l at lI h1 h2
  induction l with
  |nil=>cases h1
  |cons y l ih=>
   simp only[List.map_cons,List.nodup_cons,List.mem_map,not_exists,not_and] at lI
   rcases List.mem_cons.1 h1 with k1|k1
   ·rcases List.mem_cons.1 h2 with k2|k2
    ·rw[k1,k2]
    ·exact absurd (by rw[h,k1]) (lI.1 x k2)
   ·rcases List.mem_cons.1 h2 with k2|k2
    ·exact absurd (by rw[←h,k2]) (lI.1 e k1)
    ·exact ih lI.2 k1 k2
 ·exact .inr (Xk.2 ⟨hx,h⟩)
def msV(P:Program)(n:Nat)(p:Oper)(e:Env):Option (TypeId×List Value):=match p.op with
 | .makeSlice T x y=>match aV P T with
  |some ⟨.slice E,_,_,_⟩=>match aV P E with
   |some te=>match ba n e x,ba n e y with
    |some (.int .i64 a),some (.int .i64 b)=>bif (decide (a=2)&&decide (b=2))&&(Nat.beq te.size 1&&Nat.ble (s8 P E) 65536) then some (E,te.zero) else none
    |_,_=>none
   |none=>none
  |_=>none
 |_=>none
theorem jmS{E:TypeId}{z:Value}(hj:∀b,J X (mH [] (.slice (some ⟨b,0,none⟩) 2 2) [(b,.cells ⟨[z,z]⟩ E (0,0))] o))(hv:eR X.n (msV X.P X.n) o=some (E,[z]):=by kernel_rfl)(hB:dN [] o=some []:=by kernel_rfl):J X o:=by
 refine jS (Φ:=fun v L'=>∃b,v= .slice (some ⟨b,0,none⟩) 2 2∧L'=[(b,.cells ⟨[z,z]⟩ E (0,0))]) [] [] hv hB (fun p e hf=>?_) (fun v L' pR=>?_)
 ·unfold msV at hf
  split at hf<;>try (cases hf;done)
  rename_i T x y ax
  split at hf<;>try (cases hf;done)
  rename_i E' _ _ _ dI
  split at hf<;>try (cases hf;done)
  rename_i te tJ
  split at hf<;>try (cases hf;done)
  rename_i a b hx hy
  cases hc:((decide (a=2)&&decide (b=2))&&(Nat.beq te.size 1&&Nat.ble (s8 X.P E') 65536)) with
  |false=>rw[hc] at hf;cases hf
  |true=>
   rw[hc] at hf
   simp only[cond_true,Option.some.injEq,Prod.mk.injEq] at hf
   obtain⟨rfl,hz⟩:=hf
   simp only[Bool.and_eq_true,decide_eq_true_eq,Nat.beq_eq,Nat.ble_eq] at hc
   obtain⟨⟨rfl,rfl⟩,uz,hby⟩:=hc
   obtain⟨Y1,tf⟩:=ar dI
   obtain⟨bu,jC⟩:=ar tJ
   obtain⟨i,hi,hi1,Sc,hi3⟩:=jC.info
   have ajY:bu≤65536:=by simp only[s8,hi] at hby;omega
   have ar2:¬((bu:Int)*2>2^48):=by omega
   have w2:IntKind.i64.wrap 2=2:=jV 2 (by omega)
   have ir:(Mt [z] te.agg).cells=⟨[z]⟩:=by rw[←hz];exact dR jC
   have F3:((Array.range ((2:Int).toNat*1)).map fun x=>(⟨[z]⟩:Array Value)[x % (⟨[z]⟩:Array Value).size]!)=⟨[z,z]⟩:=by apply Array.ext';simp[Nat.mod_one,List.range,List.range.loop]
   refine⟨by rw[ax];simp,fun R Q E hQ=>?_⟩
   simp only[execOp,ax,Instr.makeSlice,aC hx,aC hy,asInt,asIntOf,aa,aW tf,ae,mS hi,Sc,w2,ar2,show ¬((2:Int) <0) by omega,show ¬((2:Int)>2) by omega,decide_false,Bool.or_self,Bool.false_eq_true,if_false]
   refine rQ ?_
   simp only[aa,bW jC,uz,show ¬((2:Int).toNat*1=0) by decide,if_false,jK jC,ae,hz,ir,F3,iM]
   intro b hb
   exact hQ _ _ ⟨b,rfl,rfl⟩
 ·obtain⟨b,rfl,rfl⟩:=pR
  exact hj b
def akL(body:Code):Option JS→Option (JS×Nat)
 |some ⟨.fin .normal,e,.b c oc:: .b b (.loop r)::w,kn⟩=>match r.state with
  | .ready=>some (⟨.code body [],e,.b c oc:: .b b (.loop {r with state:= .busy})::w,kn⟩,b)
  |_=>none
 |_=>none
theorem aym{ro:Nat→Option Obj}(h:J (X.re bl ro Φ) (Dr (akL body o)))(h1:QC (akL body o)=some bl:=by kernel_rfl):J (X.rd bl ro Φ body) o:=by
 unfold akL at h h1
 split at h<;>try (unfold Dr at h;exact h.elim)
 rename_i e c oc b r w kn
 split at h<;>try (unfold Dr at h;exact h.elim)
 rename_i bL
 unfold QC at h1
 unfold Dr at h
 simp only[bL,Option.some.injEq] at h1
 subst h1
 intro bP
 have hw:=h bP
 simp only[JP,Cx.rd,GQ,B3]
 refine⟨[(c,oc)],r,den w,by rw[ib,ib];rfl,bL,?_⟩
 simp only[JP,ib] at hw
 exact hw
theorem ayj{hm:P.follows .mixedOrders=true}{ro:Nat→Option Obj}(own:List Sg)(kn:Cells)(hk:Knows ro kn)(h:J (XM P hm f ro R) (ky P f args own kn)):Fn (CP P) P f ⟨args⟩ ⟨ro,den own⟩ R:=by
 unfold ky at h
 split at h<;>try exact h.elim
 rename_i fn hf
 split at h<;>try exact h.elim
 rename_i c hc
 cases hl:Nat.ble args.length fn.ntmps with
 |false=>rw[hl] at h;exact h.elim
 |true=>
  rw[hl] at h
  have uA:sG P f=fn:=by simp only[sG,hf]
  have:=h hk
  simp only[JP,XM,KQ,uA] at this
  refine Jc eL hf hc ?_
  have he:=kg args fn.ntmps (Nat.le_of_ble_eq_true hl)
  rw[←he] at this
  exact this
section
variable {X:Cx} {o:Option JS}
theorem aMq{tU:List Nat}(hq:QM X R tU)(v:Value)(pm hs ps:List Nat)(Y:Cells)(fq:Sub oM X.ro)(hR:R (.returned v) ⟨oM,Y⟩)(h0:dN pm o=some (mk tU):=by kernel_rfl)(h1:sD (jD X.P X.n X.fn hs (BR pm o))=some v:=by kernel_rfl)(h2:Qd (jD X.P X.n X.fn hs (BR pm o))=Qc (jD X.P X.n X.fn hs (BR pm o)):=by kernel_rfl)(h3:dN ps (BR pm o)=some Y:=by kernel_rfl)(h4:BK o=true:=by kernel_rfl):J X o:=by
 obtain⟨ex,e,w,kn,rfl,hex⟩:=sI h4
 simp only[BR,jD] at h1 h2 h3
 cases hr:A3 X.P X.n e (dj pm 0 w) kn.c hs (sG X.P X.fn).results.toList with
 |none=>simp only[hr,sD] at h1;cases h1
 |some x=>
  rcases x with ⟨vs,q⟩
  simp only[hr,sD,Option.some.injEq,Qd,Qc] at h1 h2
  intro bP
  have rz:=tj bP hr (lJ h2)
  have hp:=bB h3
  have G5:=M9 (s0:=⟨oM,Y⟩) (R:=R) hex rz h1 (dH hp fq) hR
  have ht:bG X.P (results (sG X.P X.fn) (A X.n e X.D).tmps) ⟨X.ro,den (dj pm 0 w)⟩ (fun v s'=>∃s0,s0.le s'∧R (.returned v) s0) (fun _ _=>False):=by
   rcases hex with rfl|rfl<;>exact G5.2
  show X.Q ex (A X.n e X.D) ⟨X.ro,den w⟩
  rw[hq.q]
  have hm:∃tU rest,(A X.n e X.D).defers=tU.map dS∧(den w).Perm (mk tU++rest)∧bG X.P (results (sG X.P X.fn) (A X.n e X.D).tmps) ⟨X.ro,rest⟩ (fun v s'=>∃s0,s0.le s'∧R (.returned v) s0) (fun _ _=>False):=⟨tU,_,hq.d,bB h0,ht⟩
  rcases hex with rfl|rfl<;>exact hm
end
attribute [irreducible] mrV nmV enV ui msV akL
end Go.L

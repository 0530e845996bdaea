/- Part 10 of the proof: a program logic, contracts, a theorem on goroutines. -/
import Derived.Test.YtjpghiajlddegaaGreatDoorA9
set_option maxRecDepth 100000
set_option linter.all false
namespace Go.L
open Go Go.Conc
open Go.ConcR (KK wgBlock WgAt stA smA rd wr)
variable {f:FuncId} {Φ:Value→Cells→Prop} {todo seen:List Nat} {P:Program} {oT:Nat→Option Obj} {R:Ending→St→Prop} {args ca vs:List Value} {T:Goroutine→St→Prop} {o:Option JS} {k yQ:List Item} {ats:Array TypeId} {i n id ck q r bd bl it:Nat} {fn:Func} {x y:Operand} {X:Cx} {U:TypeId} {cs:List Frame} {κ:Type} {main:Bool} {body:Code}
def TT(T:Goroutine→St→Prop)(b:Frame)(yQ:List Item)(cs:List Frame)(n:Nat)(D:List Deferred)(ro:Nat→Option Obj)(o:Option JS):Prop:=
 ∀e w kn,o=some ⟨.fin .normal,e,w,kn⟩→Knows ro kn.c→T (G (aM b (A n e D) yQ) cs) ⟨ro,den w⟩
def CT(hm:P.follows .mixedOrders=true)(hT:Closed P main T)(b:Frame)(yQ:List Item)(cs:List Frame)(n:Nat)(D:List Deferred)(ro:Nat→Option Obj):Cx:=
 ⟨P,fun m T'=>m=main∧T'=T,by rintro _ _ ⟨rfl,rfl⟩;exact hT,hm,b.fn,none,n,D,ro,jK T b yQ cs⟩
def TD:Option JS→Bool
 |some ⟨.fin .normal,_,_,_⟩=>true
 |_=>false
def opO(ops:Array Oper)(todo:List Nat):Option JS→Option JS
 |some ⟨.fin .normal,e,w,kn⟩=>some ⟨.ops ops todo [],e,w,⟨kn.c,[]⟩⟩
 |_=>none
def cdO(c:Code):Option JS→Option JS
 |some ⟨.fin .normal,e,w,kn⟩=>some ⟨.code c [],e,w,⟨kn.c,[]⟩⟩
 |_=>none
def ZF(dst:Option Tmp)(v:Value):Option JS→Option JS
 |some ⟨p,e,w,kn⟩=>some ⟨p,upd dst v e,w,kn⟩
 |none=>none
def nwO(dst:Option Tmp)(v:Value)(q:Nat)(ob:Obj):Option JS→Option JS
 |some ⟨p,e,w,kn⟩=>some ⟨p,upd dst v e,.b q ob::w,kn⟩
 |none=>none
def adO(L:Cells):Option JS→Option JS
 |some ⟨p,e,w,kn⟩=>some ⟨p,e,.l L::w,kn⟩
 |none=>none
def evO(n:Nat)(x:Operand):Option JS→Option Value
 |some ⟨_,e,_,_⟩=>bu n e x
 |none=>none
def aSP(n:Nat)(xs:List Operand):Option JS→Option (List Value)
 |some ⟨_,e,_,_⟩=>xg n e xs
 |none=>none
def vaO(P:Program)(n:Nat)(a:Oper):Option JS→Option Value
 |some ⟨_,e,_,_⟩=>aay P n e a
 |none=>none
theorem YY(h:TD o=true):∃e w kn,o=some ⟨.fin .normal,e,w,kn⟩:=by
 unfold TD at h
 split at h
 ·exact⟨_,_,_,rfl⟩
 ·cases h
def YU(f:FuncId)(k:CallKind):Frame:={(default:Frame) with fn:=f,kind:=k,roundOf:=none}
section
variable {P:Program} {main:Bool} {T:Goroutine→St→Prop} {b:Frame} {yQ:List Item} {cs:List Frame} {n:Nat} {D:List Deferred} {ro:Nat→Option Obj} {o:Option JS} {ops:Array Oper}
theorem aa4(h:TT T b yQ cs n D ro o)(hQ:X.Q=jK T b yQ cs)(hn:X.n=n)(hD:X.D=D)(zy:X.ro=ro)(h1:TD o=true):J X o:=by
 subst hn hD zy
 obtain⟨e,w,kn,rfl⟩:=YY h1
 intro bW
 show X.Q .normal _ _
 rw[hQ]
 exact h _ _ _ rfl bW
theorem wY{hm:P.follows .mixedOrders=true}{hT:Closed P main T}(h:TT T b yQ cs n D ro o)(h1:TD o=true:=by kernel_rfl):J (CT hm hT b yQ cs n D ro) o:=aa4 h rfl rfl rfl rfl h1
theorem axA{hm:P.follows .mixedOrders=true}{hT:Closed P main T}(h:TT T b yQ cs n D ro o)(h1:TD o=true:=by kernel_rfl):J ((CT hm hT b yQ cs n D oT).at ro) o:=aa4 h rfl rfl rfl rfl h1
theorem axz{hm:P.follows .mixedOrders=true}{hT:Closed P main T}(h:TT T b yQ cs n (ez bd::D) ro o)(h1:TD o=true:=by kernel_rfl):J ((CT hm hT b yQ cs n D ro).dm bd) o:=aa4 h rfl rfl rfl rfl h1
theorem uU(hm:P.follows .mixedOrders=true)(hT:Closed P main T)(hj:J (CT hm hT b yQ cs n D ro) (opO ops todo o))(hk:b.kind≠ .early:=by decide)(hr:b.roundOf=none:=by rfl):TT T b (.inRegion ops todo::yQ) cs n D ro o:=by
 rintro e w kn rfl bW
 exact hj bW main T ⟨rfl,rfl⟩ b yQ cs rfl hk hr fun e a s q=>q
theorem axB(hm:P.follows .mixedOrders=true)(hT:Closed P main T){c:Code}(hj:J (CT hm hT b yQ cs n D ro) (cdO c o))(hk:b.kind≠ .early:=by decide)(hr:b.roundOf=none:=by rfl):TT T b (.code c::yQ) cs n D ro o:=by
 rintro e w kn rfl bW
 exact hj bW main T ⟨rfl,rfl⟩ b yQ cs rfl hk hr fun e a s q=>q
theorem tSt(hT:Closed P main T)(ef:Env)(wf:List Sg)(ps:List Nat)(h:∀rest,TT T b yQ cs n D ro (some ⟨.fin .normal,ef++rest,wf,⟨[],[]⟩⟩))(h1:uf (oP ef) o=some ef:=by kernel_rfl)(h2:qE ps o=some wf:=by kernel_rfl)(h3:ZI (oP ef) ef=some ef:=by kernel_rfl):TT T b yQ cs n D ro o:=by
 rintro e w kn rfl bW
 obtain⟨rest,he⟩:=fX (n:=n) (D:=D) (kp (by rw[sr] at h1;exact h1)) (kp h3)
 rw[he]
 exact hT.mono _ ⟨ro,den wf⟩ _ (dQ (lF h2) (Sub.refl _)) (h rest _ _ _ rfl fun _ h=>(by cases h))
section
variable {k:List Item} {rest l:List Code} (hT:Closed P main T)
include hT
theorem pH(hl:gE l= .region id ops false::rest)(h:∀l',gE l'=rest→TT T b (.inRegion ops (List.range ops.size)::(l'.map .code++k)) cs n D ro o):TT T b (l.map .code++k) cs n D ro o:=
 fun e w kn ho bW=>dJ hT hl fun l' yq=>h l' yq e w kn ho bW
theorem UI{c:Operand}{x y:Code}{t q:Bool}(hl:gE l= .cond c x y::rest)(hq:q=t)(h:∀l',gE l'=rest→TT T b (.code (if t then x else y)::(l'.map .code++k)) cs n D ro o)(hc:evO n c o=some (.bool q):=by kernel_rfl):TT T b (l.map .code++k) cs n D ro o:=by
 subst hq
 rintro e w kn rfl bW
 exact zp hT hl (by rw[eB];exact aG hc) fun l' yq=>h l' yq e w kn rfl bW
theorem J9{c:Code}(hl:gE l= .block id c::rest)(h:∀l',gE l'=rest→TT T b ([c].map .code++(.inBlock id::(l'.map .code++k))) cs n D ro o):TT T b (l.map .code++k) cs n D ro o:=
 fun e w kn ho bW=>u4 hT hl fun l' yq=>h l' yq e w kn ho bW
theorem amS{c:Code}(hl:gE l= .loop c::rest)(h:∀l',gE l'=rest→TT T b ([c].map .code++(.inLoop c::(l'.map .code++k))) cs n D ro o):TT T b (l.map .code++k) cs n D ro o:=
 fun e w kn ho bW=>KT hT hl fun l' yq=>h l' yq e w kn ho bW
theorem amT{c:Code}(hl:gE l=c::rest)(h:∀l',gE l'=rest→TT T b (.code c::(l'.map .code++k)) cs n D ro o):TT T b (l.map .code++k) cs n D ro o:=
 fun e w kn ho bW=>nE hT hl fun l' yq=>h l' yq e w kn ho bW
theorem amQ(h:TT T b k cs n D ro o):TT T b (.code .skip::k) cs n D ro o:=fun e w kn ho bW=>Mq hT (h e w kn ho bW)
theorem amU{k':List Item}(hk:exitTo id k=some k')(h:TT T b k' cs n D ro o):TT T b (.code (.exit id)::k) cs n D ro o:=fun e w kn ho bW=>Mr hT hk (h e w kn ho bW)
theorem amV(h:TT T b k cs n D ro o):TT T b (.inBlock id::k) cs n D ro o:=fun e w kn ho bW=>BZ hT (h e w kn ho bW)
theorem UH(h:TT T b k cs n D ro o):TT T b (.inRegion ops []::k) cs n D ro o:=fun e w kn ho bW=>gZ hT (h e w kn ho bW)
theorem aa5{c:Code}(h:TT T b ([c].map .code++(.inLoop c::k)) cs n D ro o):TT T b (.inLoop c::k) cs n D ro o:=fun e w kn ho bW=>yM hT (h e w kn ho bW)
theorem axv{a:Oper}{f:Nat→Value}{ob:Obj}(ho:ops[i]?=some a) (hg:a.guard=none) (sB:∀e q,Se P (execOp (ev n e) a) q=some (ob,f q)) (hk:b.kind≠ .early) (hr:b.roundOf=none)
 (h:∀q,TT T b (.inRegion ops todo::k) cs n D ro (nwO a.dst (f q) q ob o)):TT T b (.inRegion ops (i::todo)::k) cs n D ro o:=by
 rintro e w kn rfl bW
 refine sg hT ho (dw _ _ hg) hk hr ?_
 rw[eB]
 refine Fs (f:=f) (fun q _=>⟨_,rfl,?_⟩) _ (sB e)
 rw[a8]
 have:=h q _ _ _ rfl bW
 rw[iC] at this
 exact this
theorem axs{a:Oper}(v:Value)(ho:ops[i]?=some a) (hg:a.guard=none) (hk:b.kind≠ .early) (hr:b.roundOf=none) (h:TT T b (.inRegion ops todo::k) cs n D ro (ZF a.dst v o)) (hv:vaO P n a o=some v:=by kernel_rfl):TT T b (.inRegion ops (i::todo)::k) cs n D ro o:=by
 rintro e w kn rfl bW
 refine sg hT ho (dw _ _ hg) hk hr ?_
 rw[eB]
 refine y6 hv _ (Ext.refl _) _ (fun _ _ h=>aG h) _ _ ⟨v,rfl,?_⟩
 rw[a8]
 exact h _ _ _ rfl bW
theorem tLd{a:Oper}(v:Value)(ho:ops[i]?=some a) (hg:a.guard=none) (aB:a.op= .load U x) (ht:(ba P U).map (·.agg)=some false) (hk:b.kind≠ .early) (hr:b.roundOf=none) {fz:Nat×Nat} {t:TypeId} (hb:∀e w kn,o=some ⟨.fin .normal,e,w,kn⟩→(⟨ro,den w⟩:St).has q (.cells ⟨[v]⟩ t fz))
 (h:TT T b (.inRegion ops todo::k) cs n D ro (ZF a.dst v o)) (hx:evO n x o=some (.pointer (some ⟨q,0,none⟩)):=by kernel_rfl):TT T b (.inRegion ops (i::todo)::k) cs n D ro o:=by
 rintro e w kn rfl bW
 refine sg hT ho (dw _ _ hg) hk hr ?_
 rw[eB]
 cases dR:ba P U with
 |none=>rw[dR] at ht;cases ht
 |some z=>
 rw[dR] at ht
 simp only[Option.map_some,Option.some.injEq] at ht
 obtain⟨bE,tf⟩:=au dR
 rw[ht] at tf
 simp only[execOp,aB,Instr.loadAt,aG hx,Instr.sureAddr,loadVar,aa,af,j9 tf,Bool.false_eq_true,if_false]
 refine uR ⟨[v],t,fz,hb _ _ _ rfl,rfl⟩ ⟨v,rfl,?_⟩
 rw[a8]
 exact h _ _ _ rfl bW
theorem aLs{a:Oper}(v:Value)(ho:ops[i]?=some a) (hg:a.guard=none) (aB:a.op= .load U x) (ht:(ba P U).map (·.agg)=some false) (hk:b.kind≠ .early) (hr:b.roundOf=none) (ps:List Nat) (t:TypeId)
 (h:TT T b (.inRegion ops todo::k) cs n D ro (ZF a.dst v o)) (hx:evO n x o=some (.pointer (some ⟨q,0,none⟩)):=by kernel_rfl) (hd:dY ps o=some [(q,.cells ⟨[v]⟩ t (0,0))]:=by kernel_rfl):TT T b (.inRegion ops (i::todo)::k) cs n D ro o:=
 tLd hT v ho hg aB ht hk hr (fz:=(0,0)) (t:=t) (q:=q) (fun e w kn he=>by
  subst he
  exact .inr ((bH hd).mem_iff.2 (List.mem_append_left _ (List.mem_singleton.2 rfl)))) h hx
end
theorem apz(hT:Closed P main T){a:Oper}{xs:Array Operand}(ho:ops[i]?=some a) (hg:a.guard=none) (aB:a.op= .defer ⟨.value (.func f),xs,ats⟩) (hk:b.kind≠ .early) (hr:b.roundOf=none)
 (h:TT T b k cs n ({target:= .fn (.func f) ⟨[]⟩,args:=⟨vs⟩}::D) ro (ZF a.dst undef o)) (hx:aSP n xs.toList o=some vs:=by kernel_rfl):TT T b (.inRegion ops [i]::k) cs n D ro o:=by
 rintro e w kn rfl bW
 have hC:∀m T',(fun m T'=>m=main∧T'=T:Class) m T'→Closed P m T':=by rintro _ _ ⟨rfl,rfl⟩;exact hT
 have key:ab (fun m T'=>m=main∧T'=T) b.fn none ops [i] (jK T b k cs) (A n e D) ⟨ro,den w⟩:=by
  refine KS (P:=P) hC ho (dw _ _ hg) (.inl rfl) ?_
  rw[eB]
  have e1:ev n e (.func f)= .func (.func f) #[] #[]:=rfl
  have e2:xs.map (ev n e)=⟨vs⟩:=rE hx
  simp only[execOp,aB,resolve,e1,Deferred.ofValue,af,e2]
  refine⟨rfl,?_⟩
  have hA:({A n e D with defers:={target:= .fn (.func f) ⟨[]⟩,args:=⟨vs⟩}::(A n e D).defers}:Act).put a.dst undef=A n (upd a.dst undef e) ({target:= .fn (.func f) ⟨[]⟩,args:=⟨vs⟩}::D):=by
   rw[←a8];rfl
  have he:(⟨[]⟩:Array Value)++(⟨vs⟩:Array Value)=⟨vs⟩:=by simp
  rw[he]
  have:=h _ _ _ rfl bW
  rw[←hA] at this
  exact fun m T' hc b' k' HK h1 h2 h3 h4=>by
   obtain⟨rfl,rfl⟩:=hc
   exact gZ hT (h4 .normal _ _ this)
 exact key main T ⟨rfl,rfl⟩ b k cs rfl hk hr fun e a s q=>q
end
attribute [irreducible] TD opO cdO
structure ahx(L:Nat→Option Obj)(X:Cells)(ro aK:Nat→Option Obj):Prop where
 of:∀q o,L q=some o→(q,o)∈X
 on:∀q o,(q,o)∈X→L q=some o
 sub:Sub ro aK
 kn:Knows aK X
 nd:(X.map (·.1)).Nodup
 ap:∀q o,(q,o)∈X→ro q=none
def bkO(L:Cells):Option JS→Option JS
 |some ⟨p,e,w,_⟩=>some ⟨p,e,.l L::w,⟨[],[]⟩⟩
 |none=>none
def Rz(ps:List Nat):Option JS→Option Cells
 |some ⟨_,_,w,_⟩=>some (den (dE ps 0 w))
 |none=>none
def Vv:Option JS→Option JS
 |some ⟨p,e,_,kn⟩=>some ⟨p,e,[],⟨kn.c,[]⟩⟩
 |none=>none
theorem B3:∀(w:List Sg) (k:Nat),dE [] k w=w
 | [],_=>rfl
 |x::w,k=>by
  simp only[dE,bk]
  rw[B3 w]
  rfl
theorem ahx.back{L:Nat→Option Obj}{X:Cells}{ro aK roK:Nat→Option Obj}{rwK:Cells}(h:ahx L X ro aK)(hs:Sub aK roK):
 (∀w,aU ⟨roK,rwK⟩ w→(∀b o,L b=some o→w.heap[b]?=some o)→aU ⟨ro,X++rwK⟩ w)∧∀b,(⟨ro,X++rwK⟩:St).knows b→L b≠none∨(⟨roK,rwK⟩:St).knows b:=by
 refine⟨fun w hw hL=>⟨fun q o hq=>hw.ro q o (hs _ _ (h.sub _ _ hq)),fun q o hq=>?_,?_,fun q o hq=>?_⟩,fun q hq=>?_⟩
 ·rcases List.mem_append.1 hq with hq|hq
  ·exact hL q o (h.on q o hq)
  ·exact hw.rw q o hq
 ·show ((X++rwK).map (·.1)).Nodup
  rw[List.map_append,List.nodup_append]
  refine⟨h.nd,hw.nodup,fun q hq q' Hu e=>?_⟩
  subst e
  obtain⟨⟨q1,o1⟩,h1,rfl⟩:=List.mem_map.1 hq
  obtain⟨⟨q2,o2⟩,h2,e2⟩:=List.mem_map.1 Hu
  simp only at e2
  subst e2
  have h3:=hs _ _ (h.kn _ h1)
  have h4:=hw.apart _ _ h2
  dsimp only at h3 h4
  rw[h4] at h3
  cases h3
 ·show ro q=none
  rcases List.mem_append.1 hq with hq|hq
  ·exact h.ap q o hq
  ·have h2:roK q=none:=hw.apart q o hq
   cases hr:ro q with
   |none=>rfl
   |some o'=>rw[hs _ _ (h.sub _ _ hr)] at h2;cases h2
 ·rcases hq with hq| ⟨o,hq⟩
  ·have hq:ro q≠none:=hq
   cases hr:ro q with
   |none=>exact absurd hr hq
   |some o'=>exact .inr (.inl (by show roK q≠none;rw[hs _ _ (h.sub _ _ hr)];simp))
  ·rcases List.mem_append.1 hq with h'|h'
   ·exact .inl (by rw[h.on q o h'];simp)
   ·exact .inr (.inr ⟨o,h'⟩)
section
variable {ι:Type} {E:dS ι} {Q:Machine→Outcome→World→Trace→Prop} {b:Frame} {yQ:List Item} {cs:List Frame} {n:Nat} {D:List Deferred} {ro:Nat→Option Obj} {o:Option JS} {ops:Array Oper} {L:Nat→Option Obj}
theorem apy{tm:Bool}(iw ic:Nat)(X:Cells)(iG:Closed E.P true (TL E.P eH (fun _=>none) (Calm E.os E.out) Q))
 (h:∀L aK,ahx L X ro aK→E.Wg≠E.Ch→L E.Ch=none→TT (TM E L Q 0 false [] 0) b yQ cs n D aK (Vv o))
 (hW:dY [iw,ic] o=some [(E.Wg,wgBlock E.ty 0 0),(E.Ch,.chan 0 #[] false 0 0 tm)]:=by kernel_rfl)(hX:Rz [iw,ic] o=some X:=by kernel_rfl):TT (TL E.P eH (fun _=>none) (Calm E.os E.out) Q) b yQ cs n D ro o:=by
 rintro e w kn rfl bW
 refine Closed.jI iG rfl fun⟨w0,VN⟩=>?_
 have hp:=bH hW
 simp only[Rz,Option.some.injEq] at hX
 have QK:=hp
 dsimp only at QK
 rw[hX] at QK
 have hm:∀x,x∈den w↔x=(E.Wg,wgBlock E.ty 0 0)∨x=(E.Ch,.chan 0 #[] false 0 0 tm)∨x∈X:=fun x=>by
  rw[QK.mem_iff]
  simp
 have lX:=(QK.map (·.1)).nodup_iff.1 VN.nodup
 simp only[List.cons_append,List.nil_append,List.map_cons,List.nodup_cons,List.mem_cons,not_or] at lX
 obtain⟨⟨eg,hW1⟩,hC1,Ph⟩:=lX
 have yU:∀x∈X,x∈den w:=fun x hx=>(hm x).2 (.inr (.inr hx))
 have aBT:(E.Wg,wgBlock E.ty 0 0)∈den w:=(hm _).2 (.inl rfl)
 have afw:(E.Ch,Obj.chan 0 #[] false 0 0 tm)∈den w:=(hm _).2 (.inr (.inl rfl))
 have LD:∀y∈X,y.1≠E.Wg∧y.1≠E.Ch:=fun y hy=>⟨fun e=>hW1 (e▸List.mem_map.2 ⟨_,hy,rfl⟩),fun e=>hC1 (e▸List.mem_map.2 ⟨_,hy,rfl⟩)⟩
 let L:Nat→Option Obj:=fun q=>(X.find? fun y=>y.1==q).map (·.2)
 have Te:∀q o,L q=some o→(q,o)∈X:=fun q o hq=>by
  obtain⟨y,hy,rfl⟩:=Option.map_eq_some_iff.1 hq
  obtain⟨h1,h2⟩:=ou hy
  subst h2
  exact h1
 have aRt:∀q o,(q,o)∈X→L q=some o:=fun q o hq=>by
  show (X.find? fun y=>y.1==q).map (·.2)=some o
  rw[vD Ph hq];rfl
 have Tf:L E.Ch=none:=by
  cases hq:L E.Ch with
  |none=>rfl
  |some o=>exact absurd rfl (LD _ (Te _ _ hq)).2
 have mD:∀q o,(q,o)∈X→ro q=none:=fun q o hq=>VN.apart q o (yU _ hq)
 have fD:Sub ro (St.freeze ⟨ro,X⟩).ro:=fun q o hq=>St.nC (s:=⟨ro,X⟩) hq fun q o hq=>mD q o hq
 have aeF:∀q,(∃o,(q,o)∈den w)→(q=E.Wg∨q=E.Ch)→¬(St.freeze ⟨ro,X⟩).knows q:=by
  rintro q ⟨o,ho⟩ hq (hk| ⟨o',D9⟩)
  ·simp only[St.freeze] at hk
   split at hk
   ·rename_i y hy
    obtain⟨h1,h2⟩:=ou hy
    have:=LD _ h1
    rcases hq with e|e
    ·exact this.1 (h2.trans e)
    ·exact this.2 (h2.trans e)
   ·exact hk (VN.apart q o ho)
  ·cases D9
 have aAY:ahx L X ro (St.freeze ⟨ro,X⟩).ro:=⟨Te,aRt,fD,fun x hx=>St.sH (s:=⟨ro,X⟩) (by rcases x with ⟨q,o⟩;exact hx) Ph,Ph,mD⟩
 refine NF (E:=E) (L:=L) (s':=St.freeze ⟨ro,X⟩) rfl eg aBT ⟨tm,afw⟩ ?_ (aeF _ ⟨_,aBT⟩ (.inl rfl)) (aeF _ ⟨_,afw⟩ (.inr rfl)) (fun q ⟨o,ho⟩=>by cases ho) (fun q o hq=>⟨.inr (yU _ (Te _ _ hq)),LD _ (Te _ _ hq)⟩) ?_
 ·refine⟨den w,by simp[St.freeze],fun q o hq=>?_⟩
  simp only[St.freeze] at hq
  split at hq
  ·rename_i y hy
   obtain⟨h1,h2⟩:=ou hy
   cases hq
   subst h2
   exact .inr (yU _ h1)
  ·exact .inl hq
 ·exact(h L _ aAY eg Tf _ _ _ rfl (bW.up fD)).1
theorem aLv{os:List ι}{a:Oper}{bs:List Nat}(h:TT (TM E L Q 1 false os 0) b k cs n D ro (ZF a.dst (.tuple #[]) o))(ho:ops[0]?=some a) (hg:a.guard=none) (aB:a.op= .call ⟨.value (.func f),#[x,.const (.int .i64 1)],ats⟩) (hf:FF E.P f) (hk:b.kind≠ .early) (hr:b.roundOf=none) (H9:os.length <E.max)
 (ae6:GY E.P E.ty os.length (Frame.enter E.P f #[.pointer (some ⟨E.Wg,0,none⟩),.int .i64 1] .normal)=some bs) (ZU:∀b∈bs,b=E.Wg) (hx:evO n x o=some (.pointer (some ⟨E.Wg,0,none⟩)):=by kernel_rfl):TT (TM E L Q 0 false os 0) b (.inRegion ops [0]::k) cs n D ro o:=by
 rintro e w kn rfl bW
 have hT:Closed E.P true (TM E L Q 0 false os 0):=fq (E:=E) false os (fun e=>(by cases e))
 have Td:Closed E.P true (TM E L Q 1 false os 0):=fq (E:=E) false os (fun e=>(by cases e))
 refine Ot (rest:=[]) hT ho hg hk hr aB hf ?_
 have mX:(#[x,.const (.int .i64 1)]:Array Operand).map (A n e D).eval= #[.pointer (some ⟨E.Wg,0,none⟩),.int .i64 1]:=by
  rw[eB]
  simp only[List.map_toArray,List.map_cons,List.map_nil,aG hx]
  rfl
 rw[mX]
 refine⟨JQ (E:=E) ae6 ZU H9 ?_,fun e=>(by cases e)⟩
 rw[fJ,ho]
 simp only[Option.bind_some]
 rw[a8]
 exact(gZ Td (h _ _ _ rfl bW)).1
theorem tGo{os:List ι}(oo:ι){a:Oper}(L1:Cells)(ho:ops[i]?=some a) (hg:a.guard=none) (aB:a.op= .go ⟨.value y,#[],ats⟩) (hk:b.kind≠ .early) (hr:b.roundOf=none)
 (h:∀aK,Sub ro aK→Knows aK L1→eQ E.P false (E.Iv oo) (born E.P {target:= .fn (.func f) ⟨ca⟩,args:= #[]}) ⟨aK,[]⟩∧TT (TM E L Q 0 false (os++[oo]) 0) b (.inRegion ops todo::k) cs n D aK (Vv (ZF a.dst undef o)))
 (hy:evO n y o=some (.func (.func f) ⟨[]⟩ ⟨ca⟩):=by kernel_rfl) (hL:Rz [] o=some L1:=by kernel_rfl):TT (TM E L Q 1 false os 0) b (.inRegion ops (i::todo)::k) cs n D ro o:=by
 rintro e w kn rfl bW
 have Td:Closed E.P true (TM E L Q 1 false os 0):=fq (E:=E) false os (fun e=>(by cases e))
 refine Closed.jI Td rfl fun oY=>?_
 obtain⟨w0,VN⟩:=oY
 have lX:((den w).map (·.1)).Nodup:=VN.nodup
 have mD:∀q o,(q,o)∈den w→ro q=none:=VN.apart
 have fD:Sub ro (St.freeze ⟨ro,den w⟩).ro:=fun q o hq=>St.nC (s:=⟨ro,den w⟩) hq mD
 have asS:Knows (St.freeze ⟨ro,den w⟩).ro L1:=fun x hx=>St.sH (s:=⟨ro,den w⟩) (by rcases x with ⟨q,o⟩;simp only[Rz,Option.some.injEq] at hL;rw[←hL,B3] at hx;exact hx) lX
 obtain⟨h1,h2⟩:=h _ fD asS
 have bS:=fun w'=>Eg (P:=E.P) (main:=true) (b:=b) (a:=A n e D) (k:=k) (cs:=cs) (rest:=todo) ho hg hk hr aB (by rw[eB];exact aG hy) w'
 have:=h2 _ _ _ rfl (bW.up fD)
 rw[←a8] at this
 exact⟨TC.mono (St.BS ⟨ro,den w⟩) (IC (E:=E) (o:=oo) (s:=St.freeze ⟨ro,den w⟩) rfl rfl (fun w' _=>bS w') h1 this.1),fun e=>(by cases e)⟩
theorem apC{os:List ι}{a:Oper}(L1:Cells)(ho:ops[i]?=some a) (hg:a.guard=none) (aB:a.op= .go ⟨.value y,#[],ats⟩) (hk:b.kind≠ .early) (hr:b.roundOf=none)
 (h:∀aK,Sub ro aK→Knows aK L1→E.closes ⟨aK,[]⟩ (born E.P {target:= .fn (.func f) ⟨ca⟩,args:= #[]})∧TT (TM E L Q 0 true os 0) b (.inRegion ops todo::k) cs n D aK (Vv (ZF a.dst undef o)))
 (hy:evO n y o=some (.func (.func f) ⟨[]⟩ ⟨ca⟩):=by kernel_rfl) (hL:Rz [] o=some L1:=by kernel_rfl):TT (TM E L Q 0 false os 0) b (.inRegion ops (i::todo)::k) cs n D ro o:=by
 rintro e w kn rfl bW
 have Td:Closed E.P true (TM E L Q 0 false os 0):=fq (E:=E) false os (fun e=>(by cases e))
 refine Closed.jI Td rfl fun oY=>?_
 obtain⟨w0,VN⟩:=oY
 have lX:((den w).map (·.1)).Nodup:=VN.nodup
 have mD:∀q o,(q,o)∈den w→ro q=none:=VN.apart
 have fD:Sub ro (St.freeze ⟨ro,den w⟩).ro:=fun q o hq=>St.nC (s:=⟨ro,den w⟩) hq mD
 have asS:Knows (St.freeze ⟨ro,den w⟩).ro L1:=fun x hx=>St.sH (s:=⟨ro,den w⟩) (by rcases x with ⟨q,o⟩;simp only[Rz,Option.some.injEq] at hL;rw[←hL,B3] at hx;exact hx) lX
 obtain⟨h1,h2⟩:=h _ fD asS
 have bS:=fun w'=>Eg (P:=E.P) (main:=true) (b:=b) (a:=A n e D) (k:=k) (cs:=cs) (rest:=todo) ho hg hk hr aB (by rw[eB];exact aG hy) w'
 have:=h2 _ _ _ rfl (bW.up fD)
 rw[←a8] at this
 exact⟨TC.mono (St.BS ⟨ro,den w⟩) (ID (E:=E) (s:=St.freeze ⟨ro,den w⟩) rfl rfl (fun w' _=>bS w') h1 this.1),fun e=>(by cases e)⟩
theorem amR{os:List ι}{a:Oper}{rc:Operand}{z:Value}{X:Cells}{aE:Nat→Option Obj}(hl:ahx L X oT aE)(cy:Sub aE ro)(Tf:L E.Ch=none)(ho:ops[0]?=some a) (hg:a.guard=none) (QI:∀ρ,bx E.P (execOp ρ a)=some (.comm #[{chan:=ρ rc,send:=none,zero:=z}] true (.recv true))) (hk:b.kind≠ .early) (hr:b.roundOf=none)
 (Js:∀a' oo b' v Y,os=a'++oo::b'→E.Uj oo v Y→TT (TM E L Q 0 true (a'++b') 0) b (.inRegion ops todo::k) cs n D ro (adO Y (ZF a.dst (.tuple #[v,.bool true]) o)))
 (oX:os=[]→TT (TL E.P eH (fun _=>none) (Calm E.os E.out) Q) b (.inRegion ops todo::k) cs n D oT (bkO X (ZF a.dst (.tuple #[z,.bool false]) o)))
 (hx:evO n rc o=some (.chan (some E.Ch)):=by kernel_rfl):TT (TM E L Q 0 true os 0) b (.inRegion ops (0::todo)::k) cs n D ro o:=by
 rintro e w kn rfl bW
 have hT:Closed E.P true (TM E L Q 0 true os 0):=fq (E:=E) true os (fun _=>rfl)
 refine Closed.jI hT rfl fun oY=>?_
 have hvc:ev n e rc= .chan (some E.Ch):=aG hx
 have bS:∀w',stepG E.P true (G (aM b (A n e D) (.inRegion ops (0::todo)::k)) cs) w'= .comm (G (aM b (A n e D) (.inRegion ops (0::todo)::k)) cs) #[rcase E.Ch z] true (.recv true) w' #[]:=by
  intro w'
  have yV:=kz b (A n e D) (.inRegion ops (0::todo)::k)
  simp only[aM] at yV
  have hw:Region.wanted a (yielded ops (A n e D).tmps)=true:=dw _ _ hg
  have jD:(b.kind==CallKind.early)=false:=by simpa using hk
  have gB:stepG E.P true (G (aM b (A n e D) (.inRegion ops (0::todo)::k)) cs) w'=stepG.apply E.P true (aM b (A n e D) (.inRegion ops (0::todo)::k)) cs none (execOp (A n e D).eval a) w':=by
   simp only[G,stepG,stepG.exec,aM,ho,Option.map_some,Option.getD_some,hw,if_true,stepG.oper,Frame.oper?,yV]
   rw[hr]
  have bV:=tb (QI (ev n e)) w' #[]
  rw[hvc] at bV
  rw[gB,eB]
  simp only[stepG.apply,if_true,bV,aM,jD,Bool.false_eq_true,if_false]
  simp[seen_none,GStep.after,G,rcase]
 have oV:∀v,Conc.served (G (aM b (A n e D) (.inRegion ops (0::todo)::k)) cs) v=G (aM b (A n (upd a.dst v e) D) (.inRegion ops todo::k)) cs:=by
  intro v
  have:=fJ b (A n e D) ops 0 todo k v
  rw[ho] at this
  simp only[Option.bind_some] at this
  rw[a8] at this
  simp only[Conc.served,G] at this ⊢
  rw[this]
 have tL:os=[]→∀pc (g:Goroutine),g.status= .running→(∀w',stepG E.P true g w'= .comm (G (aM b (A n e D) (.inRegion ops (0::todo)::k)) cs) #[rcase E.Ch z] true (.recv true) w' #[])→
  TL E.P (iY pc) L (Hl E pc) Q g ⟨ro,den w⟩:=by
  intro sV pc g hg' ar1
  obtain⟨hb1,gp⟩:=hl.back (rwK:=den w) cy
  refine UA (E:=E) (z:=z) (s':=⟨oT,X++den w⟩) Tf hg' (fun w' _=>ar1 w') hb1 gp ?_
  rw[oV]
  have:=oX sV _ _ _ rfl fun x hx=>(by cases hx)
  rw[gv] at this
  exact this
 refine⟨UE (E:=E) (z:=z) rfl (fun w' _=>bS w') (fun a' oo b' v Y sV od=>?_) fun sV pc=>⟨tL sV pc _ rfl bS,tL sV pc _ rfl fun w'=>bS w'⟩,fun _ sV pc=>tL sV pc _ rfl bS⟩
 rw[oV]
 have:=Js a' oo b' v Y sV od _ _ _ rfl bW
 rw[gv] at this
 exact this.1
theorem axu{oo:ι}{a:Oper}{sc sv:Operand}{v:Value}{Y:Cells}(ys:List Nat)(ho:ops[i]?=some a) (hg:a.guard=none) (hse:∀ρ,execOp ρ a=Sem.pure (.comm #[{chan:=ρ sc,send:=some (ρ sv),zero:= .tuple #[]}] true .send)) (hk:b.kind≠ .early) (hr:b.roundOf=none)
 (hs:E.Uj oo v Y) (h:TT (eQ E.P false E.Ho) b (.inRegion ops todo::k) cs n D ro (B2 ys (ZF a.dst undef o)))
 (hx:evO n sc o=some (.chan (some E.Ch)):=by kernel_rfl) (hv:evO n sv o=some v:=by kernel_rfl) (hY:dY ys o=some Y:=by kernel_rfl):TT (eQ E.P false (E.Iv oo)) b (.inRegion ops (i::todo)::k) cs n D ro o:=by
 rintro e w kn rfl bW
 refine eQ.stop ?_
 have:=h e w kn
 refine⟨rfl,G (aM b (A n e D) (.inRegion ops (i::todo)::k)) cs,v,.tuple #[],Y,den (dE ys 0 w),bH hY,hs,fun w' oY=>?_,?_⟩
 ·have he:=kz b (A n e D) (.inRegion ops (i::todo)::k)
  simp only[aM] at he
  have as9:ev n e sc= .chan (some E.Ch):=aG hx
  have as8:ev n e sv=v:=aG hv
  have hw:Region.wanted a (yielded ops (A n e D).tmps)=true:=dw _ _ hg
  have jD:(b.kind==CallKind.early)=false:=by simpa using hk
  have az7:=hse (ev n e)
  rw[as9,as8] at az7
  have gB:stepG E.P false (G (aM b (A n e D) (.inRegion ops (i::todo)::k)) cs) w'=stepG.apply E.P true (aM b (A n e D) (.inRegion ops (i::todo)::k)) cs none (execOp (A n e D).eval a) w':=by
   simp only[G,stepG,stepG.exec,aM,ho,Option.map_some,Option.getD_some,hw,if_true,stepG.oper,Frame.oper?,he]
   rw[hr]
  rw[gB,eB,az7]
  simp only[stepG.apply,if_true,Sem.runT,aM,jD,Bool.false_eq_true,if_false]
  simp[seen_none,GStep.after,G,scase]
 ·have oV:Conc.served (G (aM b (A n e D) (.inRegion ops (i::todo)::k)) cs) undef=G (aM b (A n (upd a.dst undef e) D) (.inRegion ops todo::k)) cs:=by
   have:=fJ b (A n e D) ops i todo k undef
   rw[ho] at this
   simp only[Option.bind_some] at this
   rw[a8] at this
   simp only[Conc.served,G] at this ⊢
   rw[this]
  rw[oV]
  exact h _ _ _ (by simp only[B2,ZF]) bW
theorem apv{dn:Nat}{bs:List Nat}(hf:E.P.funcs[b.fn]?=some fn) (z0:fn.results= #[]) (yy:AW E.P dn=true) (CH:wO E.P E.ty E.max (Frame.enter E.P dn #[.pointer (some ⟨E.Wg,0,none⟩)] .deferred)=some bs) (ZU:∀b∈bs,b=E.Wg) (ps:List Nat) (hk:b.kind= .deferred) (hr:b.roundOf=none)
 (hd:dY ps o=some [(bd,.deferred (some []))]:=by kernel_rfl):TT (eQ E.P false E.Ho) b [] [cM E.P] n [ez bd,{target:= .fn (.func dn) ⟨[]⟩,args:=⟨[.pointer (some ⟨E.Wg,0,none⟩)]⟩}] ro o:=by
 rintro e w kn rfl bW
 have hT2:=dX E.P false E.Ho
 refine hT2.go rfl rfl (g':=G {aM b (A n e [ez bd,{target:= .fn (.func dn) ⟨[]⟩,args:=⟨[.pointer (some ⟨E.Wg,0,none⟩)]⟩}]) [] with mode:= .returning} [cM E.P]) (fun w=>by simp[G,stepG,stepG.exec,aM,hr]) ?_
 have hp:=bH hd
 obtain⟨Lw,Rr,hs⟩:=List.append_of_mem (hp.mem_iff.2 (List.mem_append_left _ (List.mem_singleton.2 rfl)))
 refine unwind_mark (C:=CA E.P) (fun _ _ h=>h) hT2 (.inl rfl) (fr:={aM b (A n e [ez bd,{target:= .fn (.func dn) ⟨[]⟩,args:=⟨[.pointer (some ⟨E.Wg,0,none⟩)]⟩}]) [] with mode:= .returning}) rfl hs ?_
 refine jv (C:=CA E.P) (fun _ _ h=>h) hT2 (.inl rfl) (kO yy) (ds:=[]) rfl ?_
 refine eQ.stop ?_
 have hq:QuitsD E.P 2 0 (G {aM b (A n e []) [] with mode:= .returning} [cM E.P]):=nO rfl rfl hk hf z0
 exact GX (E:=E) (c:={aM b (A n e []) [] with mode:= .returning}) (.inl rfl) hq CH ZU
end
theorem axC{S:Goroutine→St→Prop}{c:Code}{ro:Nat→Option Obj}(hf:P.funcs[f]?=some fn) (hb:fn.body=some c) (hn:fn.ntmps=n) (ff:AW P f=true) (hle:Nat.ble ca.length n=true)
 (h:TT (eQ P false S) (YU f .deferred) ([c].map .code++[]) [cM P] n [] ro (some ⟨.fin .normal,fN 0 ca,[],⟨[],[]⟩⟩)):eQ P false S (born P {target:= .fn (.func f) ⟨ca⟩,args:= #[]}) ⟨ro,[]⟩:=by
 have hT:=dX P false S
 refine jv (C:=CA P) (fun _ _ h=>h) hT (fr:={(default:Frame) with fn:=P.funcs.size,defers:=[{target:= .fn (.func f) ⟨ca⟩,args:= #[]}],mode:= .panicking [goexitEntry]}) (.inr ⟨_,rfl⟩) (kO ff) rfl ?_
 show eQ P false S (G (Frame.enter P f (#[]++⟨ca⟩) .deferred) [cM P]) ⟨ro,[]⟩
 have gY:Frame.enter P f (#[]++⟨ca⟩) .deferred=aM (YU f .deferred) (A n (fN 0 ca) []) [.code c]:=by
  rw[←kA ca n (Nat.le_of_ble_eq_true hle)]
  simp[Frame.enter,aM,hf,hb,hn,YU]
 rw[gY]
 exact h _ _ _ rfl fun x hx=>(by cases hx)
theorem aiZ{ι:Type}{E:dS ι}{x:JZ}(hx:x.OK E.P E.ty){bs:List Nat}(O8:Az E.P E.ty E.max (Frame.enter E.P x.wait #[.pointer (some ⟨E.Wg,0,none⟩)] .normal)=some bs)(ZU:∀b∈bs,b=E.Wg)
 {ro:Nat→Option Obj}{a:Oper}{t:TypeId}{fz:Nat×Nat}(hq:ro q=some (.cells ⟨[.chan (some E.Ch)]⟩ t fz))(ho0:x.q1[0]?=some a) (hg0:a.guard=none) (aOZ:a.op= .load U y) (ht:(ba E.P U).map (·.agg)=some false)
 (hy:evO x.n y (some ⟨.fin .normal,fe x.o0.dst (.tuple #[]) (fN 0 [.pointer (some ⟨E.Wg,0,none⟩),.pointer (some ⟨q,0,none⟩)]),[],⟨[],[]⟩⟩)=some (.pointer (some ⟨q,0,none⟩)))
 (hc:evO x.n x.cx (ZF a.dst (.chan (some E.Ch)) (some ⟨.fin .normal,fe x.o0.dst (.tuple #[]) (fN 0 [.pointer (some ⟨E.Wg,0,none⟩),.pointer (some ⟨q,0,none⟩)]),[],⟨[],[]⟩⟩))=some (.chan (some E.Ch))):
 E.closes ⟨ro,[]⟩ (born E.P {target:= .fn (.func x.f) ⟨[.pointer (some ⟨E.Wg,0,none⟩),.pointer (some ⟨q,0,none⟩)]⟩,args:= #[]}):=by
 obtain⟨fn,hf,z0,QL⟩:=hx.fn
 obtain⟨hbf,rC,qy⟩:=hx.bf
 have hk:x.b.kind≠ .early:=by rw[rC];simp
 have Pe:∀g g',g.status= .running→g'.status= .running→(∀w,stepG E.P false g w= .go g' w #[])→E.closes ⟨ro,[]⟩ g'→E.closes ⟨ro,[]⟩ g:=
  fun g g' hg _ bS ⟨q,hq⟩=>⟨q+1,hg,g',fun w _=>bS w,hq⟩
 refine Pe _ _ rfl rfl (G6 (kO hx.ff) _) ?_
 have Gj:(#[]++(⟨[.pointer (some ⟨E.Wg,0,none⟩),.pointer (some ⟨q,0,none⟩)]⟩:Array Value))= #[.pointer (some ⟨E.Wg,0,none⟩),.pointer (some ⟨q,0,none⟩)]:=by simp
 rw[Gj]
 refine Tx (iq:=[]) (cs:=[cM E.P]) Pe (hx.enter _ _) ?_
 refine GV (E:=E) ?_ O8 ZU
 have hT:=dX E.P false E.Iu
 show eQ E.P false E.Iu (G ((aM x.b (A x.n (fN 0 [.pointer (some ⟨E.Wg,0,none⟩),.pointer (some ⟨q,0,none⟩)]) []) (.inRegion x.q0 (0::[])::[.code x.rest])).finish (.tuple #[])) [cM E.P]) ⟨ro,[]⟩
 rw[fJ,hx.op0,a8]
 simp only[Option.bind_some]
 rw[jQ]
 refine gZ hT ?_
 obtain⟨id,adV⟩:=hx.rest
 refine dJ (l:=[x.rest]) (k:=[]) hT adV fun l2 qp=>?_
 have:=gq qp
 subst this
 rw[hx.size]
 have key:TT (eQ E.P false E.Iu) x.b (.inRegion x.q1 (0::[1])::[]) [cM E.P] x.n [] ro (some ⟨.fin .normal,fe x.o0.dst (.tuple #[]) (fN 0 [.pointer (some ⟨E.Wg,0,none⟩),.pointer (some ⟨q,0,none⟩)]),[],⟨[],[]⟩⟩):=by
  refine tLd hT (.chan (some E.Ch)) ho0 hg0 aOZ ht hk qy (q:=q) (t:=t) (fz:=fz) (fun _ _ _ _=> .inl hq) ?_ hy
  intro e w kn he bW
  refine eQ.stop ?_
  have hx2:ev x.n e x.cx= .chan (some E.Ch):=by
   rw[he] at hc
   exact aG hc
  obtain⟨ho,hg,ats,aB⟩:=hx.op
  have hq:(E.P.funcs[x.b.fn]?).any (·.norace)=false:=by rw[hbf,hf];simpa using QL
  refine⟨rfl,?_,G (x.b.at (Act.put (A x.n e []) x.oc.dst (.tuple #[])) (.inRegion x.q1 []::[])) [cM E.P],fun w s r tm hc=>?_,4,?_⟩
  ·simp[mayWake,G,aM,ho,aB]
  ·rw[BX qy]
   have:=stepG_close (P:=E.P) (main:=false) (b:=x.b) (a:=A x.n e []) (kk:=[]) (cs:=[cM E.P]) (rest:=[]) ho (dw x.oc _ hg) hk aB (by rw[eB];exact hx2) hc hq
   exact this
  ·rw[←BX qy]
   refine .ctl (g':=G (aM x.b (Act.put (A x.n e []) x.oc.dst (.tuple #[])) []) [cM E.P]) rfl (fun w=>by simp[G,stepG,stepG.exec,aM]) ?_
   refine .ctl (g':=G {aM x.b (Act.put (A x.n e []) x.oc.dst (.tuple #[])) [] with mode:= .returning} [cM E.P]) rfl (fun w=>by simp[G,stepG,stepG.exec,aM,qy]) ?_
   refine nO rfl ?_ rC (by show E.P.funcs[x.b.fn]?=_;rw[hbf];exact hf) z0
   show (Act.put (A x.n e []) x.oc.dst (.tuple #[])).defers=[]
   rw[a8];rfl
 exact key _ _ _ rfl fun x hx=>(by cases hx)
theorem jpF{V:Value}(lp:List Nat)(B:Cells)(Gd:AW X.P f=true)(hf:∀aE,Sub X.ro aE→Knows aE B→dL X.P f vs aE V)(hj:J X (KJ B V o))(h1:dG X.n (ag8 X.n) o=some (f,vs):=by kernel_rfl)(h3:dY lp o=some B:=by kernel_rfl):J X o:=by
 refine jGN h1 h3 (fun s p e ho hh hc=>?_) hj
 have hcb:xE X.P X.n p e=some (f,vs):=by unfold xE;rw[hc];simp only[Gd,cond_true]
 obtain⟨ff,x,xs,at_,fi,ca,ws,aB,hx,ry,rfl⟩:=qj hcb
 rcases p with ⟨dst,op,ty,pos,dc,g⟩
 dsimp only at aB;subst aB
 refine⟨rfl,fun s0 FO uC ops i sA rest hw s' hs todo Q hk=>?_⟩
 have hez:Ext ⟨X.ro,B⟩ s':=fun b ob hb=>hs _ _ (hb.elim (fun h=>FO _ _ (.inl h)) fun h=>uC (b,ob) h)
 exact OD X.hC sA hw (bn hx) ff (wJ ry) (Qo fi ws ca) hez (fun aE h1=>hf aE (EK h1) fun y hy=>h1 _ _ (.inr hy)) hk
def bgI(body:Code)(i:Nat):Option JS→Option (JS×Nat)
 |some ⟨.fin .normal,e,w,kn⟩=>match x5 w i with
  |some (.b b (.loop r))=>match r.state with
   | .ready=>some (⟨.code body [],e,Rv w i (.b b (.loop {r with state:= .busy})),kn⟩,b)
   |_=>none
  |_=>none
 |_=>none
theorem jbI{ro:Nat→Option Obj}(i:Nat)(h:J (X.re bl ro Φ) (Dx (bgI body i o)))(h1:Rt (bgI body i o)=some bl:=by kernel_rfl):J (X.rd bl ro Φ body) o:=by
 unfold bgI at h h1
 split at h<;>try (simp only[Dx] at h;exact h.elim)
 rename_i e w kn
 split at h<;>try (simp only[Dx] at h;exact h.elim)
 rename_i b r hn
 split at h<;>try (simp only[Dx] at h;exact h.elim)
 rename_i bS
 simp only[hn,bS,Rt,Option.some.injEq] at h1
 subst h1
 simp only[Dx] at h
 intro bW
 have hw:=h bW
 obtain⟨L,R,h2,h3⟩:=zc hn
 simp only[JP,Cx.rd,Hb,Cd]
 refine⟨L,r,R,h2,bS,?_⟩
 simp only[JP,h3] at hw
 exact hw
theorem tGe{b:Frame}{D:List Deferred}{ro:Nat→Option Obj}(h:TT T b yQ cs n D ro (geO o)):TT T b yQ cs n D ro o:=by
 rintro e w kn rfl bW
 have:=h e (.l []::w) kn (by simp only[geO]) bW
 rw[gv] at this
 exact this
def abu:Option JS→Option JS
 |some ⟨.fin .normal,e,w,kn⟩=>some ⟨.fin .ret,e,w,kn⟩
 |_=>none
theorem apu{c:Code}{ro:Nat→Option Obj}{L:Cells}(hf:P.funcs[f]?=some fn) (hb:fn.body=some c) (hn:fn.ntmps=n) (hle:Nat.ble args.length n=true)
 (h:TT T (YU f .normal) ([c].map .code++[]) cs n [] ro (some ⟨.fin .normal,fN 0 args,[.l L],⟨[],[]⟩⟩)):T (G (Frame.enter P f ⟨args⟩ .normal) cs) ⟨ro,L⟩:=by
 have gY:Frame.enter P f ⟨args⟩ .normal=aM (YU f .normal) (A n (fN 0 args) []) [.code c]:=by
  rw[←kA args n (Nat.le_of_ble_eq_true hle)]
  simp[Frame.enter,aM,hf,hb,hn,YU]
 rw[gY]
 exact h _ _ _ rfl fun x hx=>(by cases hx)
theorem aLr(hm:P.follows .mixedOrders=true)(hT:Closed P main T){cl:Frame}{Mt:List Frame}{ro:Nat→Option Obj}(v:Value)(hs ps:List Nat)(Y:Cells)(hf:P.funcs[f]?=some fn)
 (hk:T (G (cl.finish v) Mt) ⟨ro,Y⟩) (h1:sG (jM P n f hs (abu o))=some v:=by kernel_rfl) (h2:QX (jM P n f hs (abu o))=QW (jM P n f hs (abu o)):=by kernel_rfl) (h3:dY ps o=some Y:=by kernel_rfl):TT T (YU f .normal) (.code .ret::yQ) (cl::Mt) n [] ro o:=by
 rintro e w kn rfl bW
 simp only[abu] at h1 h2
 simp only[jM] at h1 h2
 cases hr:Bc P n e w kn.c hs (sI P f).results.toList with
 |none=>simp only[hr,sG] at h1;cases h1
 |some x=>
  rcases x with ⟨vs,q⟩
  simp only[hr,sG,Option.some.injEq,QX,QW] at h1 h2
  have rB:=td (X:=⟨P,fun m T'=>m=main∧T'=T,by rintro _ _ ⟨rfl,rfl⟩;exact hT,hm,f,none,n,[],ro,fun _ _ _=>True⟩) bW hr (lY h2)
  have hp:=bH h3
  have ui:sI P f=fn:=by simp only[sI,hf]
  have Hu:=N4 (s0:=⟨ro,Y⟩) (R:=fun en s'=>∃v,en= .returned v∧T (G (cl.finish v) Mt) s') (.inl rfl) rB h1 (dQ hp (Sub.refl _)) ⟨v,rfl,hk⟩
  rw[ui] at Hu
  refine hT.go rfl rfl (g':=G {aM (YU f .normal) (A n e []) (.code .ret::yQ) with mode:= .returning} (cl::Mt)) (fun w=>by simp[G,stepG,stepG.exec,aM,YU]) ?_
  refine r5 (C:=CA P) (fun _ _ h=>h) (T:=T) hT hf (fr:={aM (YU f .normal) (A n e []) (.code .ret::yQ) with mode:= .returning}) rfl rfl rfl rfl (R:=fun en s'=>∃v,en= .returned v∧T (G (cl.finish v) Mt) s') Hu.2 (fun v s' hv=>?_)
  obtain⟨v',hv',ht⟩:=hv
  cases hv'
  exact ht
attribute [irreducible] Vv bkO bgI Rz abu
def Hm(P:Program)(f:FuncId)(args:List Value)(ro:Nat→Option Obj)(own:Cells)(Φ:Value→Cells→Prop):Prop:=
 ∀fr,Fn (C0 P) P f ⟨args⟩ ⟨ro,own++fr⟩ (fun en s'=>∃v Y,en= .returned v∧(⟨ro,Y++fr⟩:St).le s'∧Φ v Y)
theorem Hm.mono{ro:Nat→Option Obj}{own:Cells}{Φ':Value→Cells→Prop}(h:Hm P f args ro own Φ)(hk:∀v X,Φ v X→Φ' v X):Hm P f args ro own Φ':=
 fun fr=>Fn.mono (h fr) fun _ _ ⟨v,X,h1,h2,h3⟩=>⟨v,X,h1,h2,hk v X h3⟩
abbrev RC(ro:Nat→Option Obj)(fr:Cells)(Φ:Value→Cells→Prop):Ending→St→Prop:=fun en s'=>∃v Y,en= .returned v∧(⟨ro,Y++fr⟩:St).le s'∧Φ v Y
def XC(P:Program)(hm:P.follows .mixedOrders=true)(f:FuncId)(ro:Nat→Option Obj)(R:Ending→St→Prop):Cx:=⟨P,C0 P,wP,hm,f,none,(sI P f).ntmps,[],ro,qR P (sI P f) R⟩
theorem qC{hm:P.follows .mixedOrders=true}{ro:Nat→Option Obj}:QR (XC P hm f ro R) R:=⟨rfl,rfl⟩
theorem JE{C:Class}(hC:∀main T,C main T→Closed P main T){c:Code}{s:St}(hf:P.funcs[f]?=some fn) (hb:fn.body=some c) (hl:Nat.ble args.length fn.ntmps=true) (h:Wp C f none c (qR P fn R) (A fn.ntmps (fN 0 args) []) s):Fn C P f ⟨args⟩ s R:=by
 refine PV hC hf hb ?_
 have he:=kA args fn.ntmps (Nat.le_of_ble_eq_true hl)
 rw[←he] at h
 exact h
theorem H2(hm:P.follows .mixedOrders=true){ro:Nat→Option Obj}{L:Cells}(own:List Sg)(kn:Cells)(hk:Knows ro kn)(h:∀fr,J (XC P hm f ro (RC ro fr Φ)) (kJ P f args (own++[.l fr]) kn))(hL:den own=L:=by rfl):Hm P f args ro L Φ:=by
 subst hL
 intro fr
 have h:=h fr
 unfold kJ at h
 split at h<;>try exact h.elim
 rename_i fn hf
 split at h<;>try exact h.elim
 rename_i c hc
 cases hl:Nat.ble args.length fn.ntmps with
 |false=>rw[hl] at h;exact h.elim
 |true=>
  rw[hl] at h
  have ui:sI P f=fn:=by simp only[sI,hf]
  have:=h hk
  simp only[JP,XC,KQ,ui] at this
  have hd:den (own++[.l fr])=den own++fr:=by rw[ld];rfl
  rw[hd] at this
  exact JE wP hf hc hl this
section
variable {X:Cx} {o:Option JS}
theorem M8{own:Cells}(ps:List Nat)(hC:∀main T,X.C main T→C0 X.P main T)(hf:Hm X.P f vs X.ro own Φ)(hj:∀v Y,Φ v Y→J X (mU ps v Y o))(h1:e9 X.n (xE X.P X.n) o=some (f,vs):=by kernel_rfl)(h2:dY ps o=some own:=by kernel_rfl):J X o:=by
 obtain⟨ops,i,todo,k,e,w,kn,p,rfl,ho,hw,hc⟩:=dz h1
 obtain⟨ff,x,xs,at_,fi,ca,ws,aB,hx,ry,rfl⟩:=qj hc
 intro bW
 rcases p with ⟨dst,op,ty,pos,dc,g⟩
 dsimp only at aB;subst aB
 have hp:=bH h2
 have ui:Fn X.C X.P f ⟨fi++ws++ca⟩ ⟨X.ro,den w⟩ (fun en s'=>∃v Y,en= .returned v∧(⟨X.ro,Y++den (dE ps 0 w)⟩:St).le s'∧Φ v Y):=fun main T hT c cs k1 k2=>
  (X.hC main T hT).mono _ ⟨X.ro,own++den (dE ps 0 w)⟩ _ (dQ (J:=[]) (by rw[List.append_nil];exact hp) (Sub.refl _)) (Fn.weaken hC (hf _) main T hT c cs k1 k2)
 refine tC (fi:=⟨fi⟩) (ca:=⟨ca⟩) (ws:=fi++ws++ca) X.hC ho hw hx ff ry (Qo fi ws ca) ui (fun v' s' hr=>?_) (fun ch s' hr=>by obtain⟨_,_,e,_⟩:=hr;cases e) (fun s' hr=>by obtain⟨_,_,e,_⟩:=hr;cases e)
 obtain⟨v,Y,hv,hle,pU⟩:=hr
 cases hv
 have:=hj _ Y pU
 rw[nS ho] at this
 have:=this bW
 simp only[JP,gv] at this
 exact this.more X.hC hle
theorem Sx{fr:Cells}(hq:QR X (RC oT fr Φ))(v:Value)(ps:List Nat)(Y:Cells)(fD:Sub oT X.ro)(hR:Φ v Y)(h1:sG (jM X.P X.n X.fn [] o)=some v:=by kernel_rfl)(h2:QX (jM X.P X.n X.fn [] o)=QW (jM X.P X.n X.fn [] o):=by kernel_rfl)(h3:dY ps o=some (Y++fr):=by kernel_rfl)(h4:BV o=true:=by kernel_rfl):J X o:=
 aJ hq v [] ps (Y++fr) fD ⟨v,Y,rfl,St.le_refl _,hR⟩ h1 h2 h3 h4
end
noncomputable def EU(P:Program)(g:FuncId):Func:=match HU P g with
 |some (gn,_,_)=>gn
 |none=>default
noncomputable def HT(P:Program)(g:FuncId):Tmp:=match HU P g with
 |some (_,t,_)=>t
 |none=>0
noncomputable def recC(P:Program)(g:FuncId):Code:=match HU P g with
 |some (_,_,c)=>c
 |none=> .skip
def apX(P:Program)(g:FuncId):Bool:=(HU P g).isSome
theorem ajd{g:FuncId}(h:apX P g=true):HU P g=some (EU P g,HT P g,recC P g):=by
 unfold apX at h
 unfold EU HT recC
 cases hr:HU P g with
 |none=>rw[hr] at h;cases h
 |some x=>rcases x with ⟨a,b,c⟩;rfl
noncomputable def XD(P:Program)(hm:P.follows .mixedOrders=true)(f:FuncId)(ro:Nat→Option Obj)(R:Ending→St→Prop)(g:FuncId):Cx:=⟨P,CP P,eW,hm,f,none,(sI P f).ntmps,[],ro,TQ (CP P) P (sI P f) g (EU P g) (HT P g) (recC P g) R⟩
theorem aNr(hm:P.follows .mixedOrders=true){ro:Nat→Option Obj}{L:Cells}(g:FuncId)(own:List Sg)(kn:Cells)(hk:Knows ro kn)(h:J (XD P hm f ro (RX ro Φ) g) (kJ P f args own kn))(hL:den own=L:=by rfl)(adW:apX P g=true:=by kernel_rfl):eI P f args ro L Φ:=by
 subst hL
 unfold kJ at h
 split at h<;>try exact h.elim
 rename_i fn hf
 split at h<;>try exact h.elim
 rename_i c hc
 cases hl:Nat.ble args.length fn.ntmps with
 |false=>rw[hl] at h;exact h.elim
 |true=>
  rw[hl] at h
  have ui:sI P f=fn:=by simp only[sI,hf]
  have:=h hk
  simp only[JP,XD,KQ,ui] at this
  exact GC eW hf hc rfl hl (ajd adW) this
def dfV(n:Nat)(p:Oper)(e:Env):Option (FuncId×List Value):=match p.op with
 | .defer ⟨.value x,⟨[]⟩,⟨[]⟩⟩=>match bu n e x with
  |some (.func (.func f) ⟨[]⟩ ⟨ca⟩)=>some (f,ca)
  |_=>none
 |_=>none
theorem auE{p:Oper}{e:Env}(h:dfV n p e=some (f,ca)):∃x,p.op= .defer ⟨.value x,#[],#[]⟩∧bu n e x=some (.func (.func f) ⟨[]⟩ ⟨ca⟩):=by
 unfold dfV at h
 split at h<;>try (cases h;done)
 rename_i x aB
 split at h<;>try (cases h;done)
 rename_i hx
 cases h
 exact⟨x,aB,hx⟩
def skO:Option JS→Option JS
 |some ⟨.ops ops (i::todo) k,e,w,kn⟩=>match ops[i]? with
  |some p=>some ⟨.ops ops todo k,upd p.dst undef e,w,kn⟩
  |none=>none
 |_=>none
def O5(t:Tmp)(rest:Code)(ca:List Value):Option JS→Option JS
 |some ⟨.fin _,_,w,kn⟩=>some ⟨.code rest [],upd (some t) .nilIface (fN 0 ca),w,⟨kn.c,[]⟩⟩
 |_=>none
def rwS:Option JS→Option (List Sg)
 |some s=>some s.rw
 |none=>none
section
variable {X:Cx} {o:Option JS}
theorem jdf(hj:J (X.wd ({target:= .fn (.func f) ⟨ca⟩,args:= #[]}::X.D)) (skO o))(h1:e9 X.n (dfV X.n) o=some (f,ca):=by kernel_rfl)(hr:X.aC=none:=by rfl):J X o:=by
 obtain⟨ops,i,todo,k,e,w,kn,p,rfl,ho,hw,hc⟩:=dz h1
 obtain⟨x,aB,hx⟩:=auE hc
 intro bW
 rcases p with ⟨dst,op,ty,pos,dc,g⟩
 dsimp only at aB;subst aB
 simp only[skO,ho] at hj
 have:=hj bW
 simp only[JP,Qw] at this
 show ab X.C X.fn X.aC ops (i::todo) (KQ X k) (A X.n e X.D) ⟨X.ro,den w⟩
 rw[hr]
 have h2:(X.wd ({target:= .fn (.func f) ⟨ca⟩,args:= #[]}::X.D)).aC=none:=hr
 rw[h2] at this
 exact ajF X.hC ho hw hx this
structure QD(X:Cx)(g:FuncId)(R:Ending→St→Prop)(ca:List Value):Prop where
 q:X.Q=TQ X.C X.P (sI X.P X.fn) g (EU X.P g) (HT X.P g) (recC X.P g) R
 d:X.D=[{target:= .fn (.func g) ⟨ca⟩,args:= #[]}]
theorem jrD{g:FuncId}(hq:QD X g R ca)(v:Value)(hs ps:List Nat)(Y:Cells)(k:Nat)(fD:Sub oT X.ro)(hR:R (.returned v) ⟨oT,Y⟩)(hl:Nat.ble ca.length (EU X.P g).ntmps=true:=by kernel_rfl)
 (h1:sG (jM X.P X.n X.fn hs o)=some v:=by kernel_rfl)(h2:QX (jM X.P X.n X.fn hs o)=QW (jM X.P X.n X.fn hs o):=by kernel_rfl)(h3:dY ps o=some Y:=by kernel_rfl)(h4:BV o=true:=by kernel_rfl)
 (h5:BV (res (Zw X.P (EU X.P g).ntmps k [] (O5 (HT X.P g) (recC X.P g) ca o)))=true:=by kernel_rfl)(h6:rwS (res (Zw X.P (EU X.P g).ntmps k [] (O5 (HT X.P g) (recC X.P g) ca o)))=rwS o:=by kernel_rfl)
 (h7:lhs (Zw X.P (EU X.P g).ntmps k [] (O5 (HT X.P g) (recC X.P g) ca o))=rhs (Zw X.P (EU X.P g).ntmps k [] (O5 (HT X.P g) (recC X.P g) ca o)):=by kernel_rfl):J X o:=by
 obtain⟨ex,e,w,kn,rfl,hex⟩:=sL h4
 simp only[jM] at h1 h2
 cases hr:Bc X.P X.n e w kn.c hs (sI X.P X.fn).results.toList with
 |none=>simp only[hr,sG] at h1;cases h1
 |some x=>
  rcases x with ⟨vs,q⟩
  simp only[hr,sG,Option.some.injEq,QX,QW] at h1 h2
  intro bW
  have rB:=td bW hr (lY h2)
  have hp:=bH h3
  have Hu:=N4 (s0:=⟨oT,Y⟩) (R:=R) hex rB h1 (dQ hp fD) hR
  have ht:bN X.P (results (sI X.P X.fn) (A X.n e X.D).tmps) ⟨X.ro,den w⟩ (fun v s'=>∃s0,s0.le s'∧R (.returned v) s0) (fun _ _=>False):=by
   rcases hex with rfl|rfl<;>exact Hu.2
  show X.Q ex (A X.n e X.D) ⟨X.ro,den w⟩
  rw[hq.q]
  refine⟨hex.symm,ca,hl,hq.d,?_⟩
  let X2:Cx:=⟨X.P,X.C,X.hC,X.hm,g,none,(EU X.P g).ntmps,[],X.ro,fun e2 a2 s2=>(e2= .normal∨e2= .ret)∧a2.defers=[]∧bN X.P (results (sI X.P X.fn) (A X.n e X.D).tmps) s2 (fun v s3=>∃s0,s0.le s3∧R (.returned v) s0) (fun _ _=>False)⟩
  have hj:J X2 (O5 (HT X.P g) (recC X.P g) ca (some ⟨.fin ex,e,w,kn⟩)):=by
   refine jd k [] ?_ h7
   have h5':=h5
   have h6':=h6
   obtain⟨ex2,e2,w2,kn2,tI,aP1⟩:=sL h5'
   show J X2 (res (Zw X.P (EU X.P g).ntmps k [] (O5 (HT X.P g) (recC X.P g) ca (some ⟨.fin ex,e,w,kn⟩))))
   rw[tI] at h6' ⊢
   simp only[rwS,Option.some.injEq] at h6'
   subst h6'
   exact fun _=>⟨aP1.symm,rfl,ht⟩
  simp only[O5] at hj
  exact hj bW
end
attribute [irreducible] skO O5 rwS dfV
def uh(r ck:Nat)(seen:List Nat):Obj:= .mapIter (some r) ck ⟨seen⟩ ck
def cJ(es:Array MapEntry)(seen:List Nat):List MapEntry:=es.toList.filter fun e=> !seen.contains e.born
theorem BD(es:Array MapEntry):cJ es []=es.toList:=by simp[cJ]
theorem Ye{es:Array MapEntry}{b:Nat}{e:MapEntry}:e∈cJ es (seen++[b])↔e∈cJ es seen∧e.born≠b:=by
 simp only[cJ,List.mem_filter,Bool.not_eq_true',List.contains_eq_mem,List.mem_append,List.mem_singleton,decide_eq_false_iff_not,not_or,and_assoc]
theorem FC{es:Array MapEntry}{e:MapEntry}(h:e∈cJ es seen):(cJ es (seen++[e.born])).length <(cJ es seen).length:=by
 have:cJ es (seen++[e.born])=(cJ es seen).filter fun x=> !decide (x.born=e.born):=by
  simp only[cJ,List.filter_filter]
  refine List.filter_congr fun x _=>?_
  simp only[List.contains_eq_mem,List.mem_append,List.mem_singleton,Bool.decide_or,Bool.not_or]
  rw[Bool.and_comm]
 rw[this]
 exact List.length_filter_lt_length_iff_exists.2 ⟨e,h,by simp⟩
def mrV(P:Program)(n:Nat)(p:Oper)(e:Env):Option Value:=match p.op with
 | .range T x=>match ba P T with
  |some ⟨.map _ _,_,_,_⟩=>bu n e x
  |_=>none
 |_=>none
def nmV(n:Nat)(p:Oper)(e:Env):Option Value:=match p.op with
 | .next x false=>bu n e x
 |_=>none
def enV(n:Nat)(p:Oper)(e:Env):Option Value:=match p.op with
 | .entry x=>bu n e x
 |_=>none
theorem IE{β:Type}{s:St}{Q:β→St→Prop}{E:Halt→St→Prop}{k:Nat→Sem β}(hn:0 <n)(h:∀j,j <n→bN P (k j) s Q E):bN P (choose (.mapNext n) >>= k) s Q E:=by
 show (if (Question.mapNext n).forced=true then _ else _)
 split
 ·exact h 0 hn
 ·exact fun q=>h _ (Nat.mod_lt _ hn)
section
variable {X:Cx} {o:Option JS}
theorem jmR{es:Array MapEntry}(hm:X.ro r=some (.map es ck))(hj:∀b,J X (mU [] (.pointer (some ⟨b,0,none⟩)) [(b,uh r ck [])] o))(hv:e9 X.n (mrV X.P X.n) o=some (.map (some r)):=by kernel_rfl)(hB:dY [] o=some []:=by kernel_rfl):J X o:=by
 refine jS (Φ:=fun v L'=>∃b,v= .pointer (some ⟨b,0,none⟩)∧L'=[(b,uh r ck [])]) [] [] hv hB (fun p e hf=>?_) (fun v L' pU=>?_)
 ·unfold mrV at hf
  split at hf<;>try (cases hf;done)
  rename_i T x aB
  split at hf<;>try (cases hf;done)
  rename_i dR
  obtain⟨bE,tf⟩:=au dR
  refine⟨by rw[aB];simp,fun R Q E hQ=>?_⟩
  simp only[execOp,aB,Instr.range,aa,bh tf,aG hf]
  refine cE (.inl hm) rfl rfl ?_
  simp only[aa,af,nW]
  intro b hb
  exact hQ _ _ ⟨b,rfl,rfl⟩
 ·obtain⟨b,rfl,rfl⟩:=pU
  exact hj b
theorem jmN{kv:κ→Value}{F:List (κ×Value)}{es:Array MapEntry}(i:Nat)(hm:X.ro r=some (.map es ck))(hE:sR kv F es ck)
 (hT:∀k v e,(k,v)∈F→e∈cJ es seen→e.key=kv k→e.val=v→J X (mU [i] (.tuple ⟨[.bool true,kv k,v]⟩) [(it,uh r ck (seen++[e.born]))] o))
 (hF:cJ es seen=[]→J X (mU [i] (.tuple ⟨[.bool false]⟩) [(it,uh r ck seen)] o))
 (hv:e9 X.n (nmV X.n) o=some (.pointer (some ⟨it,0,none⟩)):=by kernel_rfl)(hB:dY [i] o=some [(it,uh r ck seen)]:=by kernel_rfl):J X o:=by
 refine jS (Φ:=fun v L'=>(∃e,e∈cJ es seen∧v= .tuple ⟨[.bool true,e.key,e.val]⟩∧L'=[(it,uh r ck (seen++[e.born]))])∨(cJ es seen=[]∧v= .tuple ⟨[.bool false]⟩∧L'=[(it,uh r ck seen)])) [i] _ hv hB (fun p e hf=>?_) (fun v L' pU=>?_)
 ·unfold nmV at hf
  split at hf<;>try (cases hf;done)
  rename_i x aB
  refine⟨by rw[aB];simp,fun R Q E hQ=>?_⟩
  simp only[execOp,aB,Instr.next,aa,aG hf]
  have hs:(⟨X.ro,[(it,uh r ck seen)]++R⟩:St).rw=[]++(it,uh r ck seen)::R:=rfl
  refine cE (o:=uh r ck seen) (.inr (by rw[hs];exact fy)) rfl rfl ?_
  simp only[uh,aa]
  refine cE (.inl hm) rfl rfl ?_
  simp only[aa]
  have hb:=hE.2.2
  have bS:¬((!(⟨seen⟩:Array Nat).isEmpty&& !es.isEmpty&&es.all (·.born≥ck))=true):=by
   intro h
   simp only[Bool.and_eq_true,Bool.not_eq_true',Array.all_eq_true,decide_eq_true_eq] at h
   obtain⟨⟨_,h1⟩,h2⟩:=h
   have uA:0 <es.size:=by
    rcases Nat.eq_zero_or_pos es.size with h0|h0
    ·simp[Array.isEmpty,h0] at h1
    ·exact h0
   have:=h2 0 uA
   have:=hb es[0] (by simp)
   omega
  rw[if_neg bS]
  have xq:(es.filter fun e=> !(⟨seen⟩:Array Nat).contains e.born)=⟨cJ es seen⟩:=by
   rcases es with ⟨l⟩
   simp[cJ]
  have hold:((⟨cJ es seen⟩:Array MapEntry).filter fun e=>decide (e.born <ck))=⟨cJ es seen⟩:=by
   have:(cJ es seen).filter (fun e=>decide (e.born <ck))=cJ es seen:=List.filter_eq_self.2 fun e he=>decide_eq_true (hb e (List.mem_filter.1 he).1)
   simp[this]
  have sB:((⟨cJ es seen⟩:Array MapEntry).filter fun e=>decide (e.born≥ck))=⟨[]⟩:=by
   have:(cJ es seen).filter (fun e=>decide (e.born≥ck))=[]:=List.filter_eq_nil_iff.2 fun e he=>by
    have:=hb e (List.mem_filter.1 he).1
    simp only[decide_eq_true_eq];omega
   simp[this]
  simp only[xq,hold,sB]
  cases hl:cJ es seen with
  |nil=>
   simp only[List.isEmpty_toArray,List.isEmpty_nil,if_true]
   refine IE (by simp) fun j hj=>?_
   have hc:(#[(none:Option MapEntry)]++((⟨[]⟩:Array MapEntry)++⟨[]⟩).map some)[j]?=some none:=by
    simp at hj
    subst hj;simp
   show bN X.P ((match (#[(none:Option MapEntry)]++((⟨[]⟩:Array MapEntry)++⟨[]⟩).map some)[j]? with|some (some e)=>_|some none=>_|none=>_) >>= fun v=>pure (Next.value v)) _ _ _
   rw[hc]
   exact hQ _ _ (.inr ⟨hl,rfl,rfl⟩)
  |cons e0 l=>
   have hem:(⟨e0::l⟩:Array MapEntry).isEmpty=false:=by simp
   simp only[hem,Bool.false_eq_true,if_false]
   have Gj:(#[]++((⟨e0::l⟩:Array MapEntry)++⟨[]⟩).map some:Array (Option MapEntry))=⟨(e0::l).map some⟩:=by simp
   rw[Gj]
   refine IE (by simp) fun k cK=>?_
   have cK:k <(e0::l).length:=by simpa using cK
   have hk:(⟨(e0::l).map some⟩:Array (Option MapEntry))[k]?=some (some (e0::l)[k]):=by
    rw[List.getElem?_toArray,List.getElem?_map,List.getElem?_eq_getElem cK];rfl
   show bN X.P ((match (⟨(e0::l).map some⟩:Array (Option MapEntry))[k]? with|some (some e)=>_|some none=>_|none=>_) >>= fun v=>pure (Next.value v)) _ _ _
   rw[hk]
   simp only[aa]
   have mT:(⟨X.ro,[(it,Obj.mapIter (some r) ck ⟨seen⟩ ck)]++R⟩:St).rw=[]++(it,Obj.mapIter (some r) ck ⟨seen⟩ ck)::R:=rfl
   refine eC (o:= .mapIter (some r) ck ((⟨seen⟩:Array Nat).push (e0::l)[k].born) ck) rfl mT rfl ?_
   have hp:(⟨seen⟩:Array Nat).push (e0::l)[k].born=⟨seen++[(e0::l)[k].born]⟩:=by simp
   rw[hp]
   have:=hQ (.tuple ⟨[.bool true,(e0::l)[k].key,(e0::l)[k].val]⟩) [(it,uh r ck (seen++[(e0::l)[k].born]))] (.inl ⟨_,by rw[hl];exact List.getElem_mem cK,rfl,rfl⟩)
   exact this
 ·rcases pU with ⟨e,he,rfl,rfl⟩| ⟨h1,rfl,rfl⟩
  ·have:(e.key,e.val)∈F.map (fun x=>(kv x.1,x.2)):=by
    rw[←hE.1];exact List.mem_map_of_mem (f:=fun e:MapEntry=>(e.key,e.val)) (List.mem_filter.1 he).1
   obtain⟨⟨k,v⟩,h1,h2⟩:=List.mem_map.1 this
   simp only[Prod.mk.injEq] at h2
   have:=hT k v e h1 he h2.1.symm h2.2.symm
   rwa[h2.1,h2.2] at this
  ·exact hF h1
theorem jmE{kv:κ→Value}{F:List (κ×Value)}{es:Array MapEntry}{e:MapEntry}{k:κ}{v:Value}(i:Nat)(hm:X.ro r=some (.map es ck))(hE:sR kv F es ck)(he:e∈cJ es seen)(hk:e.key=kv k)(hvl:e.val=v)
 (hj:J X (mU [i] (.tuple ⟨[kv k,v]⟩) [(it,uh r ck (seen++[e.born]))] o))
 (hv:e9 X.n (enV X.n) o=some (.pointer (some ⟨it,0,none⟩)):=by kernel_rfl)(hB:dY [i] o=some [(it,uh r ck (seen++[e.born]))]:=by kernel_rfl):J X o:=by
 refine jS (Φ:=fun w L'=>w= .tuple ⟨[kv k,v]⟩∧L'=[(it,uh r ck (seen++[e.born]))]) [i] _ hv hB (fun p en hf=>?_) (fun w L' pU=>?_)
 ·unfold enV at hf
  split at hf<;>try (cases hf;done)
  rename_i x aB
  refine⟨by rw[aB];simp,fun R Q E hQ=>?_⟩
  simp only[execOp,aB,Instr.entry,aa,aG hf]
  have hs:(⟨X.ro,[(it,uh r ck (seen++[e.born]))]++R⟩:St).rw=[]++(it,uh r ck (seen++[e.born]))::R:=rfl
  refine cE (o:=uh r ck (seen++[e.born])) (.inr (by rw[hs];exact fy)) rfl rfl ?_
  have rC:(⟨seen++[e.born]⟩:Array Nat).back?=some e.born:=by simp[Array.back?]
  simp only[uh,rC,aa]
  refine cE (.inl hm) rfl rfl ?_
  have hfe:es.find? (fun x=>x.born==e.born)=some e:=by
   rcases es with ⟨l⟩
   have ZQ:e∈l:=(List.mem_filter.1 he).1
   have lX:(l.map (·.born)).Nodup:=hE.2.1
   simp only[List.find?_toArray]
   clear hm hE he hj hv hB hs hQ
   induction l with
   |nil=>cases ZQ
   |cons y l ih=>
    simp only[List.map_cons,List.nodup_cons,List.mem_map,not_exists,not_and] at lX
    rcases List.mem_cons.1 ZQ with rfl|h
    ·simp
    ·have:y.born≠e.born:=fun h2=>lX.1 e h h2.symm
     rw[List.find?_cons_of_neg (by simpa using this)]
     exact ih h lX.2
  simp only[bne_self_eq_false,Bool.false_eq_true,if_false,hfe,af,aa]
  exact hQ _ _ ⟨by rw[hk,hvl],rfl⟩
 ·obtain⟨rfl,rfl⟩:=pU
  exact hj
end
theorem Sr{kv:κ→Value}{F:List (κ×Value)}{es:Array MapEntry}(hE:sR kv F es ck){e x:MapEntry}(he:e∈cJ es seen)(hx:x∈cJ es seen):x=e∨x∈cJ es (seen++[e.born]):=by
 by_cases h:x.born=e.born
 ·left
  have lX:=hE.2.1
  have h1:=(List.mem_filter.1 he).1
  have h2:=(List.mem_filter.1 hx).1
  generalize es.toList=l at lX h1 h2
  induction l with
  |nil=>cases h1
  |cons y l ih=>
   simp only[List.map_cons,List.nodup_cons,List.mem_map,not_exists,not_and] at lX
   rcases List.mem_cons.1 h1 with k1|k1
   ·rcases List.mem_cons.1 h2 with k2|k2
    ·rw[k1,k2]
    ·exact absurd (by rw[h,k1]) (lX.1 x k2)
   ·rcases List.mem_cons.1 h2 with k2|k2
    ·exact absurd (by rw[←h,k2]) (lX.1 e k1)
    ·exact ih lX.2 k1 k2
 ·exact .inr (Ye.2 ⟨hx,h⟩)
def msV(P:Program)(n:Nat)(p:Oper)(e:Env):Option (TypeId×List Value):=match p.op with
 | .makeSlice T x y=>match ba P T with
  |some ⟨.slice E,_,_,_⟩=>match ba P E with
   |some te=>match bu n e x,bu n e y with
    |some (.int .i64 a),some (.int .i64 b)=>bif (decide (a=2)&&decide (b=2))&&(Nat.beq te.size 1&&Nat.ble (sY P E) 65536) then some (E,te.zero) else none
    |_,_=>none
   |none=>none
  |_=>none
 |_=>none
theorem jmS{E:TypeId}{z:Value}(hj:∀b,J X (mU [] (.slice (some ⟨b,0,none⟩) 2 2) [(b,.cells ⟨[z,z]⟩ E (0,0))] o))(hv:e9 X.n (msV X.P X.n) o=some (E,[z]):=by kernel_rfl)(hB:dY [] o=some []:=by kernel_rfl):J X o:=by
 refine jS (Φ:=fun v L'=>∃b,v= .slice (some ⟨b,0,none⟩) 2 2∧L'=[(b,.cells ⟨[z,z]⟩ E (0,0))]) [] [] hv hB (fun p e hf=>?_) (fun v L' pU=>?_)
 ·unfold msV at hf
  split at hf<;>try (cases hf;done)
  rename_i T x y aB
  split at hf<;>try (cases hf;done)
  rename_i E' _ _ _ dR
  split at hf<;>try (cases hf;done)
  rename_i te tH
  split at hf<;>try (cases hf;done)
  rename_i a b hx hy
  cases hc:((decide (a=2)&&decide (b=2))&&(Nat.beq te.size 1&&Nat.ble (sY X.P E') 65536)) with
  |false=>rw[hc] at hf;cases hf
  |true=>
   rw[hc] at hf
   simp only[cond_true,Option.some.injEq,Prod.mk.injEq] at hf
   obtain⟨rfl,hz⟩:=hf
   simp only[Bool.and_eq_true,decide_eq_true_eq,Nat.beq_eq,Nat.ble_eq] at hc
   obtain⟨⟨rfl,rfl⟩,uA,hby⟩:=hc
   obtain⟨Z0,tf⟩:=au dR
   obtain⟨bE,jL⟩:=au tH
   obtain⟨i,hi,hi1,S1,hi3⟩:=jL.info
   have ak3:bE≤65536:=by simp only[sY,hi] at hby;omega
   have atC:¬((bE:Int)*2>2^48):=by omega
   have w2:IntKind.i64.wrap 2=2:=j8 2 (by omega)
   have iG:(Nl [z] te.agg).cells=⟨[z]⟩:=by rw[←hz];exact eo jL
   have Gj:((Array.range ((2:Int).toNat*1)).map fun x=>(⟨[z]⟩:Array Value)[x % (⟨[z]⟩:Array Value).size]!)=⟨[z,z]⟩:=by apply Array.ext';simp[Nat.mod_one,List.range,List.range.loop]
   refine⟨by rw[aB];simp,fun R Q E hQ=>?_⟩
   simp only[execOp,aB,Instr.makeSlice,aG hx,aG hy,asInt,asIntOf,aa,bh tf,af,ni hi,S1,w2,atC,show ¬((2:Int) <0) by omega,show ¬((2:Int)>2) by omega,decide_false,Bool.or_self,Bool.false_eq_true,if_false]
   refine rV ?_
   simp only[aa,cm jL,uA,show ¬((2:Int).toNat*1=0) by decide,if_false,jT jL,af,hz,iG,Gj,jb]
   intro b hb
   exact hQ _ _ ⟨b,rfl,rfl⟩
 ·obtain⟨b,rfl,rfl⟩:=pU
  exact hj b
def alU(body:Code):Option JS→Option (JS×Nat)
 |some ⟨.fin .normal,e,.b c oc:: .b b (.loop r)::w,kn⟩=>match r.state with
  | .ready=>some (⟨.code body [],e,.b c oc:: .b b (.loop {r with state:= .busy})::w,kn⟩,b)
  |_=>none
 |_=>none
theorem azG{ro:Nat→Option Obj}(h:J (X.re bl ro Φ) (Dx (alU body o)))(h1:Rt (alU body o)=some bl:=by kernel_rfl):J (X.rd bl ro Φ body) o:=by
 unfold alU at h h1
 split at h<;>try (unfold Dx at h;exact h.elim)
 rename_i e c oc b r w kn
 split at h<;>try (unfold Dx at h;exact h.elim)
 rename_i bS
 unfold Rt at h1
 unfold Dx at h
 simp only[bS,Option.some.injEq] at h1
 subst h1
 intro bW
 have hw:=h bW
 simp only[JP,Cx.rd,Hb,Cd]
 refine⟨[(c,oc)],r,den w,by rw[iC,iC];rfl,bS,?_⟩
 simp only[JP,iC] at hw
 exact hw
theorem azD{hm:P.follows .mixedOrders=true}{ro:Nat→Option Obj}(own:List Sg)(kn:Cells)(hk:Knows ro kn)(h:J (XM P hm f ro R) (kJ P f args own kn)):Fn (CP P) P f ⟨args⟩ ⟨ro,den own⟩ R:=by
 unfold kJ at h
 split at h<;>try exact h.elim
 rename_i fn hf
 split at h<;>try exact h.elim
 rename_i c hc
 cases hl:Nat.ble args.length fn.ntmps with
 |false=>rw[hl] at h;exact h.elim
 |true=>
  rw[hl] at h
  have ui:sI P f=fn:=by simp only[sI,hf]
  have:=h hk
  simp only[JP,XM,KQ,ui] at this
  refine JF eW hf hc ?_
  have he:=kA args fn.ntmps (Nat.le_of_ble_eq_true hl)
  rw[←he] at this
  exact this
section
variable {X:Cx} {o:Option JS}
theorem aNs{tR:List Nat}(hq:QM X R tR)(v:Value)(pm hs ps:List Nat)(Y:Cells)(fD:Sub oT X.ro)(hR:R (.returned v) ⟨oT,Y⟩)(h0:dY pm o=some (mk tR):=by kernel_rfl)(h1:sG (jM X.P X.n X.fn hs (B2 pm o))=some v:=by kernel_rfl)(h2:QX (jM X.P X.n X.fn hs (B2 pm o))=QW (jM X.P X.n X.fn hs (B2 pm o)):=by kernel_rfl)(h3:dY ps (B2 pm o)=some Y:=by kernel_rfl)(h4:BV o=true:=by kernel_rfl):J X o:=by
 obtain⟨ex,e,w,kn,rfl,hex⟩:=sL h4
 simp only[B2,jM] at h1 h2 h3
 cases hr:Bc X.P X.n e (dE pm 0 w) kn.c hs (sI X.P X.fn).results.toList with
 |none=>simp only[hr,sG] at h1;cases h1
 |some x=>
  rcases x with ⟨vs,q⟩
  simp only[hr,sG,Option.some.injEq,QX,QW] at h1 h2
  intro bW
  have rB:=td bW hr (lY h2)
  have hp:=bH h3
  have Hu:=N4 (s0:=⟨oT,Y⟩) (R:=R) hex rB h1 (dQ hp fD) hR
  have ht:bN X.P (results (sI X.P X.fn) (A X.n e X.D).tmps) ⟨X.ro,den (dE pm 0 w)⟩ (fun v s'=>∃s0,s0.le s'∧R (.returned v) s0) (fun _ _=>False):=by
   rcases hex with rfl|rfl<;>exact Hu.2
  show X.Q ex (A X.n e X.D) ⟨X.ro,den w⟩
  rw[hq.q]
  have hm:∃tR rest,(A X.n e X.D).defers=tR.map ez∧(den w).Perm (mk tR++rest)∧bN X.P (results (sI X.P X.fn) (A X.n e X.D).tmps) ⟨X.ro,rest⟩ (fun v s'=>∃s0,s0.le s'∧R (.returned v) s0) (fun _ _=>False):=⟨tR,_,hq.d,bH h0,ht⟩
  rcases hex with rfl|rfl<;>exact hm
end
attribute [irreducible] mrV nmV enV uh msV alU
end Go.L

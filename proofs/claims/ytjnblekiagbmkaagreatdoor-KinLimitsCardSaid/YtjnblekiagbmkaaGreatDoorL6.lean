/- Part 6 of the proof: a program logic, contracts, a theorem on goroutines. -/
import Derived.Test.YtjnblekiagbmkaaGreatDoorL5
import Derived.Conc.Own2
import Derived.Conc.TokenWalk
set_option maxRecDepth 100000
set_option linter.all false
namespace Go.L
open Go Go.Conc
open Go.ConcR (KK wgBlock WgAt stA smA rd wr)
variable {s cs iB:List Frame} {P:Program} {f fr:Frame} {rest l:List Code} {main:Bool} {T:Goroutine→St→Prop} {vs ws:List Value} {x:Operand} {α:Type} {xs:Array Operand} {ca args fi:Array Value} {todo:List Nat} {W id o sz i:Nat} {b:ByteArray} {ats at_:Array TypeId} {ty:TypeId} {st sm:Int}
section
variable {P:Program} {main:Bool} {ty:TypeId} {W:Nat} {c:Jz} {fr:Frame} {iB cs:List Frame} {w:World} {o:OV} {ws:List (Nat×Value)} {es:List Event} {bs:List Nat}
theorem toArr(P:Program)(fn:FuncId)(es:List Event):(uA P fn es).toArray=seen P fn es.toArray:=by simp[uA]
theorem abl(hm:fr.mode= .run)(h:abm P ty c fr iB=some (o,ws,es,bs))(hb:∀b∈bs,b=W)(hc:(c=ju∧bs=[])∨mh ty W w c)(cs:List Frame)(main:Bool):o.is P main (G fr (iB++cs)) w (Kc W w ws) es.toArray cs:=by
 rcases fr with ⟨fn,tmps,todo,defers,mode,kind,ro⟩
 simp only at hm;subst hm
 unfold abm at h
 simp only at h
 split at h<;>try (cases h;done)
 rename_i ops i rest k
 cases hw:(((ops[i]?).map (Region.wanted · (yielded ops tmps))).getD false&& !(U8 kind)) with
 |false=>rw[hw] at h;cases h
 |true=>
 rw[hw] at h;simp only[cond_true] at h
 simp only[Bool.and_eq_true] at hw
 have hk:(kind==CallKind.early)=false:=by cases kind<;>first|rfl|cases hw.2
 split at h<;>try (cases h;done)
 rename_i op aw
 have gN:∀cs,stepG P main (G ⟨fn,tmps,.inRegion ops (i::rest)::k,defers,.run,kind,none⟩ cs) w=stepG.apply P true ⟨fn,tmps,.inRegion ops (i::rest)::k,defers,.run,kind,none⟩ cs none (execOp (Frame.eval ⟨fn,tmps,.inRegion ops (i::rest)::k,defers,.run,kind,none⟩) op) w:=by
  intro cs
  simp only[G,stepG,stepG.exec,hw.1,if_true,stepG.oper,aw]
 split at h<;>try (cases h;done)
 all_goals
  rename_i heq hv
  simp only[Option.some.injEq,Prod.mk.injEq] at h
  obtain⟨rfl,rfl,rfl,rfl⟩:=h
  have bN:=JN _ (w:=w) #[] hv hb hc
  simp only[RH.to,Array.empty_append] at bN
  simp only[OV.is]
  rw[gN]
  simp only[stepG.apply,bN,if_true,hk,Bool.false_eq_true,if_false,GStep.after,Array.append_empty,G,toArr]
 all_goals first|rfl| (simp[seen_none];done)
theorem ah6(hm:fr.mode= .returning)(h:aot P ty c fr iB=some (o,ws,es,bs))(hb:∀b∈bs,b=W)(hc:(c=ju∧bs=[])∨mh ty W w c)(cs:List Frame)(main:Bool):o.is P main (G fr (iB++cs)) w (Kc W w ws) es.toArray cs:=by
 rcases fr with ⟨fn,tmps,todo,defers,mode,kind,ro⟩
 simp only at hm;subst hm
 unfold aot at h
 simp only at h
 split at h
 ·split at h<;>try (cases h;done)
  rename_i f hf
  split at h<;>try (cases h;done)
  rename_i v ws' eo wz hv
  have bN:=fun hb hc=>JN _ (w:=w) #[] hv (W:=W) hb hc
  simp only[RH.to,Array.empty_append] at bN
  have key:(∀b∈wz,b=W)→((c=ju∧wz=[])∨mh ty W w c)→∀cs,stepG P main (G ⟨fn,tmps,todo,[],.returning,kind,ro⟩ cs) w=GStep.after (seen P fn eo.toArray) (doReturn P main ⟨fn,tmps,todo,[],.returning,kind,ro⟩ cs none v (Kc W w ws')):=by
   intro hb hc cs
   simp only[G,stepG,unwind,hf,bN hb hc]
  split at h
  ·split at h<;>try (cases h;done)
   ·simp only[Option.some.injEq,Prod.mk.injEq] at h
    obtain⟨rfl,rfl,rfl,rfl⟩:=h
    simp only[OV.is]
    rw[key hb hc]
    simp only[List.cons_append,doReturn,GStep.after,Array.append_empty,toArr,G]
   ·split at h<;>try (cases h;done)
    rename_i q gE hmq
    simp only[Option.some.injEq,Prod.mk.injEq] at h
    obtain⟨rfl,rfl,rfl,rfl⟩:=h
    simp only[OV.is]
    rw[key hb hc]
    simp only[List.cons_append,doReturn,hmq,GStep.after,Array.append_empty,toArr,G]
  ·split at h<;>try (cases h;done)
   ·simp only[Option.some.injEq,Prod.mk.injEq] at h
    obtain⟨rfl,rfl,rfl,rfl⟩:=h
    intro q Hh hq
    subst hq
    rw[key hb hc]
    simp only[List.nil_append,doReturn,GStep.after,Array.append_empty,toArr,G]
   ·simp only[Option.some.injEq,Prod.mk.injEq] at h
    obtain⟨rfl,rfl,rfl,rfl⟩:=h
    intro q Hh hq hmq
    subst hq
    rw[key hb hc]
    rcases hmq with hmq| ⟨ch,hmq⟩
    ·simp only[List.nil_append,doReturn,hmq,GStep.after,Array.append_empty,toArr,G]
    ·simp only[List.nil_append,doReturn,hmq,GStep.after,Array.append_empty,toArr,G]
 ·rename_i d ds
  cases hd:azi d.target with
  |false=>rw[hd] at h;cases h
  |true=>
  rw[hd] at h;simp only[cond_true] at h
  rcases d with ⟨tg,args⟩
  cases tg with
  |fn f cap=>
   split at h<;>try (cases h;done)
   all_goals
    rename_i hv
    simp only[Option.some.injEq,Prod.mk.injEq] at h
    obtain⟨rfl,rfl,rfl,rfl⟩:=h
    have bN:=JN _ (w:=w) #[] hv hb hc
    simp only[RH.to,Array.empty_append] at bN
    simp only[OV.is]
    simp only[G,stepG,unwind,callDeferred,bN,GStep.after,toArr,Array.append_empty,Bool.false_and,Bool.false_eq_true,if_false,List.cons_append]
  |_=>cases hd
theorem qR(h:NN P ty c fr iB=some (o,ws,es,bs))(hb:∀b∈bs,b=W)(hc:(c=ju∧bs=[])∨mh ty W w c)(cs:List Frame)(main:Bool):o.is P main (G fr (iB++cs)) w (Kc W w ws) es.toArray cs:=by
 unfold NN at h
 split at h<;>try (cases h;done)
 ·rename_i hm
  split at h
  ·rename_i nH XZ
   simp only[Option.some.injEq,Prod.mk.injEq] at h
   obtain⟨rfl,rfl,rfl,rfl⟩:=h
   exact akX hm XZ w
  ·exact abl hm h hb hc cs main
 ·rename_i hm
  exact ah6 hm h hb hc cs main
end
def afZ:Event→Option (Nat×Nat×List Nat)
 | ⟨.mark .disable,false,true⟩=>some (1,0,[])
 | ⟨.mark .enable,false,true⟩=>some (2,0,[])
 | ⟨.mark (.releaseMerge ⟨b,o,none⟩),false,true⟩=>some (3,o,[b])
 | ⟨.mark (.acquire ⟨b,o,none⟩),false,true⟩=>some (4,o,[b])
 | ⟨.mark (.read ⟨b,o,none⟩),false,true⟩=>some (5,o,[b])
 | ⟨.mark (.write ⟨b,o,none⟩),false,true⟩=>some (6,o,[b])
 | ⟨.cell ⟨b,o,none⟩,false,true⟩=>some (7,o,[b])
 | ⟨.cell ⟨b,o,none⟩,true,true⟩=>some (8,o,[b])
 |_=>none
def Ta(W:Nat)(x:Nat×Nat):Event:=
 match x.1 with
 |1=>said .disable
 |2=>said .enable
 |3=>said (.releaseMerge ⟨W,x.2,none⟩)
 |4=>said (.acquire ⟨W,x.2,none⟩)
 |5=>said (.read ⟨W,x.2,none⟩)
 |6=>said (.write ⟨W,x.2,none⟩)
 |7=>⟨.cell ⟨W,x.2,none⟩,false,true⟩
 |_=>⟨.cell ⟨W,x.2,none⟩,true,true⟩
theorem afY{e:Event}{k:Nat}{bs:List Nat}(h:afZ e=some (k,o,bs))(hb:∀b∈bs,b=W):e=Ta W (k,o):=by
 unfold afZ at h
 split at h<;>try (cases h;done)
 all_goals
  simp only[Option.some.injEq,Prod.mk.injEq] at h
  obtain⟨rfl,rfl,rfl⟩:=h
 ·rfl
 ·rfl
 all_goals
  have:=hb _ (List.mem_singleton.2 rfl)
  subst this
  rfl
def Gv:List Event→Option (List (Nat×Nat)×List Nat)
 | []=>some ([],[])
 |e::l=>match afZ e,Gv l with
  |some (k,o,b),some (r,bs)=>some ((k,o)::r,b++bs)
  |_,_=>none
theorem Jp:∀ {es:List Event} {ks:List (Nat×Nat)} {bs:List Nat},Gv es=some (ks,bs)→(∀b∈bs,b=W)→es=ks.map (Ta W)
 | [],ks,bs,h,hb=>by simp only[Gv,Option.some.injEq,Prod.mk.injEq] at h;obtain⟨rfl,rfl⟩:=h;rfl
 |e::l,ks,bs,h,hb=>by
  simp only[Gv] at h
  split at h<;>try (cases h;done)
  rename_i k o b r wz h1 h2
  simp only[Option.some.injEq,Prod.mk.injEq] at h
  obtain⟨rfl,rfl⟩:=h
  rw[List.map_cons,←afY h1 (fun x hx=>hb x (by simp[hx])),←Jp h2 (fun x hx=>hb x (by simp[hx]))]
abbrev Bl:=Option (List Nat)
def agp:List Nat→Bl→Bl
 |a,some b=>some (a++b)
 |_,none=>none
def both:Bl→Bl→Bl
 |some a,some b=>some (a++b)
 |_,_=>none
def agv(f:α→Bl):List α→Bl
 | []=>some []
 |x::l=>both (f x) (agv f l)
theorem Mh{a bs:List Nat}{x:Bl}(h:agp a x=some bs)(hb:∀b∈bs,b=W):(∀b∈a,b=W)∧∃y,x=some y∧∀b∈y,b=W:=by
 cases x with
 |none=>cases h
 |some y=>
  simp only[agp,Option.some.injEq] at h;subst h
  exact⟨fun b hm=>hb b (by simp[hm]),y,rfl,fun b hm=>hb b (by simp[hm])⟩
theorem Az{bs:List Nat}{x y:Bl}(h:both x y=some bs)(hb:∀b∈bs,b=W):(∃a,x=some a∧∀b∈a,b=W)∧∃a,y=some a∧∀b∈a,b=W:=by
 cases x with
 |none=>cases h
 |some a=>
  cases y with
  |none=>cases h
  |some b=>
   simp only[both,Option.some.injEq] at h;subst h
   exact⟨⟨a,rfl,fun b hm=>hb b (by simp[hm])⟩,b,rfl,fun b hm=>hb b (by simp[hm])⟩
theorem Ee{f:α→Bl}:∀ {l:List α} {bs:List Nat},agv f l=some bs→(∀b∈bs,b=W)→∀x∈l,∃a,f x=some a∧∀b∈a,b=W
 | [],_,_,_,x,hx=>by cases hx
 |y::l,bs,h,hb,x,hx=>by
  obtain⟨h1,h2,h3,h4⟩:=Az h hb
  rcases List.mem_cons.1 hx with rfl|hx
  ·exact h1
  ·exact Ee h3 h4 x hx
def CJ(P:Program)(ty:TypeId):Nat→Frame→List Frame→(Frame→List Frame→Bl)→Bl
 |0,_,_,_=>none
 |n+1,fr,iB,k=>match NN P ty ju fr iB with
  |some (.go nH gE,[],[],bs)=>agp bs (CJ P ty n nH gE k)
  |_=>k fr iB
def an5(P:Program)(ty:TypeId)(c:Jz)(fr:Frame)(iB:List Frame):Option (Frame×List Frame×List (Nat×Value)×List (Nat×Nat)×List Nat×List Nat):=
 match NN P ty c fr iB with
 |some (.go nH gE,ws,es,bs)=>match Gv es with
  |some (ks,b2)=>some (nH,gE,ws,ks,bs,b2)
  |none=>none
 |_=>none
def i64(n:Int):Value:= .int .u64 n
def i32(n:Int):Value:= .int .u32 n
def Tn:List (Nat×Nat)→List (Nat×Nat)→Bool
 | [],[]=>true
 | (a,b)::l,(c,d)::m=>Nat.beq a c&&(Nat.beq b d&&Tn l m)
 |_,_=>false
theorem V6:∀ {l m:List (Nat×Nat)},Tn l m=true→l=m
 | [],[],_=>rfl
 | (a,b)::l,(c,d)::m,h=>by
  simp only[Tn,Bool.and_eq_true] at h
  rw[Nat.eq_of_beq_eq_true h.1,Nat.eq_of_beq_eq_true h.2.1,V6 h.2.2]
 | [],_::_,h=>by simp[Tn] at h
 |_::_,[],h=>by simp[Tn] at h
def YC:List (Nat×Value)→Option (Nat×IntKind×Int)→Bool
 | [],none=>true
 | [(o,.int k n)],some (o',k',n')=>Nat.beq o o'&&(decide (k=k')&&decide (n=n'))
 |_,_=>false
theorem YB{l:List (Nat×Value)}(h:YC l none=true):l=[]:=by
 unfold YC at h
 split at h
 ·rfl
 ·rename_i heq;cases heq
 ·cases h
theorem YA{l:List (Nat×Value)}{k:IntKind}{n:Int}(h:YC l (some (o,k,n))=true):l=[(o,.int k n)]:=by
 unfold YC at h
 split at h
 ·rename_i heq;cases heq
 ·rename_i heq
  cases heq
  simp only[Bool.and_eq_true,decide_eq_true_eq] at h
  rw[Nat.eq_of_beq_eq_true h.1,h.2.1,h.2.2]
 ·cases h
def C2(P:Program)(ty:TypeId)(c:Jz)(m:Bool)(wr:Option (Nat×IntKind×Int))(ks:List (Nat×Nat))(fr:Frame)(iB:List Frame)(k:Frame→List Frame→Bl):Bl:=
 match an5 P ty c fr iB with
 |some (nH,gE,ws,ks',b1,b2)=>bif YC ws wr&&(Tn ks' ks&&(!m||b1.isEmpty)) then agp b1 (agp b2 (k nH gE)) else none
 |none=>none
section
variable {P:Program} {ty:TypeId} {W:Nat}
theorem ahX{c:Jz}{nH:Frame}{gE:List Frame}{ws:List (Nat×Value)}{ks:List (Nat×Nat)}{b1 b2:List Nat}(h:an5 P ty c fr iB=some (nH,gE,ws,ks,b1,b2))(h1:∀b∈b1,b=W)(h2:∀b∈b2,b=W)
 {w:World}(hc:(c=ju∧b1=[])∨mh ty W w c)(cs:List Frame)(main:Bool):stepG P main (G fr (iB++cs)) w= .go (G nH (gE++cs)) (Kc W w ws) (ks.map (Ta W)).toArray:=by
 unfold an5 at h
 split at h<;>try (cases h;done)
 rename_i h0
 split at h<;>try (cases h;done)
 rename_i hk
 simp only[Option.some.injEq,Prod.mk.injEq] at h
 obtain⟨rfl,rfl,rfl,rfl,rfl,rfl⟩:=h
 have:=qR h0 h1 hc cs main
 simp only[OV.is] at this
 rw[this,Jp hk h2]
def wrote(W:Nat)(w:World):Option (Nat×IntKind×Int)→World
 |none=>w
 |some (o,k,n)=>w.setCell ⟨W,o,none⟩ (.int k n)
theorem ij{c:Jz}{m:Bool}{x:Option (Nat×IntKind×Int)}{ks:List (Nat×Nat)}{k:Frame→List Frame→Bl}{bs:List Nat}(h:C2 P ty c m x ks fr iB k=some bs)(hb:∀b∈bs,b=W):
 ∃nH gE wz,k nH gE=some wz∧(∀b∈wz,b=W)∧∀cs main w,((c=ju∧m=true)∨mh ty W w c)→stepG P main (G fr (iB++cs)) w= .go (G nH (gE++cs)) (wrote W w x) (ks.map (Ta W)).toArray:=by
 unfold C2 at h
 split at h<;>try (cases h;done)
 rename_i nH gE ws ks' b1 b2 hv
 cases hq:(YC ws x&&(Tn ks' ks&&(!m||b1.isEmpty))) with
 |false=>rw[hq] at h;cases h
 |true=>
 rw[hq] at h;simp only[cond_true] at h
 simp only[Bool.and_eq_true] at hq
 obtain⟨q1,q2,q3⟩:=hq
 obtain⟨h1,y,hy,XF⟩:=Mh h hb
 obtain⟨h2,z,hz,Df⟩:=Mh hy XF
 refine⟨nH,gE,z,hz,Df,fun cs main w hc=>?_⟩
 have:=ahX hv h1 h2 (w:=w) (by
  rcases hc with ⟨hc,hm⟩|hc
  ·subst hm
   simp at q3
   exact .inl ⟨hc,q3⟩
  ·exact .inr hc) cs main
 rw[this,V6 q2]
 cases x with
 |none=>rw[YB q1];rfl
 |some x=>
  obtain⟨o,kd,n⟩:=x
  rw[YA q1];rfl
theorem SU{k:Frame→List Frame→Bl}:∀ {n:Nat} {fr:Frame} {iB:List Frame} {bs:List Nat},CJ P ty n fr iB k=some bs→(∀b∈bs,b=W)→
 ∀(T:Frame→List Frame→Prop),(∀nH gE wz,k nH gE=some wz→(∀b∈wz,b=W)→T nH gE)→
 (∀fr iB nH gE,(∀cs main w,mh ty W w ju→stepG P main (G fr (iB++cs)) w= .go (G nH (gE++cs)) w #[])→T nH gE→T fr iB)→T fr iB
 |0,_,_,_,h,_,_,_,_=>by cases h
 |n+1,fr,iB,bs,h,hb,T,hk,hs=>by
  simp only[CJ] at h
  split at h
  ·rename_i nH gE b1 h0
   obtain⟨h1,y,hy,XF⟩:=Mh h hb
   refine hs fr iB nH gE (fun cs main w hc=>?_) (SU hy XF T hk hs)
   have:=qR h0 h1 (.inr hc) cs main
   simp only[OV.is] at this
   rw[this];rfl
  ·exact hk _ _ _ h hb
end
section
variable {ι:Type} (E:dV ι)
theorem Fp{w:World}(h:E.live w):mh E.ty E.Wg w ju:=by
 obtain⟨st,sm,h⟩:=h
 exact⟨_,_,h,by simp,by simp⟩
theorem oH{w:World}(h:WgAt E.ty E.Wg w st sm):mh E.ty E.Wg w (some (i64 st),some (i32 sm)):=⟨_,_,h,by simp[i64],by simp[i32]⟩
theorem aoO{w:World}(h:WgAt E.ty E.Wg w st sm):mh E.ty E.Wg w (none,some (i32 sm)):=⟨_,_,h,by simp,by simp[i32]⟩
variable {E}
theorem fK{Stop:Goroutine→Prop}{k:Frame→List Frame→Bl}{n:Nat}{bs:List Nat}(h:CJ E.P E.ty n fr iB k=some bs)(hb:∀b∈bs,b=E.Wg)
 (hk:∀nH gE wz,k nH gE=some wz→(∀b∈wz,b=E.Wg)→Stop (G nH (gE++cs))):E.pure main Stop (G fr (iB++cs)):=by
 refine SU h hb (fun fr iB=>E.pure main Stop (G fr (iB++cs))) (fun nH gE wz h1 h2=>⟨0,hk _ _ _ h1 h2⟩) fun fr iB nH gE h1 ⟨m,hm⟩=>⟨m+1,rfl,_,fun w hw=>h1 cs main w (Fp E hw),hm⟩
theorem Li{L:Nat→Option Obj}{Q:Machine→Outcome→World→Trace→Prop}{pend d0:Nat}{os:List ι}{s:St}{k:Frame→List Frame→Bl}{n:Nat}{bs:List Nat}(h:CJ E.P E.ty n fr iB k=some bs)(hb:∀b∈bs,b=E.Wg)
 (hk:∀nH gE wz,k nH gE=some wz→(∀b∈wz,b=E.Wg)→TC E L Q pend false os d0 (G nH (gE++cs)) s):TC E L Q pend false os d0 (G fr (iB++cs)) s:=
 SU h hb (fun fr iB=>TC E L Q pend false os d0 (G fr (iB++cs)) s) hk fun fr iB nH gE h1 hT=>T1 rfl (fun w hw=>h1 cs true w (Fp E hw)) hT
def goR(P:Program)(ty:TypeId):Nat→Frame→List Frame→Bl
 |0,_,_=>none
 |n+1,fr,iB=>match NN P ty ju fr iB with
  |some (.go nH gE,[],[],[])=>goR P ty n nH gE
  |some (.ret (.tuple ⟨[]⟩),[],[],[])=>some []
  |_=>none
theorem SR{c:Frame}:∀ {n:Nat} {fr:Frame} {iB:List Frame} {bs:List Nat},goR P ty n fr iB=some bs→
 ∀(main:Bool) (T:Goroutine→Prop),T (G (c.finish (.tuple #[])) cs)→(∀g g',g.status= .running→g'.status= .running→(∀w,stepG P main g w= .go g' w #[])→T g'→T g)→T (G fr (iB++c::cs))
 |0,_,_,_,h,_,_,_,_=>by cases h
 |n+1,fr,iB,bs,h,main,T,hT,hs=>by
  simp only[goR] at h
  split at h
  ·rename_i nH gE h0
   refine hs _ _ rfl rfl (fun w=>?_) (SR h main T hT hs)
   have:=qR (W:=0) (w:=w) h0 (by simp) (.inl ⟨rfl,rfl⟩) (c::cs) main
   simp only[OV.is] at this
   rw[this];rfl
  ·rename_i h0
   refine hs _ _ rfl rfl (fun w=>?_) hT
   have:=qR (W:=0) (w:=w) h0 (by simp) (.inl ⟨rfl,rfl⟩) (c::cs) main
   simp only[OV.is] at this
   have h2:=this c cs rfl
   rw[h2];rfl
  ·cases h
def N2:List Event→Bool
 | []=>true
 |e::l=>e.mute&&N2 l
def goQ(P:Program)(ty:TypeId):Nat→Nat→Frame→List Frame→Bl
 |0,_,_,_=>none
 |n+1,d,fr,iB=>match NN P ty ju fr iB with
  |some (.go nH gE,[],es,[])=>bif N2 es then goQ P ty n (deafBehind d es.toArray) nH gE else none
  |some (.aoZ,[],[],[])=>bif Nat.beq d 0 then some [] else none
  |_=>none
theorem N1:∀ {es:List Event},N2 es=true→∀e∈es,e.mute=true
 | [],_,e,he=>by cases he
 |x::l,h,e,he=>by
  simp only[N2,Bool.and_eq_true] at h
  rcases List.mem_cons.1 he with rfl|he
  ·exact h.1
  ·exact N1 h.2 e he
theorem SS{c:Frame}{q:Nat}(hc:c.mode= .returning∨∃ch,c.mode= .panicking [⟨ch,false,true⟩])(hq:QuitsD P q 0 (G c cs)):∀ {n d:Nat} {fr:Frame} {iB:List Frame} {bs:List Nat},goQ P ty n d fr iB=some bs→
 ∃q,QuitsD P q d (G fr (iB++c::cs))
 |0,_,_,_,_,h=>by cases h
 |n+1,d,fr,iB,bs,h=>by
  simp only[goQ] at h
  split at h
  ·rename_i nH gE es h0
   cases hm:N2 es with
   |false=>rw[hm] at h;cases h
   |true=>
   rw[hm] at h;simp only[cond_true] at h
   obtain⟨q',G5⟩:=SS hc hq h
   refine⟨q'+1,.inr ⟨rfl,_,es.toArray,fun e he=>N1 hm e (by simpa using he),fun w=>?_,G5⟩⟩
   have:=qR (W:=0) (w:=w) h0 (by simp) (.inl ⟨rfl,rfl⟩) (c::cs) false
   simp only[OV.is] at this
   rw[this];rfl
  ·rename_i h0
   cases hd:Nat.beq d 0 with
   |false=>rw[hd] at h;cases h
   |true=>
   have:d=0:=Nat.eq_of_beq_eq_true hd
   subst this
   refine⟨q+1,.ctl rfl (fun w=>?_) hq⟩
   have:=qR (W:=0) (w:=w) h0 (by simp) (.inl ⟨rfl,rfl⟩) (c::cs) false
   simp only[OV.is] at this
   have h2:=this c cs rfl hc
   rw[h2];rfl
  ·cases h
end
section
variable (P:Program) (ty:TypeId)
abbrev VZ(a b:Int):Jz:=(some (i64 a),some (i32 b))
abbrev axd:List (Nat×Nat):=[(1,0),(7,1),(8,1),(2,0)]
def agb(f:Frame)(s:List Frame):Bl:=bif mayWake P (G f []) then C2 P ty (VZ 0 0) false (some (1,.u32,1)) axd f s (goQ P ty 300 1) else none
def anz(f:Frame)(s:List Frame):Bl:=C2 P ty (VZ 1 0) false (some (0,.u64,0)) [(8,0)] f s fun f s=>CJ P ty 300 f s (agb P ty)
def anA(f:Frame)(s:List Frame):Bl:=C2 P ty (VZ 1 0) false none [(7,0)] f s fun f s=>CJ P ty 300 f s (anz P ty)
def Tf(f:Frame)(s:List Frame)(v wt:Nat):Bl:=
 C2 P ty (VZ (((v+1:Nat):Int)*KK+(wt:Int)) 0) false (some (0,.u64,(v:Int)*KK+(wt:Int))) [(7,0),(8,0)] f s fun f s=>bif Nat.beq v 0&&Nat.beq wt 1 then CJ P ty 300 f s (anA P ty) else goQ P ty 300 1 f s
def anB(mx:Nat)(f:Frame)(s:List Frame):Bl:=agv (fun v=>both (Tf P ty f s v 0) (Tf P ty f s v 1)) (List.range mx)
def anx(mx:Nat)(f:Frame)(s:List Frame):Bl:=C2 P ty ju true none [(1,0)] f s fun f s=>CJ P ty 300 f s (anB P ty mx)
def anw(mx:Nat)(f:Frame)(s:List Frame):Bl:=C2 P ty ju true none [(3,0)] f s fun f s=>CJ P ty 300 f s (anx P ty mx)
def xd(mx:Nat)(f:Frame):Bl:=CJ P ty 300 f [] (anw P ty mx)
def anC(f:Frame)(s:List Frame):Bl:=C2 P ty ju true none [(4,0)] f s (goR P ty 300)
def VY(f:Frame)(s:List Frame):Bl:=C2 P ty ju true none [(2,0)] f s fun f s=>CJ P ty 300 f s (anC P ty)
def ant(f:Frame)(s:List Frame):Bl:=C2 P ty (VZ 0 0) false none [(7,0)] f s fun f s=>CJ P ty 300 f s (VY P ty)
def aEO(c:Jz)(f:Frame)(s:List Frame):Bl:=match NN P ty c f s with
 |some (.block,[],[],bs)=>some bs
 |_=>none
def anu(f:Frame)(s:List Frame):Bl:=both (aEO P ty (none,some (i32 0)) f s) (C2 P ty (VZ 0 1) false (some (1,.u32,0)) axd f s fun f s=>CJ P ty 300 f s (ant P ty))
def ans(f:Frame)(s:List Frame):Bl:=C2 P ty ju true none [(6,1)] f s fun f s=>CJ P ty 300 f s (anu P ty)
def anv(ai4:Frame→List Frame→Bl)(vs:Nat)(f:Frame)(s:List Frame):Bl:=
 both (C2 P ty (VZ ((vs:Int)*KK) 0) false (some (0,.u64,(vs:Int)*KK+1)) [(7,0),(8,0)] f s fun f s=>CJ P ty 300 f s (ans P ty))
  (agv (fun v:Nat=>C2 P ty (VZ ((v:Int)*KK) 0) false none [(7,0)] f s fun f s=>CJ P ty 300 f s ai4) (List.range vs))
def PI:Nat→Frame→List Frame→Bl
 |0,f,s=>C2 P ty (VZ 0 0) false none [(7,0)] f s fun f s=>CJ P ty 300 f s (VY P ty)
 |b+1,f,s=>both (C2 P ty (VZ 0 0) false none [(7,0)] f s fun f s=>CJ P ty 300 f s (VY P ty))
  (agv (fun v:Nat=>C2 P ty (VZ (((v+1:Nat):Int)*KK) 0) false none [(7,0)] f s fun f s=>CJ P ty 300 f s (anv P ty (PI b) (v+1))) (List.range (b+1)))
def Au(mx:Nat)(f:Frame):Bl:=CJ P ty 300 f [] fun f s=>C2 P ty ju true none [(1,0)] f s fun f s=>CJ P ty 300 f s (PI P ty mx)
def GB(v:Nat)(f:Frame):Bl:=
 CJ P ty 300 f [] fun f s=>C2 P ty ju true none [(1,0)] f s fun f s=>CJ P ty 300 f s fun f s=>
  C2 P ty (VZ ((v:Int)*KK) 0) false (some (0,.u64,((v+1:Nat):Int)*KK)) [(7,0),(8,0)] f s fun f s=>CJ P ty 300 f s fun f s=>
   bif Nat.beq v 0 then C2 P ty ju false none [(5,1)] f s fun f s=>CJ P ty 300 f s fun f s=>C2 P ty ju true none [(2,0)] f s (goR P ty 300)
   else C2 P ty ju true none [(2,0)] f s (goR P ty 300)
end
section
variable {ι:Type} {E:dV ι}
section leave
variable {c:Frame} {cs:List Frame} (hc:c.mode= .returning∨∃ch,c.mode= .panicking [⟨ch,false,true⟩]) {q0:Nat} (hq:QuitsD E.P q0 0 (G c cs))
include hc hq
theorem aga{bs:List Nat}(h:agb E.P E.ty f s=some bs)(hb:∀b∈bs,b=E.Wg):E.D4 (G f (s++c::cs)):=by
 unfold agb at h
 cases hm:mayWake E.P (G f []) with
 |false=>rw[hm] at h;cases h
 |true=>
 rw[hm] at h;simp only[cond_true] at h
 obtain⟨f',s',wz,h1,h2,h3⟩:=ij h hb
 exact⟨rfl,hm,_,fun w hw=>h3 _ _ w (.inr (oH E hw)),SS hc hq h1⟩
theorem agc{bs:List Nat}(h:anz E.P E.ty f s=some bs)(hb:∀b∈bs,b=E.Wg):E.D3 (G f (s++c::cs)):=by
 obtain⟨f',s',wz,h1,h2,h3⟩:=ij h hb
 exact⟨rfl,_,fun w hw=>h3 _ _ w (.inr (oH E hw)),fK h1 h2 fun _ _ _ k1 k2=>aga hc hq k1 k2⟩
theorem agd{bs:List Nat}(h:anA E.P E.ty f s=some bs)(hb:∀b∈bs,b=E.Wg):E.D2 (G f (s++c::cs)):=by
 obtain⟨f',s',wz,h1,h2,h3⟩:=ij h hb
 exact⟨rfl,_,fun w hw=>h3 _ _ w (.inr (oH E hw)),fK h1 h2 fun _ _ _ k1 k2=>agc hc hq k1 k2⟩
theorem age{bs:List Nat}(h:anB E.P E.ty E.max f s=some bs)(hb:∀b∈bs,b=E.Wg):E.D1 (G f (s++c::cs)):=by
 refine⟨rfl,fun v wt hwt hv=>?_⟩
 obtain⟨a,h1,h2⟩:=Ee h hb v (List.mem_range.2 hv)
 have key:∃a,Tf E.P E.ty f s v wt=some a∧∀b∈a,b=E.Wg:=by
  obtain⟨k1,k2⟩:=Az h1 h2
  match wt,hwt with
  |0,_=>exact k1
  |1,_=>exact k2
 obtain⟨a',k1,k2⟩:=key
 obtain⟨f',s',wz,j1,j2,j3⟩:=ij k1 k2
 refine⟨_,fun w hw=>j3 _ _ w (.inr (oH E hw)),fun hh=>?_,fun hh=>?_⟩
 ·obtain⟨rfl,rfl⟩:=hh
  exact fK j1 j2 fun _ _ _ k1 k2=>agd hc hq k1 k2
 ·have:(Nat.beq v 0&&Nat.beq wt 1)=false:=by
   cases hx:(Nat.beq v 0&&Nat.beq wt 1) with
   |false=>rfl
   |true=>
    simp only[Bool.and_eq_true] at hx
    exact absurd ⟨Nat.eq_of_beq_eq_true hx.1,Nat.eq_of_beq_eq_true hx.2⟩ hh
  rw[this] at j1;simp only[cond_false] at j1
  exact SS hc hq j1
theorem af9{bs:List Nat}(h:anx E.P E.ty E.max f s=some bs)(hb:∀b∈bs,b=E.Wg):E.K1 (G f (s++c::cs)):=by
 obtain⟨f',s',wz,h1,h2,h3⟩:=ij h hb
 exact⟨rfl,_,fun w=>h3 _ _ w (.inl ⟨rfl,rfl⟩),fK h1 h2 fun _ _ _ k1 k2=>age hc hq k1 k2⟩
theorem af8{bs:List Nat}(h:anw E.P E.ty E.max f s=some bs)(hb:∀b∈bs,b=E.Wg):E.R0 (G f (s++c::cs)):=by
 obtain⟨f',s',wz,h1,h2,h3⟩:=ij h hb
 exact⟨rfl,_,fun w=>h3 _ _ w (.inl ⟨rfl,rfl⟩),fK h1 h2 fun _ _ _ k1 k2=>af9 hc hq k1 k2⟩
theorem GA{bs:List Nat}(h:xd E.P E.ty E.max f=some bs)(hb:∀b∈bs,b=E.Wg):E.pure false E.R0 (G f (c::cs)):=
 fK (iB:=[]) h hb fun _ _ _ k1 k2=>af8 hc hq k1 k2
end leave
section close
variable {c:Frame} {cs:List Frame} {st:St} (hT:eR E.P false E.H3 (G (c.finish (.tuple #[])) cs) st)
include hT
theorem agf{bs:List Nat}(h:anC E.P E.ty f s=some bs)(hb:∀b∈bs,b=E.Wg):E.Aq st (G f (s++c::cs)):=by
 obtain⟨f',s',wz,h1,h2,h3⟩:=ij h hb
 have key:=SR (c:=c) (cs:=cs) h1 false (fun g=>eR E.P false E.H3 g st) hT fun g g' hg hg' bM hT'=>(dX _ _ _).go hg hg' bM hT'
 obtain⟨tr,iz,hle,ht⟩:=key
 exact⟨rfl,_,fun w=>h3 _ _ w (.inl ⟨rfl,rfl⟩),tr,iz,hle,ht⟩
theorem Gz{bs:List Nat}(h:VY E.P E.ty f s=some bs)(hb:∀b∈bs,b=E.Wg):E.Ke st (G f (s++c::cs)):=by
 obtain⟨f',s',wz,h1,h2,h3⟩:=ij h hb
 exact⟨rfl,_,fun w=>h3 _ _ w (.inl ⟨rfl,rfl⟩),fK h1 h2 fun _ _ _ k1 k2=>agf hT k1 k2⟩
theorem af5{bs:List Nat}(h:ant E.P E.ty f s=some bs)(hb:∀b∈bs,b=E.Wg):E.W4 st (G f (s++c::cs)):=by
 obtain⟨f',s',wz,h1,h2,h3⟩:=ij h hb
 exact⟨rfl,_,fun w hw=>h3 _ _ w (.inr (oH E hw)),fK h1 h2 fun _ _ _ k1 k2=>Gz hT k1 k2⟩
theorem af6{bs:List Nat}(h:anu E.P E.ty f s=some bs)(hb:∀b∈bs,b=E.Wg):E.W3 st (G f (s++c::cs)):=by
 obtain⟨⟨b1,k1,k2⟩,b2,k3,k4⟩:=Az h hb
 obtain⟨f',s',wz,h1,h2,h3⟩:=ij k3 k4
 refine⟨rfl,rfl,fun w n hw=>?_,_,fun w hw=>h3 _ _ w (.inr (oH E hw)),fK h1 h2 fun _ _ _ k1 k2=>af5 hT k1 k2⟩
 unfold aEO at k1
 split at k1<;>try (cases k1;done)
 rename_i h0
 simp only[Option.some.injEq] at k1;subst k1
 have:=qR h0 k2 (w:=w) (.inr (aoO E hw)) (c::cs) false
 simp only[OV.is] at this
 rw[this];rfl
theorem af4{bs:List Nat}(h:ans E.P E.ty f s=some bs)(hb:∀b∈bs,b=E.Wg):E.Wr st (G f (s++c::cs)):=by
 obtain⟨f',s',wz,h1,h2,h3⟩:=ij h hb
 exact⟨rfl,_,fun w=>h3 _ _ w (.inl ⟨rfl,rfl⟩),fK h1 h2 fun _ _ _ k1 k2=>af6 hT k1 k2⟩
theorem af7{ai4:Frame→List Frame→Bl}{agE:Goroutine→Prop}(hm:∀f s bs,ai4 f s=some bs→(∀b∈bs,b=E.Wg)→agE (G f (s++c::cs))){vs:Nat}{bs:List Nat}(h:anv E.P E.ty ai4 vs f s=some bs)(hb:∀b∈bs,b=E.Wg):
 E.W2 (E.pure false agE) st vs (G f (s++c::cs)):=by
 obtain⟨⟨b1,k1,k2⟩,b2,k3,k4⟩:=Az h hb
 obtain⟨f',s',wz,h1,h2,h3⟩:=ij k1 k2
 refine⟨rfl,⟨_,fun w hw=>h3 _ _ w (.inr (oH E hw)),fK h1 h2 fun _ _ _ k1 k2=>af4 hT k1 k2⟩,fun v hv=>?_⟩
 obtain⟨a,j1,j2⟩:=Ee k3 k4 v (List.mem_range.2 hv)
 obtain⟨f2,s2,bs2,i1,i2,i3⟩:=ij j1 j2
 exact⟨_,fun w hw=>i3 _ _ w (.inr (oH E hw)),fK i1 i2 fun _ _ _ k1 k2=>hm _ _ _ k1 k2⟩
theorem PH:∀ {b:Nat} {f:Frame} {s:List Frame} {bs:List Nat},PI E.P E.ty b f s=some bs→(∀b∈bs,b=E.Wg)→E.W1 st b (G f (s++c::cs))
 |0,f,s,bs,h,hb=>by
  simp only[PI] at h
  obtain⟨f',s',wz,h1,h2,h3⟩:=ij h hb
  exact⟨rfl,_,fun w hw=>h3 _ _ w (.inr (oH E hw)),fK h1 h2 fun _ _ _ k1 k2=>Gz hT k1 k2⟩
 |b+1,f,s,bs,h,hb=>by
  simp only[PI] at h
  obtain⟨⟨b1,k1,k2⟩,b2,k3,k4⟩:=Az h hb
  obtain⟨f',s',wz,h1,h2,h3⟩:=ij k1 k2
  refine⟨rfl,⟨_,fun w hw=>h3 _ _ w (.inr (oH E hw)),fK h1 h2 fun _ _ _ k1 k2=>Gz hT k1 k2⟩,fun v hv1 hv2=>?_⟩
  obtain⟨u,rfl⟩:∃u,v=u+1:=⟨v-1,by omega⟩
  obtain⟨a,j1,j2⟩:=Ee k3 k4 u (List.mem_range.2 (by omega))
  obtain⟨f2,s2,bs2,i1,i2,i3⟩:=ij j1 j2
  exact⟨_,fun w hw=>i3 _ _ w (.inr (oH E hw)),fK i1 i2 fun _ _ _ k1 k2=>af7 hT (agE:=E.W1 st b) (fun _ _ _ m1 m2=>PH m1 m2) k1 k2⟩
theorem Gy{bs:List Nat}(h:Au E.P E.ty E.max f=some bs)(hb:∀b∈bs,b=E.Wg):E.closes st (G f (c::cs)):=
 fK (iB:=[]) h hb fun _ _ _ k1 k2=>by
  obtain⟨f',s',wz,h1,h2,h3⟩:=ij k1 k2
  exact⟨rfl,_,fun w=>h3 _ _ w (.inl ⟨rfl,rfl⟩),fK h1 h2 fun _ _ _ k1 k2=>PH hT k1 k2⟩
end close
theorem Jr{L:Nat→Option Obj}{Q:Machine→Outcome→World→Trace→Prop}{os:List ι}{s:St}{c:Frame}{bs:List Nat}(h:GB E.P E.ty os.length f=some bs)(hb:∀b∈bs,b=E.Wg)(HL:os.length <E.max)
 (hT:TC E L Q 1 false os 0 (G (c.finish (.tuple #[])) cs) s):TC E L Q 0 false os 0 (G f (c::cs)) s:=by
 have qe:∀ {f:Frame} {iB:List Frame} {bs:List Nat},C2 E.P E.ty ju true none [(2,0)] f iB (goR E.P E.ty 300)=some bs→(∀b∈bs,b=E.Wg)→TC E L Q 1 false os 1 (G f (iB++c::cs)) s:=by
  intro f iB bs h hb
  obtain⟨f',s',wz,h1,h2,h3⟩:=ij h hb
  refine DO (lV:=1) (d':=0) rfl rfl (fun w st sm hw hz _=>⟨w,h3 _ _ w (.inl ⟨rfl,rfl⟩),eJ.refl w,by obtain⟨rfl,rfl⟩:=hz rfl;exact hw⟩) (by intro e he;simp[Ta] at he;subst he;exact .inr (.inl rfl)) rfl id ?_
  exact SR (c:=c) (cs:=cs) h1 true (fun g=>TC E L Q 1 false os 0 g s) hT fun g g' hg hg' bM hT'=>T1 hg (fun w _=>bM w) hT'
 refine Li (iB:=[]) h hb fun f1 s1 b1 k1 k2=>?_
 obtain⟨f',s',wz,h1,h2,h3⟩:=ij k1 k2
 refine DO (lV:=0) (d':=1) rfl rfl (fun w st sm hw hz _=>⟨w,h3 _ _ w (.inl ⟨rfl,rfl⟩),eJ.refl w,by obtain⟨rfl,rfl⟩:=hz rfl;exact hw⟩) (by intro e he;simp[Ta] at he;subst he;exact .inl rfl) rfl id ?_
 refine Li h1 h2 fun f2 s2 b2 k1 k2=>?_
 obtain⟨f',s',wz,h1,h2,h3⟩:=ij k1 k2
 refine DO (lV:=1) (d':=1) rfl rfl (fun w st sm hw hz _=>⟨_,h3 _ _ w (.inr ?_),eJ.set w 0 _,?_⟩) (by
  intro e he;simp[Ta] at he
  rcases he with rfl|rfl<;>exact nQ 0 _) rfl (fun _=>HL) ?_
 ·obtain⟨rfl,rfl⟩:=hz rfl
  exact oH E hw
 ·obtain⟨rfl,rfl⟩:=hz rfl
  exact Go.ConcR.WgAt.setSt hw _
 refine Li h1 h2 fun f3 s3 b3 k1 k2=>?_
 cases hz:Nat.beq os.length 0 with
 |false=>
  rw[hz] at k1;simp only[cond_false] at k1
  exact qe k1 k2
 |true=>
  rw[hz] at k1;simp only[cond_true] at k1
  obtain⟨f',s',wz,h1,h2,h3⟩:=ij k1 k2
  refine ah8 rfl (fun w hw=>h3 _ _ w (.inr (Fp E hw))) ?_
  exact Li h1 h2 fun f4 s4 b4 k1 k2=>qe k1 k2
end
def CA(P:Program):Class:=fun main T=>Closed P main T
def aaA:Code→Nat
 | .seq a b=>aaA a+aaA b+1
 |_=>0
def gQ(l:List Code):List Code:=l.flatMap iR
section
variable {P:Program} {main:Bool} {T:Goroutine→St→Prop} {b:Frame} {k:List Item} {cs:List Frame} {a:Act} {s:St} {n LF:Nat} {D:List Deferred} {call:bS} {ops:Array Oper}
 {ρ:aR} {ce e:Env} {m:Mem} {F:Nat×Obj→Prop} {R:Nat→Option Obj}
abbrev On(T:Goroutine→St→Prop)(b:Frame)(a:Act)(l:List Code)(k:List Item)(cs:List Frame)(s:St):Prop:=T (G (aI b a (l.map .code++k)) cs) s
theorem nI(hT:Closed P main T){c0:Code}:∀ {l:List Code},gQ l=c0::rest→(∀l',gQ l'=rest→T (G (aI b a (.code c0::(l'.map .code++k))) cs) s)→On T b a l k cs s:=by
 intro l
 generalize hn:(l.map aaA).sum=q
 induction q using Nat.strongRecOn generalizing l with
 |_ q ih=>
  intro hl h
  cases l with
  |nil=>cases hl
  |cons c l=>
   cases hc:c with
   |seq x y=>
    subst hc
    refine hT.go rfl rfl (g':=G (aI b a ((x::y::l).map .code++k)) cs) (fun w=>by simp[G,stepG,stepG.exec,aI]) ?_
    refine ih ((x::y::l).map aaA).sum ?_ rfl ?_ h
    ·rw[←hn];simp[aaA];omega
    ·rw[←hl];simp[gQ,iR]
   |_=>
    subst hc
    simp only[gQ,List.flatMap_cons,iR,List.singleton_append,List.cons.injEq] at hl
    obtain⟨rfl,hl⟩:=hl
    exact h l hl
theorem dI(hT:Closed P main T)(hl:gQ l= .region id ops false::rest)(h:∀l',gQ l'=rest→T (G (aI b a (.inRegion ops (List.range ops.size)::(l'.map .code++k))) cs) s):On T b a l k cs s:=
 nI hT hl fun l' yA=>hT.go rfl rfl (g':=G (aI b a (.inRegion ops (List.range ops.size)::(l'.map .code++k))) cs) (fun w=>by simp[G,stepG,stepG.exec,aI]) (h l' yA)
theorem zm(hT:Closed P main T){c:Operand}{x y:Code}{t:Bool}(hl:gQ l= .cond c x y::rest)(hc:a.eval c= .bool t)(h:∀l',gQ l'=rest→T (G (aI b a (.code (if t then x else y)::(l'.map .code++k))) cs) s):On T b a l k cs s:=
 nI hT hl fun l' yA=>hT.go rfl rfl (g':=G (aI b a (.code (if t then x else y)::(l'.map .code++k))) cs) (fun w=>by
  have he:=kM b a (.code (.cond c x y)::(l'.map .code++k))
  simp only[aI] at he
  simp only[G,stepG,stepG.exec,aI,he,hc]) (h l' yA)
theorem vw(hT:Closed P main T){c:Code}(hl:gQ l= .block id c::rest)(h:∀l',gQ l'=rest→On T b a [c] (.inBlock id::(l'.map .code++k)) cs s):On T b a l k cs s:=
 nI hT hl fun l' yA=>hT.go rfl rfl (g':=G (aI b a (.code c:: .inBlock id::(l'.map .code++k))) cs) (fun w=>by simp[G,stepG,stepG.exec,aI]) (show T (G (aI b a (.code c:: .inBlock id::(l'.map .code++k))) cs) s from h l' yA)
theorem BW(hT:Closed P main T)(h:T (G (aI b a k) cs) s):T (G (aI b a (.inBlock id::k)) cs) s:=
 hT.go rfl rfl (g':=G (aI b a k) cs) (fun w=>by simp[G,stepG,stepG.exec,aI]) h
theorem Ko(hT:Closed P main T){c:Code}(hl:gQ l= .loop c::rest)(h:∀l',gQ l'=rest→On T b a [c] (.inLoop c::(l'.map .code++k)) cs s):On T b a l k cs s:=
 nI hT hl fun l' yA=>hT.go rfl rfl (g':=G (aI b a (.code c:: .inLoop c::(l'.map .code++k))) cs) (fun w=>by simp[G,stepG,stepG.exec,aI]) (show T (G (aI b a (.code c:: .inLoop c::(l'.map .code++k))) cs) s from h l' yA)
theorem yN(hT:Closed P main T){c:Code}(h:On T b a [c] (.inLoop c::k) cs s):T (G (aI b a (.inLoop c::k)) cs) s:=
 hT.go rfl rfl (g':=G (aI b a (.code c:: .inLoop c::k)) cs) (fun w=>by simp[G,stepG,stepG.exec,aI]) h
theorem LG(hT:Closed P main T)(h:T (G (aI b a k) cs) s):T (G (aI b a (.code .skip::k)) cs) s:=
 hT.go rfl rfl (g':=G (aI b a k) cs) (fun w=>by simp[G,stepG,stepG.exec,aI]) h
theorem LI(hT:Closed P main T){k':List Item}(hk:exitTo id k=some k')(h:T (G (aI b a k') cs) s):T (G (aI b a (.code (.exit id)::k)) cs) s:=
 hT.go rfl rfl (g':=G (aI b a k') cs) (fun w=>by simp[G,stepG,stepG.exec,aI,hk]) h
theorem iv(hT:Closed P main T)(h:T (G (aI b a k) cs) s):T (G (aI b a (.inRegion ops []::k)) cs) s:=
 hT.go rfl rfl (g':=G (aI b a k) cs) (fun w=>by simp[G,stepG,stepG.exec,aI]) h
theorem ql(id:Nat):∀(l:List Code) (k:List Item),exitTo id (l.map .code++k)=exitTo id k
 | [],k=>rfl
 |c::l,k=>by
  rw[List.map_cons,List.cons_append]
  exact ql id l k
theorem sH(hT:Closed P main T){rest:List Nat}{o:Oper}(ho:ops[i]?=some o) (hw:Region.wanted o (yielded ops a.tmps)=true) (hk:b.kind≠ .early) (hb:b.roundOf=none)
 (h:bH P (execOp a.eval o) s (fun nx s'=>∃v,nx= .value v∧T (G (aI b (a.put o.dst v) (.inRegion ops rest::k)) cs) s') (fun _ _=>False)):T (G (aI b a (.inRegion ops (i::rest)::k)) cs) s:=by
 have jL:(b.kind==CallKind.early)=false:=by simpa using hk
 have gN:∀w,stepG P main (G (aI b a (.inRegion ops (i::rest)::k)) cs) w=stepG.apply P true (aI b a (.inRegion ops (i::rest)::k)) cs none (execOp a.eval o) w:=by
  intro w
  have he:=kM b a (.inRegion ops (i::rest)::k)
  simp only[aI] at he
  simp only[G,stepG,stepG.exec,aI,ho,Option.map_some,Option.getD_some,hw,if_true,stepG.oper,Frame.oper?,he]
  rw[hb]
 refine hT.step _ _ rfl fun w pn=>?_
 obtain⟨r,es,hr,hl⟩:=gX _ _ _ _ w #[] h pn
 rw[Array.empty_append] at hr
 have mJ:=gN w
 simp only[stepG.apply,if_true,hr] at mJ
 simp only[aI,jL,Bool.false_eq_true,if_false] at mJ
 cases r with
 |ok nx w'=>
  obtain⟨s',ht,v,rfl,hv⟩:=hl
  simp only[GStep.after,Array.append_empty] at mJ
  have mw:=fT b a ops i rest k v
  rw[ho] at mw
  simp only[Option.bind_some] at mw
  rw[←mw] at hv
  exact⟨_,_,_,s',mJ,rfl,ht.sub (iG P b.fn es),hv⟩
 |halt hh w'=>
  obtain⟨s',ht,hu⟩:=hl
  exact hu.elim
theorem db(o:Oper)(f:Nat→Option Bool)(h:o.guard=none):Region.wanted o f=true:=by unfold Region.wanted;rw[h]
end
def St.freeze(s:St):St:=⟨fun b=>match s.rw.find? (fun x=>x.1==b) with
 |some x=>some x.2
 |none=>s.ro b,[]⟩
theorem ov{l:List (Nat×Obj)}{b:Nat}{x:Nat×Obj}(h:l.find? (fun x=>x.1==b)=some x):x∈l∧x.1=b:=
 ⟨List.mem_of_find?_eq_some h,by simpa using List.find?_some h⟩
theorem vZ{l:List (Nat×Obj)}(hn:(l.map (·.1)).Nodup){b:Nat}{o:Obj}(h:(b,o)∈l):l.find? (fun x=>x.1==b)=some (b,o):=by
 induction l with
 |nil=>cases h
 |cons y l ih=>
  rw[List.map_cons,List.nodup_cons] at hn
  rcases List.mem_cons.1 h with rfl|h'
  ·simp
  ·have:y.1≠b:=fun e=>hn.1 (e▸List.mem_map.2 ⟨_,h',rfl⟩)
   rw[List.find?_cons_of_neg (by simpa using this)]
   exact ih hn.2 h'
theorem St.BP(s:St):s.freeze.le s:=by
 refine⟨s.rw,by simp[St.freeze],fun b o h=>?_⟩
 simp only[St.freeze] at h
 split at h
 ·rename_i x hx
  obtain⟨h1,h2⟩:=ov hx
  cases h
  subst h2
  exact .inr h1
 ·exact .inl h
theorem St.nG{s:St}{b:Nat}{o:Obj}(h:s.ro b=some o)(ha:∀b o,(b,o)∈s.rw→s.ro b=none):s.freeze.ro b=some o:=by
 simp only[St.freeze]
 split
 ·rename_i x hx
  obtain⟨h1,h2⟩:=ov hx
  subst h2
  rw[ha x.1 x.2 h1] at h;cases h
 ·exact h
theorem St.sV{s:St}{b:Nat}{o:Obj}(h:(b,o)∈s.rw)(hn:(s.rw.map (·.1)).Nodup):s.freeze.ro b=some o:=by
 simp only[St.freeze,vZ hn h]
section
variable {P:Program} {ρ:aR} {m:Mem} {F:Nat×Obj→Prop} {R:Nat→Option Obj} {s:St}
theorem Closed.jQ(hT:Closed P main T){g:Goroutine}(hs:g.status= .running)(h:(∃w,aP s w)→T g s):T g s:=by
 by_cases ha:∃w,aP s w
 ·exact h ha
 ·exact hT.step _ _ hs fun w hw=>absurd ⟨w,hw⟩ ha
end
section
variable {P:Program} {main:Bool} {T:Goroutine→St→Prop} {b:Frame} {k:List Item} {cs:List Frame} {a:Act} {s:St} {n LF:Nat} {D:List Deferred} {call:bS} {ops:Array Oper}
 {ρ:aR} {ce e:Env} {m:Mem} {F:Nat×Obj→Prop} {R:Nat→Option Obj}
theorem NK(hT:Closed P main T){rest:List Nat}{o:Oper}(ho:ops[i]?=some o) (hg:o.guard=none) (hk:b.kind≠ .early) (hb:b.roundOf=none) {f:FuncId} (aw:o.op= .call ⟨.value (.func f),xs,ats⟩) (hf:FF P f)
 (h:T (G (Frame.enter P f (xs.map a.eval) .normal) (aI b a (.inRegion ops (i::rest)::k)::cs)) s):T (G (aI b a (.inRegion ops (i::rest)::k)) cs) s:=by
 have jL:(b.kind==CallKind.early)=false:=by simpa using hk
 have hw:Region.wanted o (yielded ops a.tmps)=true:=db o _ hg
 have vJ:bH P (execOp a.eval o) s (fun nx s'=>nx= .enter f (xs.map a.eval)∧s'=s) (fun _ _=>False):=by
  have e1:a.eval (.func f)= .func (.func f) #[] #[]:=rfl
  simp only[execOp,aw,resolve,e1,Deferred.ofValue,aa,ae,invoke]
  have:(#[]++xs.map a.eval:Array Value)++ #[]=xs.map a.eval:=by simp
  rw[this]
  exact kg hf ⟨rfl,rfl⟩
 have gN:∀w,stepG P main (G (aI b a (.inRegion ops (i::rest)::k)) cs) w=stepG.apply P true (aI b a (.inRegion ops (i::rest)::k)) cs none (execOp a.eval o) w:=by
  intro w
  have he:=kM b a (.inRegion ops (i::rest)::k)
  simp only[aI] at he
  simp only[G,stepG,stepG.exec,aI,ho,Option.map_some,Option.getD_some,hw,if_true,stepG.oper,Frame.oper?,he]
  rw[hb]
 refine hT.step _ _ rfl fun w pn=>?_
 obtain⟨r,es,hr,hl⟩:=gX _ _ _ _ w #[] vJ pn
 rw[Array.empty_append] at hr
 have mJ:=gN w
 simp only[stepG.apply,if_true,hr] at mJ
 simp only[aI,jL,Bool.false_eq_true,if_false] at mJ
 cases r with
 |ok nx w'=>
  obtain⟨s',ht,rfl,rfl⟩:=hl
  simp only[GStep.after,Array.append_empty] at mJ
  exact⟨_,_,_,_,mJ,rfl,ht.sub (iG P b.fn es),h⟩
 |halt hh w'=>
  obtain⟨s',ht,hu⟩:=hl
  exact hu.elim
def cB(P:Program):Frame:={(default:Frame) with fn:=P.funcs.size,defers:=[],mode:= .panicking [goexitEntry]}
theorem Ny(P:Program):QuitsD P 1 0 (G (cB P) []):=by
 have hc:(cB P).catches P=false:=by
  simp[Frame.catches,cB]
  rfl
 refine .ctl (g':={(G (cB P) []) with status:= .finished}) rfl (fun w=>?_) ⟨rfl,rfl⟩
 have bM:stepG P false (G (cB P) []) w=unwind P false (cB P) [] none w:=rfl
 rw[bM]
 unfold unwind
 have h1:(cB P).defers=[]:=rfl
 have h2:(cB P).mode= .panicking [goexitEntry]:=rfl
 simp only[h1,h2,hc,Bool.false_eq_true,if_false]
 simp[goexitEntry,G]
theorem nT{fn:Func}(hm:fr.mode= .returning)(hd:fr.defers=[])(hk:fr.kind= .deferred)(hf:P.funcs[fr.fn]?=some fn) (hr:fn.results= #[]):QuitsD P 2 0 (G fr [cB P]):=by
 refine .ctl rfl (fun w=>?_) (Ny P)
 have h1:∀tm,results fn tm=Sem.pure (.tuple #[]):=by intro tm;simp[results,hr];rfl
 rcases fr with ⟨fn',tmps,todo,defers,mode,kind,ro⟩
 simp only at hm hd hk hf
 subst hm hd hk
 simp only[G,stepG,unwind,hf,h1,Sem.runT,seen_none,GStep.after,doReturn,cB,goexitEntry,Array.append_empty]
end
structure PV where
 f:FuncId
 n:Nat
 cl:List Code
 o7:Array Oper
 o:Oper
 sc:Operand
 sv:Operand
 done:FuncId
def goE(P:Program)(ty:TypeId):Nat→Frame→List Frame→Option (Frame×List Frame)
 |0,fr,iB=>some (fr,iB)
 |n+1,fr,iB=>match NN P ty ju fr iB with
  |some (.go nH gE,[],[],[])=>goE P ty n nH gE
  |_=>none
theorem SV{T:Goroutine→Prop}(hs:∀g g',g.status= .running→g'.status= .running→(∀w,stepG P main g w= .go g' w #[])→T g'→T g):∀ {n:Nat} {fr nH:Frame} {iB gE:List Frame},goE P ty n fr iB=some (nH,gE)→T (G nH (gE++cs))→T (G fr (iB++cs))
 |0,fr,nH,iB,gE,h,hT=>by simp only[goE,Option.some.injEq,Prod.mk.injEq] at h;obtain⟨rfl,rfl⟩:=h;exact hT
 |n+1,fr,nH,iB,gE,h,hT=>by
  simp only[goE] at h
  split at h<;>try (cases h;done)
  rename_i f1 s1 h0
  refine hs _ _ rfl rfl (fun w=>?_) (SV hs h hT)
  have:=qR (W:=0) (w:=w) h0 (by simp) (.inl ⟨rfl,rfl⟩) cs main
  simp only[OV.is] at this
  rw[this];rfl
theorem GK{f:FuncId}(hf:FF P f)(ca:Array Value)(w:World):stepG P main (born P {target:= .fn (.func f) ca,args:= #[]}) w= .go (G (Frame.enter P f (#[]++ca) .deferred) [cB P]) w #[]:=by
 obtain⟨fn,h1,h2,h3⟩:=hf.ff
 have bN:(callFunc f (#[]++ca)).runT P w #[]=(.ok (.enter f (#[]++ca)) w,#[]):=by
  show (Sem.program _).runT P w #[]=_
  simp only[Sem.runT,Sem.bind,h1,h2,h3,Bool.false_eq_true,if_false]
  rfl
 simp only[born,stepG,unwind,callDeferred,invoke,bN,GStep.after,seen_none,Bool.false_and,Bool.false_eq_true,if_false,Array.append_empty,G,cB]
structure Jy where
 f:FuncId
 n:Nat
 b:Frame
 q0:Array Oper
 o0:Oper
 rest:Code
 q1:Array Oper
 oc:Oper
 cx:Operand
 wait:FuncId
structure Jy.OK(P:Program)(ty:TypeId)(x:Jy):Prop where
 ff:AV P x.f=true
 fn:∃fn,P.funcs[x.f]?=some fn∧fn.results= #[]∧fn.norace=false
 bf:x.b.fn=x.f∧x.b.kind= .deferred∧x.b.roundOf=none
 enter:∀p1 p2:Value,goE P ty 3 (Frame.enter P x.f #[p1,p2] .deferred) []=some (Frame.enter P x.wait #[p1] .normal,[aI x.b (A x.n (fZ 0 [p1,p2]) []) [.inRegion x.q0 [0],.code x.rest]])
 op0:x.q0[0]?=some x.o0
 rest:∃id,gQ [x.rest]=[.region id x.q1 false]
 size:x.q1.size=2
 op:x.q1[1]?=some x.oc∧x.oc.guard=none∧∃ats,x.oc.op= .call {callee:= .builtin .close,args:= #[x.cx],argTypes:=ats}
theorem gG(h:gQ l=[]):l=[]:=by
 cases l with
 |nil=>rfl
 |cons y l=>
  exfalso
  have:∀c:Code,iR c≠[]:=by
   intro c
   induction c with
   |seq p q ihp ihq=>simp[iR,ihp]
   |_=>simp[iR]
  simp only[gQ,List.flatMap_cons,List.append_eq_nil_iff] at h
  exact this y h.1
theorem BU{b:Frame}(h:b.roundOf=none)(a:Act)(todo:List Item):aI b a todo=b.at a todo:=by simp[aI,Frame.at,h]
def Rt(P:Program):Sem Next→Nat→Option (Obj×Value)
 | .new o k,b=>match bh P (k b) with
  |some (.value v)=>some (o,v)
  |_=>none
 | .program k,b=>Rt P (k P) b
 |_,_=>none
theorem Fc{o:Obj}{f:Nat→Value}{s:St}{K:Next→St→Prop}{E:Halt→St→Prop}(hK:∀b,¬s.knows b→K (.value (f b)) ⟨s.ro,(b,o)::s.rw⟩):∀(x:Sem Next),(∀b,Rt P x b=some (o,f b))→bH P x s K E:=by
 intro x
 induction x with
 |new o' k ih=>
  intro h b hb
  have h':=h b
  simp only[Rt] at h'
  split at h'<;>try (cases h';done)
  rename_i v hv
  simp only[Option.some.injEq,Prod.mk.injEq] at h'
  obtain⟨rfl,rfl⟩:=h'
  exact n6 hv (hK b hb)
 |program k ih=>intro h;exact ih P h
 |_=>intro h;have:=h 0;simp[Rt] at this
structure rn where
 f:FuncId
 n:Nat
 fn:Func
 o0:Array Oper
 o1:Array Oper
 o2:Array Oper
 o3:Array Oper
 o4:Array Oper
 o5:Array Oper
 o6:Array Oper
 o7:Array Oper
 o8:Array Oper
 o9:Array Oper
 o10:Array Oper
 o11:Array Oper
 Bs:Array Oper
 o13:Array Oper
 o14:Array Oper
 a1:Oper
 a2:Oper
 a6:Oper
 a7:Oper
 a9:Oper
 PU:Oper
 lb:Code
 Cy:Code
 rb:Code
 ux:Code
 c4:Operand
 c12:Operand
 b0:Nat
 b1:Nat
 b2:Nat
 b3:Nat
 fin:List Code
 add:FuncId
 alh:Operand
 sp:Operand
 sk:Operand
 rc:Operand
 wk:PV
 cl:Jy
 ty:TypeId
 mx:Nat
def cE(l:List Code)(i:Nat):Array Oper:=match l[i]? with
 |some (.region _ ops _)=>ops
 |_=> #[]
def eH(o:Array Oper)(i:Nat):Oper:=(o[i]?).getD default
def ab1(l:List Code)(i:Nat):Nat×Code:=match l[i]? with
 |some (.block id (.loop c))=>(id,c)
 |_=>(0,.skip)
def V3(l:List Code)(i:Nat):Nat×Code:=match l[i]? with
 |some (.block id c)=>(id,c)
 |_=>(0,.skip)
def afX(l:List Code)(i:Nat):Operand:=match l[i]? with
 |some (.cond c _ _)=>c
 |_=> .func 0
def GI(o:Oper):FuncId:=match o.op with
 | .call ⟨.value (.func f),_,_⟩=>f
 | .defer ⟨.value (.func f),_,_⟩=>f
 |_=>0
def anH(o:Oper)(i:Nat):Operand:=match o.op with
 | .call ⟨_,xs,_⟩=>(xs[i]?).getD (.func 0)
 |_=> .func 0
def aD4(o:Oper):Operand:=match o.op with
 | .go ⟨.value x,_,_⟩=>x
 |_=> .func 0
def anj(o:Oper):FuncId:=match o.op with
 | .makeFunc (.func f) _ _=>f
 |_=>0
def chanOf(o:Oper):Operand:=match o.op with
 | .recv _ c _=>c
 | .send c _=>c
 |_=> .func 0
def aoP(o:Oper):Operand:=match o.op with
 | .send _ x=>x
 |_=> .func 0
def typeOf(o:Oper):TypeId:=match o.op with
 | .alloc t=>t
 |_=>0
def codeOf(P:Program)(f:FuncId):List Code:=match P.funcs[f]? with
 |some fn=>match fn.body with
  |some c=>iR c
  |none=>[]
 |none=>[]
def tmpsOf(P:Program)(f:FuncId):Nat:=match P.funcs[f]? with
 |some fn=>fn.ntmps
 |none=>0
def ao0(P:Program)(f:FuncId):Code:=match P.funcs[f]? with
 |some fn=>match fn.body with
  |some (.seq _ c)=>c
  |_=> .skip
 |none=> .skip
def atS(P:Program)(f:FuncId)(mx:Nat):rn:=
 let l:=codeOf P f
 let lb:=ab1 l 4
 let ll:=iR lb.2
 let bb:=V3 ll 2
 let bl:=iR bb.2
 let rb:=ab1 l 8
 let rl:=iR rb.2
 let rbb:=V3 rl 2
 let rbl:=iR rbb.2
 let wf:=anj (eH (cE bl 2) 0)
 let wl:=codeOf P wf
 let cf:=anj (eH (cE l 5) 0)
 let cl:=codeOf P cf
 {f,n:=tmpsOf P f,fn:=(P.funcs[f]?).getD default,o0:=cE l 0,o1:=cE l 1,o2:=cE l 2,o3:=cE l 3,o4:=cE ll 0,o5:=cE bl 0,o6:=cE bl 1,o7:=cE bl 2,o8:=cE ll 3,
  o9:=cE l 5,o10:=cE l 6,o11:=cE l 7,Bs:=cE rl 0,o13:=cE rbl 0,o14:=cE rbl 1,
  a1:=eH (cE l 1) 0,a2:=eH (cE l 2) 0,a6:=eH (cE bl 1) 0,a7:=eH (cE bl 2) 1,a9:=eH (cE l 5) 1,PU:=eH (cE rl 0) 0,
  lb:=lb.2,Cy:=bb.2,rb:=rb.2,ux:=rbb.2,c4:=afX ll 1,c12:=afX rl 1,b0:=lb.1,b1:=bb.1,b2:=rb.1,b3:=rbb.1,fin:=(l.drop 9).dropLast,
  add:=GI (eH (cE bl 1) 0),alh:=anH (eH (cE bl 1) 0) 0,sp:=aD4 (eH (cE bl 2) 1),sk:=aD4 (eH (cE l 5) 1),rc:=chanOf (eH (cE rl 0) 0),
  wk:={f:=wf,n:=tmpsOf P wf,cl:=wl.dropLast,o7:=cE wl (wl.length-1),o:=eH (cE wl (wl.length-1)) 2,sc:=chanOf (eH (cE wl (wl.length-1)) 2),sv:=aoP (eH (cE wl (wl.length-1)) 2),done:=GI (eH (cE wl 0) 0)},
  cl:={f:=cf,n:=tmpsOf P cf,b:={(default:Frame) with fn:=cf,kind:= .deferred,roundOf:=none},q0:=cE cl 0,o0:=eH (cE cl 0) 0,rest:=ao0 P cf,q1:=cE cl 1,oc:=eH (cE cl 1) 1,cx:=anH (eH (cE cl 1) 1) 0,wait:=GI (eH (cE cl 0) 0)},
  ty:=typeOf (eH (cE l 2) 0),mx}
theorem wO{k:Nat}:∀b∈List.replicate k W,b=W:=fun b hb=>(List.mem_replicate.1 hb).2
section
variable {ia:Os} {bZ:Array (Nat×ByteArray)} {P:Program} {T:Goroutine→St→Prop} {b:Frame} {k:List Item} {cs:List Frame} {a:Act} {s:St} {n LF:Nat} {call:bS} {ops:Array Oper}
 {ρ:aR} {ce e:Env} {m:Mem} {x:rn} {Wg Ch:Nat} {L:Nat→Option Obj} {Q:Machine→Outcome→World→Trace→Prop}
theorem Ed{rest:List Nat}{o:Oper}(ho:ops[i]?=some o) (hg:o.guard=none) (hk:b.kind≠ .early) (hb:b.roundOf=none) {y:Operand} (aw:o.op= .go ⟨.value y,#[],ats⟩) {f:FuncId} (hy:a.eval y= .func (.func f) #[] ca) (w:World):
 stepG P main (G (aI b a (.inRegion ops (i::rest)::k)) cs) w= .spawn (G (aI b (a.put o.dst undef) (.inRegion ops rest::k)) cs) (born P {target:= .fn (.func f) ca,args:= #[]}) w #[]:=by
 have hw:Region.wanted o (yielded ops a.tmps)=true:=db o _ hg
 have hx:execOp a.eval o=Sem.pure (.spawn {target:= .fn (.func f) ca,args:= #[]}):=by
  simp only[execOp,aw,resolve,hy,Deferred.ofValue]
  show Sem.pure (Next.spawn {target:= .fn (.func f) ca,args:= #[]++Array.map a.eval #[]})=_
  simp
 rw[BU hb,BU hb]
 have:=stepG_spawn (P:=P) (main:=main) (b:=b) (a:=a) (k:=k) (cs:=cs) (w:=w) (w':=w) (d:={target:= .fn (.func f) ca,args:= #[]}) ho hw hk (rest:=rest) (by rw[hx];rfl) rfl
 rw[this,listed_none (by rw[hx];rfl)]
end
theorem tE:∀ {x:Sem α} {a:α},bh P x=some a→∀(w:World) (es:Array Event),x.runT P w es=(.ok a w,es)
 | .pure _,_,h,w,es=>by simp only[bh,Option.some.injEq] at h;subst h;rfl
 | .program k,_,h,w,es=>tE (x:=k _) h w es
def C0(P:Program):Class:=fun main T=>main=true∧∃ia bZ Post,T=T0 P ia bZ Post
theorem xe:∀main T,C0 P main T→Closed P main T:=by
 rintro _ _ ⟨rfl,ia,bZ,Post,rfl⟩
 exact sr P ia bZ Post
abbrev CP(P:Program):Class:=fun main T=>Closed P main T
theorem eW:∀main T,CP P main T→Closed P main T:=fun _ _ h=>h
abbrev Cells:=List (Nat×Obj)
variable {Φ:Value→Cells→Prop} {B X YW rw:Cells}
def Sub(ro aL:Nat→Option Obj):Prop:=∀b o,ro b=some o→aL b=some o
theorem Sub.refl(ro:Nat→Option Obj):Sub ro ro:=fun _ _ h=>h
theorem Sub.trans{a b c:Nat→Option Obj}(h:Sub a b)(k:Sub b c):Sub a c:=fun x o hx=>k x o (h x o hx)
structure YR(fr B:Cells)(ro:Nat→Option Obj)(s1 s:St):Prop where
 rw:s.rw.Perm (s1.rw++fr)
 aA:∀b o,s1.ro b=some o→s.ro b=some o∨(b,o)∈B
 keep:Sub ro s.ro
theorem xc(hT:Closed P main T){g:Goroutine}{s:St}(hg:g.status= .running)(h:(∃w,aP s w)→T g s):T g s:=by
 by_cases hw:∃w,aP s w
 ·exact h hw
 ·exact hT.step g s hg fun w pn=>absurd ⟨w,pn⟩ hw
theorem Ag(hT:Closed P main T){fr:Cells}(hB:∀x∈B,x∈fr)(ro:Nat→Option Obj):
 Closed P main (fun g s1=>g.status= .running→∀s,YR fr B ro s1 s→T g s) where
 step:=fun g s1 hg h _ s hc=>by
  refine hT.step g s hg fun w hw=>?_
  have Mz:∀x,x∈s.rw↔x∈s1.rw∨x∈fr:=fun x=>by rw[hc.rw.mem_iff,List.mem_append]
  have ma:=(hc.rw.map (·.1)).nodup_iff.1 hw.nodup
  rw[List.map_append,List.nodup_append] at ma
  obtain⟨hn1,hn2,hn3⟩:=ma
  have aA1:∀b o o',(b,o)∈s1.rw→(b,o')∈fr→False:=fun b o o' h1 h2=>hn3 b (List.mem_map.2 ⟨_,h1,rfl⟩) b (List.mem_map.2 ⟨_,h2,rfl⟩) rfl
  have aQU:aP s1 w:=by
   refine⟨fun b o hb=>?_,fun b o hb=>hw.rw b o ((Mz _).2 (.inl hb)),hn1,fun b o hb=>?_⟩
   ·rcases hc.aA b o hb with h1|h1
    ·exact hw.ro b o h1
    ·exact hw.rw b o ((Mz _).2 (.inr (hB _ h1)))
   ·cases hr:s1.ro b with
    |none=>rfl
    |some o'=>
     rcases hc.aA b o' hr with h1|h1
     ·rw[hw.apart b o ((Mz _).2 (.inl hb))] at h1;cases h1
     ·exact(aA1 b o o' hb (hB _ h1)).elim
  obtain⟨g',w',es,yc,bM,bN,ht,hT'⟩:=h w aQU
  have adS:∀b o,(b,o)∈fr→b <w.heap.size:=fun b o hb=>hw.lt (.inr ((Mz _).2 (.inr hb)))
  have ar4:∀b o,(b,o)∈fr→¬s1.iV b:=fun b o hb ⟨o',D5⟩=>aA1 b o' o D5 hb
  have aq4:∀b,s.ro b≠none→¬s1.iV b:=fun b hb ⟨o',D5⟩=>hb (hw.apart b o' ((Mz _).2 (.inl D5)))
  have ac1:∀b,s.ro b≠none→b <w.heap.size:=fun b hb=>by
   cases hr:s.ro b with
   |none=>exact absurd hr hb
   |some o=>exact hw.lt (.inl hr)
  have aAO:∀b o,(b,o)∈fr→w'.heap[b]?=some o:=fun b o hb=>by
   rw[ht.frame b (adS b o hb) (ar4 b o hb)]
   exact hw.rw b o ((Mz _).2 (.inr hb))
  classical
  let aL:Nat→Option Obj:=fun b=>if ∃o,(b,o)∈fr then none else match yc.ro b with
   |some o=>some o
   |none=>s.ro b
  have aq5:∀b o,aL b=some o→¬(∃o,(b,o)∈fr)∧(yc.ro b=some o∨(yc.ro b=none∧s.ro b=some o)):=fun b o hb=>by
   simp only[aL] at hb
   split at hb
   ·cases hb
   ·rename_i hn
    refine⟨hn,?_⟩
    cases h1:yc.ro b with
    |none=>rw[h1] at hb;exact .inr ⟨rfl,hb⟩
    |some o2=>rw[h1] at hb;exact .inl hb
  have aQT:aP ⟨aL,yc.rw++fr⟩ w':=by
   refine⟨fun b o hb=>?_,fun b o hb=>?_,?_,fun b o hb=>?_⟩
   ·obtain⟨_,h1| ⟨_,h2⟩⟩:=aq5 b o hb
    ·exact ht.jQ.ro b o h1
    ·have ee:s.ro b≠none:=by rw[h2];simp
     rw[ht.frame b (ac1 b ee) (aq4 b ee)]
     exact hw.ro b o h2
   ·rcases List.mem_append.1 hb with hb|hb
    ·exact ht.jQ.rw b o hb
    ·exact aAO b o hb
   ·show ((yc.rw++fr).map (·.1)).Nodup
    rw[List.map_append,List.nodup_append]
    refine⟨ht.jQ.nodup,hn2,fun x hx y hy e=>?_⟩
    obtain⟨⟨b,o⟩,h1,rfl⟩:=List.mem_map.1 hx
    obtain⟨⟨b2,o2⟩,h2,rfl⟩:=List.mem_map.1 hy
    dsimp only at e;subst e
    rcases ht.own b ⟨o,h1⟩ with h3|h3
    ·exact absurd (adS b o2 h2) (by omega)
    ·exact ar4 b o2 h2 h3
   ·show aL b=none
    rcases List.mem_append.1 hb with hb|hb
    ·cases hr:aL b with
     |none=>rfl
     |some o'=>
      obtain⟨hn,h1| ⟨_,h2⟩⟩:=aq5 b o' hr
      ·rw[ht.jQ.apart b o hb] at h1;cases h1
      ·have ee:s.ro b≠none:=by rw[h2];simp
       rcases ht.own b ⟨o,hb⟩ with h3|h3
       ·exact absurd (ac1 b ee) (by omega)
       ·exact(aq4 b ee h3).elim
    ·simp only[aL]
     rw[if_pos ⟨o,hb⟩]
  have aA6:YR fr B ro yc ⟨aL,yc.rw++fr⟩:=by
   refine⟨.refl _,fun b o hb=>?_,fun b o hb=>?_⟩
   ·by_cases hf:∃o,(b,o)∈fr
    ·obtain⟨o2,G6⟩:=hf
     have e1:=ht.jQ.ro b o hb
     rw[aAO b o2 G6] at e1
     cases e1
     rcases ht.JO b (by rw[hb];simp) with h1|h1|h1
     ·exact absurd (adS b _ G6) (by omega)
     ·cases hr:s1.ro b with
      |none=>exact absurd hr h1
      |some o3=>
       rcases hc.aA b o3 hr with h3|h3
       ·rw[hw.apart b _ ((Mz _).2 (.inr G6))] at h3;cases h3
       ·have e3:=hw.rw b o3 ((Mz _).2 (.inr (hB _ h3)))
        rw[hw.rw b _ ((Mz _).2 (.inr G6))] at e3
        cases e3
        exact .inr h3
     ·exact(ar4 b _ G6 h1).elim
    ·left
     show aL b=some o
     simp only[aL]
     rw[if_neg hf,hb]
   ·have h1:=hc.keep b o hb
    have ee:s.ro b≠none:=by rw[h1];simp
    have hf:¬ ∃o,(b,o)∈fr:=fun⟨o2,G6⟩=>ee (hw.apart b o2 ((Mz _).2 (.inr G6)))
    show aL b=some o
    simp only[aL]
    rw[if_neg hf]
    cases h2:yc.ro b with
    |none=>exact h1
    |some o2=>
     have e1:=ht.jQ.ro b o2 h2
     rw[ht.frame b (ac1 b ee) (aq4 b ee),hw.ro b o h1] at e1
     exact e1.symm
  refine⟨g',w',es,⟨aL,yc.rw++fr⟩,bM,bN,⟨aQT,ht.size,fun b hb hn=>?_,fun b hb=>?_,fun b hb=>?_,ht.os,ht.output,ht.tape,fun e he=>?_,ht.low⟩,hT' bN _ aA6⟩
  ·exact ht.frame b hb fun⟨o,ho⟩=>hn ⟨o,(Mz _).2 (.inl ho)⟩
  ·obtain⟨o,ho⟩:=hb
   rcases List.mem_append.1 ho with ho|ho
   ·rcases ht.own b ⟨o,ho⟩ with h3| ⟨o3,h3⟩
    ·exact .inl h3
    ·exact .inr ⟨o3,(Mz _).2 (.inl h3)⟩
   ·exact .inr ⟨o,(Mz _).2 (.inr ho)⟩
  ·have hb:aL b≠none:=hb
   cases hr:aL b with
   |none=>exact absurd hr hb
   |some o=>
    obtain⟨hn,h1| ⟨_,h2⟩⟩:=aq5 b o hr
    ·rcases ht.JO b (by rw[h1];simp) with h3|h3| ⟨o3,h3⟩
     ·exact .inl h3
     ·cases h4:s1.ro b with
      |none=>exact absurd h4 h3
      |some o4=>
       rcases hc.aA b o4 h4 with h5|h5
       ·exact .inr (.inl (by rw[h5];simp))
       ·exact absurd ⟨_,hB _ h5⟩ hn
     ·exact .inr (.inr ⟨o3,(Mz _).2 (.inl h3)⟩)
    ·exact .inr (.inl (by rw[h2];simp))
  ·have Qi:=ht.u3 e he
   have amO:∀b,(∃o,(b,o)∈s1.rw)→s.iV b:=fun b ⟨o,ho⟩=>⟨o,(Mz _).2 (.inl ho)⟩
   have azM:∀b,s1.ro b≠none→s.ro b≠none∨s.iV b:=fun b hb=>by
    cases h4:s1.ro b with
    |none=>exact absurd h4 hb
    |some o4=>
     rcases hc.aA b o4 h4 with h5|h5
     ·exact .inl (by rw[h5];simp)
     ·exact .inr ⟨o4,(Mz _).2 (.inr (hB _ h5))⟩
   unfold G1 at*
   split at Qi
   ·refine⟨Qi.1,?_⟩
    rcases Qi.2 with h1|h1| ⟨h1,h2⟩
    ·exact .inl h1
    ·exact .inr (.inl (amO _ h1))
    ·rcases azM _ h2 with h3|h3
     ·exact .inr (.inr ⟨h1,h3⟩)
     ·exact .inr (.inl h3)
   ·refine⟨Qi.1,?_⟩
    rcases Qi.2 with h1|h1| ⟨h1,h2⟩
    ·exact .inl h1
    ·exact .inr (.inl (amO _ h1))
    ·rcases azM _ h2 with h3|h3
     ·exact .inr (.inr ⟨h1,h3⟩)
     ·exact .inr (.inl h3)
   ·exact Qi
   ·exact Qi
 mono:=fun g s1 yc hl h bN s hc=>by
  refine xc hT bN fun⟨w,hw⟩=>?_
  obtain⟨R,hR,zw⟩:=hl
  have Mz:∀x,x∈s.rw↔x∈yc.rw∨x∈fr:=fun x=>by rw[hc.rw.mem_iff,List.mem_append]
  have asL:∀x,x∈R→x∈s.rw:=fun x hx=>(Mz x).2 (.inl (hR.mem_iff.2 (List.mem_append_right _ hx)))
  classical
  let oZ:Nat→Option Obj:=fun b=>if hx:∃o,(b,o)∈R then some (Classical.choose hx) else s.ro b
  have FH:∀b o,(b,o)∈R→oZ b=some o:=fun b o hb=>by
   have hx:∃o,(b,o)∈R:=⟨o,hb⟩
   simp only[oZ]
   rw[dif_pos hx]
   have h1:=hw.rw b _ (asL _ (Classical.choose_spec hx))
   rw[hw.rw b o (asL _ hb)] at h1
   cases h1;rfl
  have iy:∀b o,s.ro b=some o→oZ b=some o:=fun b o hb=>by
   simp only[oZ]
   rw[dif_neg]
   ·exact hb
   ·rintro⟨o2,G6⟩
    rw[hw.apart b o2 (asL _ G6)] at hb;cases hb
  refine hT.mono g ⟨oZ,s1.rw++fr⟩ s ⟨R,?_,fun b o hb=>?_⟩ (h bN _ ⟨.refl _,fun b o hb=>?_,fun b o hb=>iy b o (hc.keep b o hb)⟩)
  ·refine hc.rw.trans ((List.Perm.append_right fr hR).trans ?_)
   rw[List.append_assoc,List.append_assoc]
   exact List.Perm.append_left _ List.perm_append_comm
  ·simp only[oZ] at hb
   split at hb
   ·rename_i hx
    simp only[Option.some.injEq] at hb
    exact .inr (hb▸Classical.choose_spec hx)
   ·exact .inl hb
  ·rcases zw b o hb with h1|h1
   ·exact(hc.aA b o h1).imp (iy b o) id
   ·exact .inl (FH b o h1)
theorem Fn.frame{f:FuncId}{s1 s:St}{R:Ending→St→Prop}{fr:Cells}{ro:Nat→Option Obj}(hf:Fn (CP P) P f args s1 R)(hB:∀x∈B,x∈fr)(hc:YR fr B ro s1 s):
 Fn (CP P) P f args s (fun en s'=>∃yc,R en yc∧YR fr B ro yc s'):=
 fun main T hT c cs k1 k2=>hf main _ (Ag hT hB ro) c cs (fun v yc hv _ s' sS=>k1 v s' ⟨yc,hv,sS⟩) (fun ch yc hv _ s' sS=>k2 ch s' ⟨yc,hv,sS⟩) rfl s hc
def eG(P:Program)(f:FuncId)(args:List Value)(ro:Nat→Option Obj)(own:Cells)(Φ:Value→Cells→Prop):Prop:=
 Fn (CP P) P f ⟨args⟩ ⟨ro,own⟩ (fun en s'=>∃v X,en= .returned v∧s'=⟨ro,X⟩∧Φ v X)
abbrev dL(P:Program)(f:FuncId)(args:List Value)(ro:Nat→Option Obj)(V:Value):Prop:=eG P f args ro [] (fun v X=>v=V∧X=[])
theorem eG.mono{f:FuncId}{args:List Value}{ro:Nat→Option Obj}{own:Cells}{Φ':Value→Cells→Prop}(h:eG P f args ro own Φ)(hk:∀v X,Φ v X→Φ' v X):eG P f args ro own Φ':=
 Fn.mono h fun _ _ ⟨v,X,h1,h2,h3⟩=>⟨v,X,h1,h2,hk v X h3⟩
theorem Lq{ro:Nat→Option Obj}:Ext ⟨ro,[]⟩ ⟨ro,rw⟩:=fun _ _ h=>h.elim .inl (fun h=>by cases h)
theorem ud{ro aL:Nat→Option Obj}(h:Sub ro aL):Ext ⟨ro,[]⟩ ⟨aL,[]⟩:=fun b o hb=>hb.elim (fun hb=> .inl (h b o hb)) (fun hb=>by cases hb)
def bK(ro:Nat→Option Obj)(v:Value)(sz:Nat)(enc:α→List Value)(ps:List α):Prop:=
 ∃a b o cap,v= .slice a ps.length cap∧ps.length≤cap∧(∀k,k <ps.length→a=some ⟨b,o,none⟩)∧∀i p,ps[i]?=some p→cg ⟨ro,[]⟩ b (o+i*sz) sz (enc p)
theorem bK.nil(ro:Nat→Option Obj)(sz:Nat)(enc:α→List Value)(a:Option Addr)(cap:Nat):bK ro (.slice a 0 cap) sz enc []:=⟨a,0,0,cap,rfl,Nat.zero_le _,fun k h=>absurd h (Nat.not_lt_zero k),fun i p hp=>by simp at hp⟩
theorem bK.up{ro aL:Nat→Option Obj}{v:Value}{enc:α→List Value}{ps:List α}(h:bK ro v sz enc ps)(hs:Sub ro aL):bK aL v sz enc ps:=by
 obtain⟨a,b,o,cap,h1,h4,h2,h3⟩:=h
 exact⟨a,b,o,cap,h1,h4,h2,fun i p hp=>(h3 i p hp).ext (ud hs)⟩
section rules
variable {P:Program} {C:Class} {fn:FuncId} {ax:Option Nat} {Q:Post} {s:St} {n:Nat} {env:Env} {D:List Deferred}
variable {ops:Array Oper} {i:Nat} {rest:List Nat} {dst:Option Tmp} {ty:TypeId} {pos:String} {cT:Array Edge} {g:Option (Nat×Bool)}
variable {T:TypeId} {d:TypeDesc} {sz bu:Nat} {z:List Value} {ag:Bool} {ro:Nat→Option Obj} {rw:Cells}
theorem ab.more{a:Act}(hC:∀main T,C main T→Closed P main T){s':St}(hl:s.le s')(h:ab C fn ax ops todo Q a s):ab C fn ax ops todo Q a s':=
 fun main T hT b k cs h1 h2 h3 h4=>(hC _ _ hT).mono _ _ _ hl (h main T hT b k cs h1 h2 h3 h4)
theorem aiL{a:Act}(hC:∀main T,C main T→Closed P main T)(h:(∃w,aP s w)→ab C fn ax ops todo Q a s):ab C fn ax ops todo Q a s:=
 fun main T hT b k cs h1 h2 h3 h4=>xc (hC _ _ hT) rfl fun hw=>h hw main T hT b k cs h1 h2 h3 h4
theorem an0{a:Act}{c:Code}(hC:∀main T,C main T→Closed P main T)(h:(∃w,aP s w)→Wp C fn ax c Q a s):Wp C fn ax c Q a s:=
 fun main T hT b k cs h1 h2 h3 h4=>xc (hC _ _ hT) rfl fun hw=>h hw main T hT b k cs h1 h2 h3 h4
theorem afl{f:FuncId}{R:Ending→St→Prop}(hC:∀main T,C main T→Closed P main T)(h:(∃w,aP s w)→Fn C P f args s R):Fn C P f args s R:=
 fun main T hT c cs h1 h2=>xc (hC _ _ hT) rfl fun hw=>h hw main T hT c cs h1 h2
theorem VG(hp:rw.Perm (X++s.rw))(hw:∃w,aP ⟨s.ro,rw⟩ w):∃aL,Sub s.ro aL∧(∀x∈X,aL x.1=some x.2)∧(⟨aL,s.rw⟩:St).le ⟨s.ro,rw⟩:=by
 classical
 obtain⟨w,hw⟩:=hw
 have yX:∀x,x∈X→x∈rw:=fun x hx=>hp.mem_iff.2 (List.mem_append_left _ hx)
 refine⟨fun b=>if hx:∃o,(b,o)∈X then some (Classical.choose hx) else s.ro b,fun b o hb=>?_,fun x hx=>?_,X,hp.trans List.perm_append_comm,fun b o hb=>?_⟩
 ·simp only
  rw[dif_neg]
  ·exact hb
  ·rintro⟨o2,G6⟩
   have:=hw.apart b o2 (yX _ G6)
   rw[show s.ro b=none from this] at hb;cases hb
 ·obtain⟨b,o⟩:=x
  have lO:∃o,(b,o)∈X:=⟨o,hx⟩
  simp only
  rw[dif_pos lO]
  have h1:=hw.rw b _ (yX _ (Classical.choose_spec lO))
  rw[hw.rw b o (yX _ hx)] at h1
  cases h1;rfl
 ·simp only at hb
  split at hb
  ·rename_i hx
   simp only[Option.some.injEq] at hb
   exact .inr (hb▸Classical.choose_spec hx)
  ·exact .inl hb
theorem Wn{a:Act}{c:Code}(hC:∀main T,C main T→Closed P main T)(hp:YW.Perm (X++rw))(h:∀aL,Sub ro aL→(∀x∈X,aL x.1=some x.2)→Wp C fn ax c Q a ⟨aL,rw⟩):Wp C fn ax c Q a ⟨ro,YW⟩:=
 an0 hC fun hw=>by
  obtain⟨aL,h1,h2,h3⟩:=VG (s:=⟨ro,rw⟩) hp hw
  exact(h aL h1 h2).more hC h3
theorem Rn{a:Act}(hC:∀main T,C main T→Closed P main T)(hp:YW.Perm (X++rw))(h:∀aL,Sub ro aL→(∀x∈X,aL x.1=some x.2)→ab C fn ax ops todo Q a ⟨aL,rw⟩):ab C fn ax ops todo Q a ⟨ro,YW⟩:=
 aiL hC fun hw=>by
  obtain⟨aL,h1,h2,h3⟩:=VG (s:=⟨ro,rw⟩) hp hw
  exact(h aL h1 h2).more hC h3
theorem eG.use{f:FuncId}{own fr:Cells}(hp:s.rw.Perm (own++fr))(hB:∀x∈B,x∈fr)(hf:∀aA,Sub s.ro aA→(∀x∈B,aA x.1=some x.2)→eG P f vs aA own Φ):
 Fn (CP P) P f ⟨vs⟩ s (fun en s'=>∃v X,en= .returned v∧Φ v X∧(⟨s.ro,X++fr⟩:St).le s'):=by
 refine afl eW fun⟨w,hw⟩=>?_
 classical
 have yX:∀x,x∈B→x∈s.rw:=fun x hx=>hp.mem_iff.2 (List.mem_append_right _ (hB x hx))
 let aA:Nat→Option Obj:=fun b=>if hx:∃o,(b,o)∈B then some (Classical.choose hx) else s.ro b
 have h1:Sub s.ro aA:=fun b o hb=>by
  simp only[aA]
  rw[dif_neg]
  ·exact hb
  ·rintro⟨o2,G6⟩
   rw[hw.apart b o2 (yX _ G6)] at hb;cases hb
 have h2:∀x∈B,aA x.1=some x.2:=fun⟨b,o⟩ hx=>by
  have lO:∃o,(b,o)∈B:=⟨o,hx⟩
  simp only[aA]
  rw[dif_pos lO]
  have h3:=hw.rw b _ (yX _ (Classical.choose_spec lO))
  rw[hw.rw b o (yX _ hx)] at h3
  cases h3;rfl
 refine Fn.mono (Fn.frame (fr:=fr) (B:=B) (ro:=s.ro) (s:=s) (hf aA h1 h2) hB ⟨hp,fun b o hb=>?_,Sub.refl _⟩) fun en s' CG=>?_
 ·simp only[aA] at hb
  split at hb
  ·rename_i hx
   simp only[Option.some.injEq] at hb
   exact .inr (hb▸Classical.choose_spec hx)
  ·exact .inl hb
 ·obtain⟨yc,⟨v,X,rfl,rfl,p6⟩,hc⟩:=CG
  exact⟨v,X,rfl,p6,[],by simpa using hc.rw,fun b o hb=> .inl (hc.keep b o hb)⟩
theorem aby(hC:∀main T,C main T→Closed P main T){f:FuncId}{own fr:Cells}(ho:ops[i]?=some ⟨dst,.call ⟨.value x,xs,at_⟩,ty,pos,cT,g⟩) (hw:av ops n env g=true)
 (hv:a8 n env x=some (.func (.func f) fi ca)) (ff:FF P f) (hx:u3 n env xs=some vs) (rJ:fi++⟨vs⟩++ca=⟨ws⟩) (hp:s.rw.Perm (own++fr)) (hB:∀x∈B,x∈fr) (hf:∀aA,Sub s.ro aA→(∀x∈B,aA x.1=some x.2)→eG P f ws aA own Φ)
 (h:∀v X,Φ v X→ab C fn ax ops rest Q (A n (upd dst v env) D) ⟨s.ro,X++fr⟩):ab C fn ax ops (i::rest) Q (A n env D) s:=
 tR hC ho hw hv ff hx rJ ((eG.use hp hB hf).weaken hC) (fun v' s' hr=>by obtain⟨v,X,e,h1,h2⟩:=hr;cases e;exact(h _ X h1).more hC h2) (fun ch s' hr=>by obtain⟨_,_,e,_⟩:=hr;cases e) (fun s' hr=>by obtain⟨_,_,e,_⟩:=hr;cases e)
theorem dL.use{f:FuncId}{V:Value}{sz:St}(hez:Ext s sz)(hf:∀aA,(∀b o,s.has b o→aA b=some o)→dL P f vs aA V):Fn (CP P) P f ⟨vs⟩ sz (fun e s'=>e= .returned V∧sz.le s'):=by
 refine afl eW fun⟨w,hw⟩=>?_
 refine Fn.mono (eG.use (s:=sz) (own:=[]) (fr:=sz.rw) (B:=sz.rw) (.refl _) (fun _ h=>h) (fun aA h1 h2=>hf aA fun b o hb=>?_)) fun en s' CG=>?_
 ·rcases hez b o hb with h3|h3
  ·exact h1 b o h3
  ·exact h2 _ h3
 ·obtain⟨v,X,e,⟨h1,h2⟩,h3⟩:=CG
  subst h1 h2
  exact⟨e,h3⟩
theorem NU(hC:∀main T,C main T→Closed P main T){f:FuncId}{V:Value}{s0:St}(ho:ops[i]?=some ⟨dst,.call ⟨.value x,xs,at_⟩,ty,pos,cT,g⟩) (hw:av ops n env g=true)
 (hv:a8 n env x=some (.func (.func f) fi ca)) (ff:FF P f) (hx:u3 n env xs=some vs) (rJ:fi++⟨vs⟩++ca=⟨ws⟩) (hez:Ext s0 s) (hf:∀aA,(∀b o,s0.has b o→aA b=some o)→dL P f ws aA V) (h:ab C fn ax ops rest Q (A n (upd dst V env) D) s):ab C fn ax ops (i::rest) Q (A n env D) s:=
 tR hC ho hw hv ff hx rJ ((dL.use hez hf).weaken hC) (fun v' s' hr=>by obtain⟨e,h1⟩:=hr;cases e;exact h.more hC h1) (fun ch s' hr=>by cases hr.1) (fun s' hr=>by cases hr.1)
theorem EA{ro aA:Nat→Option Obj}(h:∀b o,(⟨ro,rw⟩:St).has b o→aA b=some o):Sub ro aA:=fun b o hb=>h b o (.inl hb)
theorem az.nv{v:Value}{T:TypeId}{enc:α→List Value}{ps:List α}{L:Cells}{aA:Nat→Option Obj}(h:az v sz T enc ps L)(hL:∀x∈L,aA x.1=some x.2):bK aA v sz enc ps:=by
 obtain⟨a,b,o,cap,h1,h2,h3⟩:=h.sl (s:=⟨aA,[]⟩) fun x hx=> .inl (hL x hx)
 refine⟨a,b,o,cap,h1,?_,h2,h3⟩
 rcases h with ⟨_,g2,_⟩| ⟨b',l,aSJ,g1,_,_,g4,_⟩
 ·subst g2;exact Nat.zero_le _
 ·rw[g1] at h1;cases h1;exact g4
end rules
section rules
variable {P:Program} {C:Class} {fn:FuncId} {ax:Option Nat} {Q:Post} {s:St} {n:Nat} {env:Env} {D:List Deferred}
variable {ops:Array Oper} {i:Nat} {rest:List Nat} {dst:Option Tmp} {ty:TypeId} {pos:String} {cT:Array Edge} {g:Option (Nat×Bool)}
variable {T:TypeId} {d:TypeDesc} {sz bu:Nat} {z:List Value} {ag:Bool}
theorem Rq(hC:∀main T,C main T→Closed P main T)(ho:ops[i]?=some ⟨dst,.range T x,ty,pos,cT,g⟩) (hw:av ops n env g=true) (tf:TF P T .string sz bu z ag) (hx:a8 n env x=some (.string b))
 (h:∀r,¬s.knows r→ab C fn ax ops rest Q (A n (upd dst (.pointer (some ⟨r,0,none⟩)) env) D) ⟨s.ro,(r,.stringIter b 0)::s.rw⟩):ab C fn ax ops (i::rest) Q (A n env D) s:=by
 refine bL hC ho hw (by simp) ?_
 simp only[execOp,Instr.range,aa,aW tf,aC hx,ae,nZ]
 intro r hr
 have:=h r hr
 rw[←aU] at this
 exact this
theorem Xj(hC:∀main T,C main T→Closed P main T){r p:Nat}{L R:Cells}(ho:ops[i]?=some ⟨dst,.next x true,ty,pos,cT,g⟩) (hw:av ops n env g=true) (hx:a8 n env x=some (.pointer (some ⟨r,0,none⟩))) (hs:s.rw=L++(r,.stringIter b p)::R) (hp:p <b.size)
 (h:ab C fn ax ops rest Q (A n (upd dst (.tuple ⟨[.bool true,.int .i64 p,.int .i32 (Utf8.decode b p).1]⟩) env) D) ⟨s.ro,L++(r,.stringIter b (p+(Utf8.decode b p).2))::R⟩):ab C fn ax ops (i::rest) Q (A n env D) s:=by
 refine bL hC ho hw (by simp) ?_
 simp only[execOp,Instr.next,aa,aC hx]
 refine cq (o:= .stringIter b p) (.inr (by rw[hs];simp)) rfl rfl ?_
 simp only[aa,hp,if_true]
 refine ez (o:= .stringIter b (p+(Utf8.decode b p).2)) rfl hs rfl ?_
 rw[←aU] at h
 exact h
theorem Xk(hC:∀main T,C main T→Closed P main T){r p:Nat}{L R:Cells}(ho:ops[i]?=some ⟨dst,.next x true,ty,pos,cT,g⟩) (hw:av ops n env g=true) (hx:a8 n env x=some (.pointer (some ⟨r,0,none⟩))) (hs:s.rw=L++(r,.stringIter b p)::R) (hp:¬p <b.size)
 (h:ab C fn ax ops rest Q (A n (upd dst (.tuple ⟨[.bool false]⟩) env) D) s):ab C fn ax ops (i::rest) Q (A n env D) s:=by
 refine bL hC ho hw (by simp) ?_
 simp only[execOp,Instr.next,aa,aC hx]
 refine cq (o:= .stringIter b p) (.inr (by rw[hs];simp)) rfl rfl ?_
 simp only[aa,hp,if_false]
 rw[←aU] at h
 exact h
end rules
theorem cg.part{s:St}{b m:Nat}(h:cg s b o m vs)(j k:Nat)(hj:sub vs j k=some ws):cg s b (o+j) k ws:=by
 obtain⟨l,t,fz,h1,h2⟩:=h
 obtain⟨h3,h4⟩:=sub_eq _ _ _ _ h2
 obtain⟨h5,h6⟩:=sub_eq _ _ _ _ hj
 refine⟨l,t,fz,h1,?_⟩
 have hlen:(o+j)+k≤l.length:=by
  rcases Nat.eq_zero_or_pos k with h0|h0
  ·subst h0
   have:o+j≤l.length:=by
    have h7:sub vs j 0=some ws:=hj
    have hjl:j≤vs.length:=by
     have key:∀(l:List Value) (j:Nat) (ws:List Value),sub l j 0=some ws→j≤l.length:=by
      intro l
      induction l with
      |nil=>intro j ws h;cases j with
       |zero=>simp
       |succ j=>simp[sub] at h
      |cons x l ih=>intro j ws h;cases j with
       |zero=>simp
       |succ j=>have:=ih j ws (by simpa [sub] using h);simp;omega
     exact key _ _ _ h7
    have hol:o+m≤l.length∨m=0:=by
     rcases Nat.eq_zero_or_pos m with h8|h8
     ·exact .inr h8
     ·left
      have:=h4 (m-1) vs[m-1] (by rw[List.getElem?_eq_getElem])
      have:=(List.getElem?_eq_some_iff.1 this).1
      omega
    rcases hol with h9|h9
    ·omega
    ·have aM3:∀(l:List Value) (o:Nat) (ws:List Value),sub l o 0=some ws→o≤l.length:=by
      intro l
      induction l with
      |nil=>intro j ws h;cases j with
       |zero=>simp
       |succ j=>simp[sub] at h
      |cons x l ih=>intro j ws h;cases j with
       |zero=>simp
       |succ j=>have:=ih j ws (by simpa [sub] using h);simp;omega
     rw[h9] at h2
     have:=aM3 _ _ _ h2
     omega
   omega
  ·have:=h6 (k-1) ws[k-1] (by rw[List.getElem?_eq_getElem])
   have:=h4 _ _ this
   have:=(List.getElem?_eq_some_iff.1 this).1
   omega
 rw[iQ hlen]
 congr 1
 apply List.ext_getElem?
 intro i
 by_cases hi:i <k
 ·have h7:=h4 _ _ (h6 i ws[i] (by rw[List.getElem?_eq_getElem]))
  rw[List.getElem?_take_of_lt hi,List.getElem?_drop,List.getElem?_eq_getElem (show i <ws.length by omega),←h7,Nat.add_assoc]
 ·rw[List.getElem?_eq_none (by simp;omega),List.getElem?_eq_none (by omega)]
def NF(ag:Bool)(l:List Value)(o sz:Nat):Option Value:=bif ag then (match sub l o sz with|some m=>some (.agg ⟨m⟩)|none=>none) else nth l o
theorem T3{s:St}{t:TypeId}{z:List Value}{d:TypeDesc}{bu:Nat}{ag:Bool}(tf:TF P t d sz bu z ag){l:List Value}{v:Value}(hv:NF ag l o sz=some v){k:Value→Sem α}{Q:α→St→Prop}{E:Halt→St→Prop}:bH P (part t ⟨l⟩ o >>= k) s Q E=bH P (k v) s Q E:=by
 cases ag with
 |false=>exact JI tf hv
 |true=>
  simp only[NF,cond_true] at hv
  split at hv
  ·rename_i m hm
   cases hv
   exact JH tf hm
  ·cases hv
section rules
variable {P:Program} {C:Class} {fn:FuncId} {ax:Option Nat} {Q:Post} {s:St} {n:Nat} {env:Env} {D:List Deferred}
variable {ops:Array Oper} {i:Nat} {rest:List Nat} {dst:Option Tmp} {ty:TypeId} {pos:String} {cT:Array Edge} {g:Option (Nat×Bool)}
variable {T:TypeId} {d:TypeDesc} {sz bu:Nat} {z:List Value} {ag:Bool}
theorem abw(hC:∀main T,C main T→Closed P main T){y:Operand}{E:TypeId}{k:IntKind}{ix:Int}{len:Nat}{d':TypeDesc}{iA uU:Nat}{z':List Value}{wG:Bool}{l:List Value}{v:Value}(ho:ops[i]?=some ⟨dst,.index T x y,ty,pos,cT,g⟩) (hw:av ops n env g=true)
 (tf:TF P T (.array len E) sz bu z ag) (jW:TF P E d' iA uU z' wG) (hx:a8 n env x=some (.agg ⟨l⟩)) (hy:a8 n env y=some (.int k ix)) (hi:0≤ix∧ix <len) (hv:NF wG l (ix.toNat*iA) iA=some v)
 (h:ab C fn ax ops rest Q (A n (upd dst v env) D) s):ab C fn ax ops (i::rest) Q (A n env D) s:=by
 refine bL hC ho hw (by simp) ?_
 simp only[execOp,Instr.index,aC hx,aC hy,asIntOf,asAgg,aa,ae,aW tf,hi,and_self,if_true,bV jW]
 rw[T3 jW hv,←aU] at*
 exact h
end rules
section rules
variable {P:Program} {C:Class} {fn:FuncId} {ax:Option Nat} {Q:Post} {s:St} {n:Nat} {env:Env} {D:List Deferred}
variable {ops:Array Oper} {i:Nat} {rest:List Nat} {dst:Option Tmp} {ty:TypeId} {pos:String} {cT:Array Edge} {g:Option (Nat×Bool)}
theorem wr(hC:∀main T,C main T→Closed P main T){l:List Nat}(hl:List.range ops.size=l)(h:ab C fn ax ops l Q (A n env D) s):Wp C fn ax (.region id ops false) Q (A n env D) s:=wp_region hC (hl▸h)
theorem on(hC:∀main T,C main T→Closed P main T){K:Act→St→Prop}(h:K (A n env D) s):ab C fn ax ops [] (lT K Q) (A n env D) s:=tM hC h
end rules
theorem c:∀main T,CP P main T→Closed P main T:=eW
end Go.L

/- Part 6 of the proof: a program logic, contracts, a theorem on goroutines. -/
import Derived.Test.YtjpghiajlddegaaGreatDoorA5
import Derived.Conc.Own2
import Derived.Conc.TokenWalk
set_option maxRecDepth 100000
set_option linter.all false
namespace Go.L
open Go Go.Conc
open Go.ConcR (KK wgBlock WgAt stA smA rd wr)
variable {s cs iq:List Frame} {P:Program} {f fr:Frame} {rest l:List Code} {main:Bool} {T:Goroutine→St→Prop} {vs ws:List Value} {x:Operand} {α:Type} {xs:Array Operand} {ca args fi:Array Value} {todo:List Nat} {W id o sz i:Nat} {b:ByteArray} {ats at_:Array TypeId} {ty:TypeId} {st sm:Int}
section
variable {P:Program} {main:Bool} {ty:TypeId} {W:Nat} {c:J0} {fr:Frame} {iq cs:List Frame} {w:World} {o:OV} {ws:List (Nat×Value)} {es:List Event} {bs:List Nat}
theorem toArr(P:Program)(fn:FuncId)(es:List Event):(ug P fn es).toArray=seen P fn es.toArray:=by simp[ug]
theorem acd(hm:fr.mode= .run)(h:ace P ty c fr iq=some (o,ws,es,bs))(hb:∀b∈bs,b=W)(hc:(c=jh∧bs=[])∨me ty W w c)(cs:List Frame)(main:Bool):o.is P main (G fr (iq++cs)) w (KH W w ws) es.toArray cs:=by
 rcases fr with ⟨fn,tmps,todo,defers,mode,kind,ro⟩
 simp only at hm;subst hm
 unfold ace at h
 simp only at h
 split at h<;>try (cases h;done)
 rename_i ops i rest k
 cases hw:(((ops[i]?).map (Region.wanted · (yielded ops tmps))).getD false&& !(VH kind)) with
 |false=>rw[hw] at h;cases h
 |true=>
 rw[hw] at h;simp only[cond_true] at h
 simp only[Bool.and_eq_true] at hw
 have hk:(kind==CallKind.early)=false:=by cases kind<;>first|rfl|cases hw.2
 split at h<;>try (cases h;done)
 rename_i op aB
 have gB:∀cs,stepG P main (G ⟨fn,tmps,.inRegion ops (i::rest)::k,defers,.run,kind,none⟩ cs) w=stepG.apply P true ⟨fn,tmps,.inRegion ops (i::rest)::k,defers,.run,kind,none⟩ cs none (execOp (Frame.eval ⟨fn,tmps,.inRegion ops (i::rest)::k,defers,.run,kind,none⟩) op) w:=by
  intro cs
  simp only[G,stepG,stepG.exec,hw.1,if_true,stepG.oper,aB]
 split at h<;>try (cases h;done)
 all_goals
  rename_i heq hv
  simp only[Option.some.injEq,Prod.mk.injEq] at h
  obtain⟨rfl,rfl,rfl,rfl⟩:=h
  have bV:=Kg _ (w:=w) #[] hv hb hc
  simp only[RH.to,Array.empty_append] at bV
  simp only[OV.is]
  rw[gB]
  simp only[stepG.apply,bV,if_true,hk,Bool.false_eq_true,if_false,GStep.after,Array.append_empty,G,toArr]
 all_goals first|rfl| (simp[seen_none];done)
theorem aiR(hm:fr.mode= .returning)(h:apl P ty c fr iq=some (o,ws,es,bs))(hb:∀b∈bs,b=W)(hc:(c=jh∧bs=[])∨me ty W w c)(cs:List Frame)(main:Bool):o.is P main (G fr (iq++cs)) w (KH W w ws) es.toArray cs:=by
 rcases fr with ⟨fn,tmps,todo,defers,mode,kind,ro⟩
 simp only at hm;subst hm
 unfold apl at h
 simp only at h
 split at h
 ·split at h<;>try (cases h;done)
  rename_i f hf
  split at h<;>try (cases h;done)
  rename_i v ws' eA vV hv
  have bV:=fun hb hc=>Kg _ (w:=w) #[] hv (W:=W) hb hc
  simp only[RH.to,Array.empty_append] at bV
  have key:(∀b∈vV,b=W)→((c=jh∧vV=[])∨me ty W w c)→∀cs,stepG P main (G ⟨fn,tmps,todo,[],.returning,kind,ro⟩ cs) w=GStep.after (seen P fn eA.toArray) (doReturn P main ⟨fn,tmps,todo,[],.returning,kind,ro⟩ cs none v (KH W w ws')):=by
   intro hb hc cs
   simp only[G,stepG,unwind,hf,bV hb hc]
  split at h
  ·split at h<;>try (cases h;done)
   ·simp only[Option.some.injEq,Prod.mk.injEq] at h
    obtain⟨rfl,rfl,rfl,rfl⟩:=h
    simp only[OV.is]
    rw[key hb hc]
    simp only[List.cons_append,doReturn,GStep.after,Array.append_empty,toArr,G]
   ·split at h<;>try (cases h;done)
    rename_i q gi hmq
    simp only[Option.some.injEq,Prod.mk.injEq] at h
    obtain⟨rfl,rfl,rfl,rfl⟩:=h
    simp only[OV.is]
    rw[key hb hc]
    simp only[List.cons_append,doReturn,hmq,GStep.after,Array.append_empty,toArr,G]
  ·split at h<;>try (cases h;done)
   ·simp only[Option.some.injEq,Prod.mk.injEq] at h
    obtain⟨rfl,rfl,rfl,rfl⟩:=h
    intro q HK hq
    subst hq
    rw[key hb hc]
    simp only[List.nil_append,doReturn,GStep.after,Array.append_empty,toArr,G]
   ·simp only[Option.some.injEq,Prod.mk.injEq] at h
    obtain⟨rfl,rfl,rfl,rfl⟩:=h
    intro q HK hq hmq
    subst hq
    rw[key hb hc]
    rcases hmq with hmq| ⟨ch,hmq⟩
    ·simp only[List.nil_append,doReturn,hmq,GStep.after,Array.append_empty,toArr,G]
    ·simp only[List.nil_append,doReturn,hmq,GStep.after,Array.append_empty,toArr,G]
 ·rename_i d ds
  cases hd:azJ d.target with
  |false=>rw[hd] at h;cases h
  |true=>
  rw[hd] at h;simp only[cond_true] at h
  rcases d with ⟨tg,args⟩
  cases tg with
  |fn f cap=>
   split at h<;>try (cases h;done)
   all_goals
    rename_i hv
    simp only[Option.some.injEq,Prod.mk.injEq] at h
    obtain⟨rfl,rfl,rfl,rfl⟩:=h
    have bV:=Kg _ (w:=w) #[] hv hb hc
    simp only[RH.to,Array.empty_append] at bV
    simp only[OV.is]
    simp only[G,stepG,unwind,callDeferred,bV,GStep.after,toArr,Array.append_empty,Bool.false_and,Bool.false_eq_true,if_false,List.cons_append]
  |_=>cases hd
theorem qG(h:Ow P ty c fr iq=some (o,ws,es,bs))(hb:∀b∈bs,b=W)(hc:(c=jh∧bs=[])∨me ty W w c)(cs:List Frame)(main:Bool):o.is P main (G fr (iq++cs)) w (KH W w ws) es.toArray cs:=by
 unfold Ow at h
 split at h<;>try (cases h;done)
 ·rename_i hm
  split at h
  ·rename_i nD YG
   simp only[Option.some.injEq,Prod.mk.injEq] at h
   obtain⟨rfl,rfl,rfl,rfl⟩:=h
   exact alL hm YG w
  ·exact acd hm h hb hc cs main
 ·rename_i hm
  exact aiR hm h hb hc cs main
end
def agN:Event→Option (Nat×Nat×List Nat)
 | ⟨.mark .disable,false,true⟩=>some (1,0,[])
 | ⟨.mark .enable,false,true⟩=>some (2,0,[])
 | ⟨.mark (.releaseMerge ⟨b,o,none⟩),false,true⟩=>some (3,o,[b])
 | ⟨.mark (.acquire ⟨b,o,none⟩),false,true⟩=>some (4,o,[b])
 | ⟨.mark (.read ⟨b,o,none⟩),false,true⟩=>some (5,o,[b])
 | ⟨.mark (.write ⟨b,o,none⟩),false,true⟩=>some (6,o,[b])
 | ⟨.cell ⟨b,o,none⟩,false,true⟩=>some (7,o,[b])
 | ⟨.cell ⟨b,o,none⟩,true,true⟩=>some (8,o,[b])
 |_=>none
def TR(W:Nat)(x:Nat×Nat):Event:=
 match x.1 with
 |1=>said .disable
 |2=>said .enable
 |3=>said (.releaseMerge ⟨W,x.2,none⟩)
 |4=>said (.acquire ⟨W,x.2,none⟩)
 |5=>said (.read ⟨W,x.2,none⟩)
 |6=>said (.write ⟨W,x.2,none⟩)
 |7=>⟨.cell ⟨W,x.2,none⟩,false,true⟩
 |_=>⟨.cell ⟨W,x.2,none⟩,true,true⟩
theorem agM{e:Event}{k:Nat}{bs:List Nat}(h:agN e=some (k,o,bs))(hb:∀b∈bs,b=W):e=TR W (k,o):=by
 unfold agN at h
 split at h<;>try (cases h;done)
 all_goals
  simp only[Option.some.injEq,Prod.mk.injEq] at h
  obtain⟨rfl,rfl,rfl⟩:=h
 ·rfl
 ·rfl
 all_goals
  have:=hb _ (List.mem_singleton.2 rfl)
  subst this
  rfl
def GQ:List Event→Option (List (Nat×Nat)×List Nat)
 | []=>some ([],[])
 |e::l=>match agN e,GQ l with
  |some (k,o,b),some (r,bs)=>some ((k,o)::r,b++bs)
  |_,_=>none
theorem JN:∀ {es:List Event} {ks:List (Nat×Nat)} {bs:List Nat},GQ es=some (ks,bs)→(∀b∈bs,b=W)→es=ks.map (TR W)
 | [],ks,bs,h,hb=>by simp only[GQ,Option.some.injEq,Prod.mk.injEq] at h;obtain⟨rfl,rfl⟩:=h;rfl
 |e::l,ks,bs,h,hb=>by
  simp only[GQ] at h
  split at h<;>try (cases h;done)
  rename_i k o b r vV h1 h2
  simp only[Option.some.injEq,Prod.mk.injEq] at h
  obtain⟨rfl,rfl⟩:=h
  rw[List.map_cons,←agM h1 (fun x hx=>hb x (by simp[hx])),←JN h2 (fun x hx=>hb x (by simp[hx]))]
abbrev Bl:=Option (List Nat)
def ahh:List Nat→Bl→Bl
 |a,some b=>some (a++b)
 |_,none=>none
def both:Bl→Bl→Bl
 |some a,some b=>some (a++b)
 |_,_=>none
def ahm(f:α→Bl):List α→Bl
 | []=>some []
 |x::l=>both (f x) (ahm f l)
theorem MM{a bs:List Nat}{x:Bl}(h:ahh a x=some bs)(hb:∀b∈bs,b=W):(∀b∈a,b=W)∧∃y,x=some y∧∀b∈y,b=W:=by
 cases x with
 |none=>cases h
 |some y=>
  simp only[ahh,Option.some.injEq] at h;subst h
  exact⟨fun b hm=>hb b (by simp[hm]),y,rfl,fun b hm=>hb b (by simp[hm])⟩
theorem AF{bs:List Nat}{x y:Bl}(h:both x y=some bs)(hb:∀b∈bs,b=W):(∃a,x=some a∧∀b∈a,b=W)∧∃a,y=some a∧∀b∈a,b=W:=by
 cases x with
 |none=>cases h
 |some a=>
  cases y with
  |none=>cases h
  |some b=>
   simp only[both,Option.some.injEq] at h;subst h
   exact⟨⟨a,rfl,fun b hm=>hb b (by simp[hm])⟩,b,rfl,fun b hm=>hb b (by simp[hm])⟩
theorem Eh{f:α→Bl}:∀ {l:List α} {bs:List Nat},ahm f l=some bs→(∀b∈bs,b=W)→∀x∈l,∃a,f x=some a∧∀b∈a,b=W
 | [],_,_,_,x,hx=>by cases hx
 |y::l,bs,h,hb,x,hx=>by
  obtain⟨h1,h2,h3,h4⟩:=AF h hb
  rcases List.mem_cons.1 hx with rfl|hx
  ·exact h1
  ·exact Eh h3 h4 x hx
def CL(P:Program)(ty:TypeId):Nat→Frame→List Frame→(Frame→List Frame→Bl)→Bl
 |0,_,_,_=>none
 |n+1,fr,iq,k=>match Ow P ty jh fr iq with
  |some (.go nD gi,[],[],bs)=>ahh bs (CL P ty n nD gi k)
  |_=>k fr iq
def aoY(P:Program)(ty:TypeId)(c:J0)(fr:Frame)(iq:List Frame):Option (Frame×List Frame×List (Nat×Value)×List (Nat×Nat)×List Nat×List Nat):=
 match Ow P ty c fr iq with
 |some (.go nD gi,ws,es,bs)=>match GQ es with
  |some (ks,b2)=>some (nD,gi,ws,ks,bs,b2)
  |none=>none
 |_=>none
def i64(n:Int):Value:= .int .u64 n
def i32(n:Int):Value:= .int .u32 n
def T5:List (Nat×Nat)→List (Nat×Nat)→Bool
 | [],[]=>true
 | (a,b)::l,(c,d)::m=>Nat.beq a c&&(Nat.beq b d&&T5 l m)
 |_,_=>false
theorem WO:∀ {l m:List (Nat×Nat)},T5 l m=true→l=m
 | [],[],_=>rfl
 | (a,b)::l,(c,d)::m,h=>by
  simp only[T5,Bool.and_eq_true] at h
  rw[Nat.eq_of_beq_eq_true h.1,Nat.eq_of_beq_eq_true h.2.1,WO h.2.2]
 | [],_::_,h=>by simp[T5] at h
 |_::_,[],h=>by simp[T5] at h
def Zl:List (Nat×Value)→Option (Nat×IntKind×Int)→Bool
 | [],none=>true
 | [(o,.int k n)],some (o',k',n')=>Nat.beq o o'&&(decide (k=k')&&decide (n=n'))
 |_,_=>false
theorem Zk{l:List (Nat×Value)}(h:Zl l none=true):l=[]:=by
 unfold Zl at h
 split at h
 ·rfl
 ·rename_i heq;cases heq
 ·cases h
theorem Zj{l:List (Nat×Value)}{k:IntKind}{n:Int}(h:Zl l (some (o,k,n))=true):l=[(o,.int k n)]:=by
 unfold Zl at h
 split at h
 ·rename_i heq;cases heq
 ·rename_i heq
  cases heq
  simp only[Bool.and_eq_true,decide_eq_true_eq] at h
  rw[Nat.eq_of_beq_eq_true h.1,h.2.1,h.2.2]
 ·cases h
def C4(P:Program)(ty:TypeId)(c:J0)(m:Bool)(wr:Option (Nat×IntKind×Int))(ks:List (Nat×Nat))(fr:Frame)(iq:List Frame)(k:Frame→List Frame→Bl):Bl:=
 match aoY P ty c fr iq with
 |some (nD,gi,ws,ks',b1,b2)=>bif Zl ws wr&&(T5 ks' ks&&(!m||b1.isEmpty)) then ahh b1 (ahh b2 (k nD gi)) else none
 |none=>none
section
variable {P:Program} {ty:TypeId} {W:Nat}
theorem aiL{c:J0}{nD:Frame}{gi:List Frame}{ws:List (Nat×Value)}{ks:List (Nat×Nat)}{b1 b2:List Nat}(h:aoY P ty c fr iq=some (nD,gi,ws,ks,b1,b2))(h1:∀b∈b1,b=W)(h2:∀b∈b2,b=W)
 {w:World}(hc:(c=jh∧b1=[])∨me ty W w c)(cs:List Frame)(main:Bool):stepG P main (G fr (iq++cs)) w= .go (G nD (gi++cs)) (KH W w ws) (ks.map (TR W)).toArray:=by
 unfold aoY at h
 split at h<;>try (cases h;done)
 rename_i h0
 split at h<;>try (cases h;done)
 rename_i hk
 simp only[Option.some.injEq,Prod.mk.injEq] at h
 obtain⟨rfl,rfl,rfl,rfl,rfl,rfl⟩:=h
 have:=qG h0 h1 hc cs main
 simp only[OV.is] at this
 rw[this,JN hk h2]
def wrote(W:Nat)(w:World):Option (Nat×IntKind×Int)→World
 |none=>w
 |some (o,k,n)=>w.setCell ⟨W,o,none⟩ (.int k n)
theorem gQ{c:J0}{m:Bool}{x:Option (Nat×IntKind×Int)}{ks:List (Nat×Nat)}{k:Frame→List Frame→Bl}{bs:List Nat}(h:C4 P ty c m x ks fr iq k=some bs)(hb:∀b∈bs,b=W):
 ∃nD gi vV,k nD gi=some vV∧(∀b∈vV,b=W)∧∀cs main w,((c=jh∧m=true)∨me ty W w c)→stepG P main (G fr (iq++cs)) w= .go (G nD (gi++cs)) (wrote W w x) (ks.map (TR W)).toArray:=by
 unfold C4 at h
 split at h<;>try (cases h;done)
 rename_i nD gi ws ks' b1 b2 hv
 cases hq:(Zl ws x&&(T5 ks' ks&&(!m||b1.isEmpty))) with
 |false=>rw[hq] at h;cases h
 |true=>
 rw[hq] at h;simp only[cond_true] at h
 simp only[Bool.and_eq_true] at hq
 obtain⟨q1,q2,q3⟩:=hq
 obtain⟨h1,y,hy,Ym⟩:=MM h hb
 obtain⟨h2,z,hz,Dg⟩:=MM hy Ym
 refine⟨nD,gi,z,hz,Dg,fun cs main w hc=>?_⟩
 have:=aiL hv h1 h2 (w:=w) (by
  rcases hc with ⟨hc,hm⟩|hc
  ·subst hm
   simp at q3
   exact .inl ⟨hc,q3⟩
  ·exact .inr hc) cs main
 rw[this,WO q2]
 cases x with
 |none=>rw[Zk q1];rfl
 |some x=>
  obtain⟨o,kd,n⟩:=x
  rw[Zj q1];rfl
theorem Tw{k:Frame→List Frame→Bl}:∀ {n:Nat} {fr:Frame} {iq:List Frame} {bs:List Nat},CL P ty n fr iq k=some bs→(∀b∈bs,b=W)→
 ∀(T:Frame→List Frame→Prop),(∀nD gi vV,k nD gi=some vV→(∀b∈vV,b=W)→T nD gi)→
 (∀fr iq nD gi,(∀cs main w,me ty W w jh→stepG P main (G fr (iq++cs)) w= .go (G nD (gi++cs)) w #[])→T nD gi→T fr iq)→T fr iq
 |0,_,_,_,h,_,_,_,_=>by cases h
 |n+1,fr,iq,bs,h,hb,T,hk,hs=>by
  simp only[CL] at h
  split at h
  ·rename_i nD gi b1 h0
   obtain⟨h1,y,hy,Ym⟩:=MM h hb
   refine hs fr iq nD gi (fun cs main w hc=>?_) (Tw hy Ym T hk hs)
   have:=qG h0 h1 (.inr hc) cs main
   simp only[OV.is] at this
   rw[this];rfl
  ·exact hk _ _ _ h hb
end
section
variable {ι:Type} (E:dS ι)
theorem FA{w:World}(h:E.live w):me E.ty E.Wg w jh:=by
 obtain⟨st,sm,h⟩:=h
 exact⟨_,_,h,by simp,by simp⟩
theorem oD{w:World}(h:WgAt E.ty E.Wg w st sm):me E.ty E.Wg w (some (i64 st),some (i32 sm)):=⟨_,_,h,by simp[i64],by simp[i32]⟩
theorem apI{w:World}(h:WgAt E.ty E.Wg w st sm):me E.ty E.Wg w (none,some (i32 sm)):=⟨_,_,h,by simp,by simp[i32]⟩
variable {E}
theorem fB{Stop:Goroutine→Prop}{k:Frame→List Frame→Bl}{n:Nat}{bs:List Nat}(h:CL E.P E.ty n fr iq k=some bs)(hb:∀b∈bs,b=E.Wg)
 (hk:∀nD gi vV,k nD gi=some vV→(∀b∈vV,b=E.Wg)→Stop (G nD (gi++cs))):E.pure main Stop (G fr (iq++cs)):=by
 refine Tw h hb (fun fr iq=>E.pure main Stop (G fr (iq++cs))) (fun nD gi vV h1 h2=>⟨0,hk _ _ _ h1 h2⟩) fun fr iq nD gi h1 ⟨m,hm⟩=>⟨m+1,rfl,_,fun w hw=>h1 cs main w (FA E hw),hm⟩
theorem Me{L:Nat→Option Obj}{Q:Machine→Outcome→World→Trace→Prop}{pend d0:Nat}{os:List ι}{s:St}{k:Frame→List Frame→Bl}{n:Nat}{bs:List Nat}(h:CL E.P E.ty n fr iq k=some bs)(hb:∀b∈bs,b=E.Wg)
 (hk:∀nD gi vV,k nD gi=some vV→(∀b∈vV,b=E.Wg)→TC E L Q pend false os d0 (G nD (gi++cs)) s):TC E L Q pend false os d0 (G fr (iq++cs)) s:=
 Tw h hb (fun fr iq=>TC E L Q pend false os d0 (G fr (iq++cs)) s) hk fun fr iq nD gi h1 hT=>UF rfl (fun w hw=>h1 cs true w (FA E hw)) hT
def goR(P:Program)(ty:TypeId):Nat→Frame→List Frame→Bl
 |0,_,_=>none
 |n+1,fr,iq=>match Ow P ty jh fr iq with
  |some (.go nD gi,[],[],[])=>goR P ty n nD gi
  |some (.ret (.tuple ⟨[]⟩),[],[],[])=>some []
  |_=>none
theorem Tu{c:Frame}:∀ {n:Nat} {fr:Frame} {iq:List Frame} {bs:List Nat},goR P ty n fr iq=some bs→
 ∀(main:Bool) (T:Goroutine→Prop),T (G (c.finish (.tuple #[])) cs)→(∀g g',g.status= .running→g'.status= .running→(∀w,stepG P main g w= .go g' w #[])→T g'→T g)→T (G fr (iq++c::cs))
 |0,_,_,_,h,_,_,_,_=>by cases h
 |n+1,fr,iq,bs,h,main,T,hT,hs=>by
  simp only[goR] at h
  split at h
  ·rename_i nD gi h0
   refine hs _ _ rfl rfl (fun w=>?_) (Tu h main T hT hs)
   have:=qG (W:=0) (w:=w) h0 (by simp) (.inl ⟨rfl,rfl⟩) (c::cs) main
   simp only[OV.is] at this
   rw[this];rfl
  ·rename_i h0
   refine hs _ _ rfl rfl (fun w=>?_) hT
   have:=qG (W:=0) (w:=w) h0 (by simp) (.inl ⟨rfl,rfl⟩) (c::cs) main
   simp only[OV.is] at this
   have h2:=this c cs rfl
   rw[h2];rfl
  ·cases h
def OL:List Event→Bool
 | []=>true
 |e::l=>e.mute&&OL l
def goQ(P:Program)(ty:TypeId):Nat→Nat→Frame→List Frame→Bl
 |0,_,_,_=>none
 |n+1,d,fr,iq=>match Ow P ty jh fr iq with
  |some (.go nD gi,[],es,[])=>bif OL es then goQ P ty n (deafBehind d es.toArray) nD gi else none
  |some (.apT,[],[],[])=>bif Nat.beq d 0 then some [] else none
  |_=>none
theorem OJ:∀ {es:List Event},OL es=true→∀e∈es,e.mute=true
 | [],_,e,he=>by cases he
 |x::l,h,e,he=>by
  simp only[OL,Bool.and_eq_true] at h
  rcases List.mem_cons.1 he with rfl|he
  ·exact h.1
  ·exact OJ h.2 e he
theorem Tv{c:Frame}{q:Nat}(hc:c.mode= .returning∨∃ch,c.mode= .panicking [⟨ch,false,true⟩])(hq:QuitsD P q 0 (G c cs)):∀ {n d:Nat} {fr:Frame} {iq:List Frame} {bs:List Nat},goQ P ty n d fr iq=some bs→
 ∃q,QuitsD P q d (G fr (iq++c::cs))
 |0,_,_,_,_,h=>by cases h
 |n+1,d,fr,iq,bs,h=>by
  simp only[goQ] at h
  split at h
  ·rename_i nD gi es h0
   cases hm:OL es with
   |false=>rw[hm] at h;cases h
   |true=>
   rw[hm] at h;simp only[cond_true] at h
   obtain⟨q',Hu⟩:=Tv hc hq h
   refine⟨q'+1,.inr ⟨rfl,_,es.toArray,fun e he=>OJ hm e (by simpa using he),fun w=>?_,Hu⟩⟩
   have:=qG (W:=0) (w:=w) h0 (by simp) (.inl ⟨rfl,rfl⟩) (c::cs) false
   simp only[OV.is] at this
   rw[this];rfl
  ·rename_i h0
   cases hd:Nat.beq d 0 with
   |false=>rw[hd] at h;cases h
   |true=>
   have:d=0:=Nat.eq_of_beq_eq_true hd
   subst this
   refine⟨q+1,.ctl rfl (fun w=>?_) hq⟩
   have:=qG (W:=0) (w:=w) h0 (by simp) (.inl ⟨rfl,rfl⟩) (c::cs) false
   simp only[OV.is] at this
   have h2:=this c cs rfl hc
   rw[h2];rfl
  ·cases h
end
section
variable (P:Program) (ty:TypeId)
abbrev WG(a b:Int):J0:=(some (i64 a),some (i32 b))
abbrev axI:List (Nat×Nat):=[(1,0),(7,1),(8,1),(2,0)]
def ag1(f:Frame)(s:List Frame):Bl:=bif mayWake P (G f []) then C4 P ty (WG 0 0) false (some (1,.u32,1)) axI f s (goQ P ty 300 1) else none
def aou(f:Frame)(s:List Frame):Bl:=C4 P ty (WG 1 0) false (some (0,.u64,0)) [(8,0)] f s fun f s=>CL P ty 300 f s (ag1 P ty)
def aov(f:Frame)(s:List Frame):Bl:=C4 P ty (WG 1 0) false none [(7,0)] f s fun f s=>CL P ty 300 f s (aou P ty)
def TW(f:Frame)(s:List Frame)(v wt:Nat):Bl:=
 C4 P ty (WG (((v+1:Nat):Int)*KK+(wt:Int)) 0) false (some (0,.u64,(v:Int)*KK+(wt:Int))) [(7,0),(8,0)] f s fun f s=>bif Nat.beq v 0&&Nat.beq wt 1 then CL P ty 300 f s (aov P ty) else goQ P ty 300 1 f s
def aow(mx:Nat)(f:Frame)(s:List Frame):Bl:=ahm (fun v=>both (TW P ty f s v 0) (TW P ty f s v 1)) (List.range mx)
def aot(mx:Nat)(f:Frame)(s:List Frame):Bl:=C4 P ty jh true none [(1,0)] f s fun f s=>CL P ty 300 f s (aow P ty mx)
def aos(mx:Nat)(f:Frame)(s:List Frame):Bl:=C4 P ty jh true none [(3,0)] f s fun f s=>CL P ty 300 f s (aot P ty mx)
def wO(mx:Nat)(f:Frame):Bl:=CL P ty 300 f [] (aos P ty mx)
def aox(f:Frame)(s:List Frame):Bl:=C4 P ty jh true none [(4,0)] f s (goR P ty 300)
def WE(f:Frame)(s:List Frame):Bl:=C4 P ty jh true none [(2,0)] f s fun f s=>CL P ty 300 f s (aox P ty)
def aop(f:Frame)(s:List Frame):Bl:=C4 P ty (WG 0 0) false none [(7,0)] f s fun f s=>CL P ty 300 f s (WE P ty)
def aFj(c:J0)(f:Frame)(s:List Frame):Bl:=match Ow P ty c f s with
 |some (.block,[],[],bs)=>some bs
 |_=>none
def aoq(f:Frame)(s:List Frame):Bl:=both (aFj P ty (none,some (i32 0)) f s) (C4 P ty (WG 0 1) false (some (1,.u32,0)) axI f s fun f s=>CL P ty 300 f s (aop P ty))
def aoo(f:Frame)(s:List Frame):Bl:=C4 P ty jh true none [(6,1)] f s fun f s=>CL P ty 300 f s (aoq P ty)
def aor(ajQ:Frame→List Frame→Bl)(vs:Nat)(f:Frame)(s:List Frame):Bl:=
 both (C4 P ty (WG ((vs:Int)*KK) 0) false (some (0,.u64,(vs:Int)*KK+1)) [(7,0),(8,0)] f s fun f s=>CL P ty 300 f s (aoo P ty))
  (ahm (fun v:Nat=>C4 P ty (WG ((v:Int)*KK) 0) false none [(7,0)] f s fun f s=>CL P ty 300 f s ajQ) (List.range vs))
def Qg:Nat→Frame→List Frame→Bl
 |0,f,s=>C4 P ty (WG 0 0) false none [(7,0)] f s fun f s=>CL P ty 300 f s (WE P ty)
 |b+1,f,s=>both (C4 P ty (WG 0 0) false none [(7,0)] f s fun f s=>CL P ty 300 f s (WE P ty))
  (ahm (fun v:Nat=>C4 P ty (WG (((v+1:Nat):Int)*KK) 0) false none [(7,0)] f s fun f s=>CL P ty 300 f s (aor P ty (Qg b) (v+1))) (List.range (b+1)))
def Az(mx:Nat)(f:Frame):Bl:=CL P ty 300 f [] fun f s=>C4 P ty jh true none [(1,0)] f s fun f s=>CL P ty 300 f s (Qg P ty mx)
def GY(v:Nat)(f:Frame):Bl:=
 CL P ty 300 f [] fun f s=>C4 P ty jh true none [(1,0)] f s fun f s=>CL P ty 300 f s fun f s=>
  C4 P ty (WG ((v:Int)*KK) 0) false (some (0,.u64,((v+1:Nat):Int)*KK)) [(7,0),(8,0)] f s fun f s=>CL P ty 300 f s fun f s=>
   bif Nat.beq v 0 then C4 P ty jh false none [(5,1)] f s fun f s=>CL P ty 300 f s fun f s=>C4 P ty jh true none [(2,0)] f s (goR P ty 300)
   else C4 P ty jh true none [(2,0)] f s (goR P ty 300)
end
section
variable {ι:Type} {E:dS ι}
section leave
variable {c:Frame} {cs:List Frame} (hc:c.mode= .returning∨∃ch,c.mode= .panicking [⟨ch,false,true⟩]) {q0:Nat} (hq:QuitsD E.P q0 0 (G c cs))
include hc hq
theorem ag0{bs:List Nat}(h:ag1 E.P E.ty f s=some bs)(hb:∀b∈bs,b=E.Wg):E.D4 (G f (s++c::cs)):=by
 unfold ag1 at h
 cases hm:mayWake E.P (G f []) with
 |false=>rw[hm] at h;cases h
 |true=>
 rw[hm] at h;simp only[cond_true] at h
 obtain⟨f',s',vV,h1,h2,h3⟩:=gQ h hb
 exact⟨rfl,hm,_,fun w hw=>h3 _ _ w (.inr (oD E hw)),Tv hc hq h1⟩
theorem ag3{bs:List Nat}(h:aou E.P E.ty f s=some bs)(hb:∀b∈bs,b=E.Wg):E.D3 (G f (s++c::cs)):=by
 obtain⟨f',s',vV,h1,h2,h3⟩:=gQ h hb
 exact⟨rfl,_,fun w hw=>h3 _ _ w (.inr (oD E hw)),fB h1 h2 fun _ _ _ k1 k2=>ag0 hc hq k1 k2⟩
theorem ag4{bs:List Nat}(h:aov E.P E.ty f s=some bs)(hb:∀b∈bs,b=E.Wg):E.D2 (G f (s++c::cs)):=by
 obtain⟨f',s',vV,h1,h2,h3⟩:=gQ h hb
 exact⟨rfl,_,fun w hw=>h3 _ _ w (.inr (oD E hw)),fB h1 h2 fun _ _ _ k1 k2=>ag3 hc hq k1 k2⟩
theorem ag5{bs:List Nat}(h:aow E.P E.ty E.max f s=some bs)(hb:∀b∈bs,b=E.Wg):E.D1 (G f (s++c::cs)):=by
 refine⟨rfl,fun v wt hwt hv=>?_⟩
 obtain⟨a,h1,h2⟩:=Eh h hb v (List.mem_range.2 hv)
 have key:∃a,TW E.P E.ty f s v wt=some a∧∀b∈a,b=E.Wg:=by
  obtain⟨k1,k2⟩:=AF h1 h2
  match wt,hwt with
  |0,_=>exact k1
  |1,_=>exact k2
 obtain⟨a',k1,k2⟩:=key
 obtain⟨f',s',vV,j1,j2,j3⟩:=gQ k1 k2
 refine⟨_,fun w hw=>j3 _ _ w (.inr (oD E hw)),fun hh=>?_,fun hh=>?_⟩
 ·obtain⟨rfl,rfl⟩:=hh
  exact fB j1 j2 fun _ _ _ k1 k2=>ag4 hc hq k1 k2
 ·have:(Nat.beq v 0&&Nat.beq wt 1)=false:=by
   cases hx:(Nat.beq v 0&&Nat.beq wt 1) with
   |false=>rfl
   |true=>
    simp only[Bool.and_eq_true] at hx
    exact absurd ⟨Nat.eq_of_beq_eq_true hx.1,Nat.eq_of_beq_eq_true hx.2⟩ hh
  rw[this] at j1;simp only[cond_false] at j1
  exact Tv hc hq j1
theorem agZ{bs:List Nat}(h:aot E.P E.ty E.max f s=some bs)(hb:∀b∈bs,b=E.Wg):E.K1 (G f (s++c::cs)):=by
 obtain⟨f',s',vV,h1,h2,h3⟩:=gQ h hb
 exact⟨rfl,_,fun w=>h3 _ _ w (.inl ⟨rfl,rfl⟩),fB h1 h2 fun _ _ _ k1 k2=>ag5 hc hq k1 k2⟩
theorem agY{bs:List Nat}(h:aos E.P E.ty E.max f s=some bs)(hb:∀b∈bs,b=E.Wg):E.R0 (G f (s++c::cs)):=by
 obtain⟨f',s',vV,h1,h2,h3⟩:=gQ h hb
 exact⟨rfl,_,fun w=>h3 _ _ w (.inl ⟨rfl,rfl⟩),fB h1 h2 fun _ _ _ k1 k2=>agZ hc hq k1 k2⟩
theorem GX{bs:List Nat}(h:wO E.P E.ty E.max f=some bs)(hb:∀b∈bs,b=E.Wg):E.pure false E.R0 (G f (c::cs)):=
 fB (iq:=[]) h hb fun _ _ _ k1 k2=>agY hc hq k1 k2
end leave
section close
variable {c:Frame} {cs:List Frame} {st:St} (hT:eQ E.P false E.Iu (G (c.finish (.tuple #[])) cs) st)
include hT
theorem ag6{bs:List Nat}(h:aox E.P E.ty f s=some bs)(hb:∀b∈bs,b=E.Wg):E.Aq st (G f (s++c::cs)):=by
 obtain⟨f',s',vV,h1,h2,h3⟩:=gQ h hb
 have key:=Tu (c:=c) (cs:=cs) h1 false (fun g=>eQ E.P false E.Iu g st) hT fun g g' hg hg' bS hT'=>(dX _ _ _).go hg hg' bS hT'
 obtain⟨tr,ig,hle,ht⟩:=key
 exact⟨rfl,_,fun w=>h3 _ _ w (.inl ⟨rfl,rfl⟩),tr,ig,hle,ht⟩
theorem GW{bs:List Nat}(h:WE E.P E.ty f s=some bs)(hb:∀b∈bs,b=E.Wg):E.Ke st (G f (s++c::cs)):=by
 obtain⟨f',s',vV,h1,h2,h3⟩:=gQ h hb
 exact⟨rfl,_,fun w=>h3 _ _ w (.inl ⟨rfl,rfl⟩),fB h1 h2 fun _ _ _ k1 k2=>ag6 hT k1 k2⟩
theorem agV{bs:List Nat}(h:aop E.P E.ty f s=some bs)(hb:∀b∈bs,b=E.Wg):E.W4 st (G f (s++c::cs)):=by
 obtain⟨f',s',vV,h1,h2,h3⟩:=gQ h hb
 exact⟨rfl,_,fun w hw=>h3 _ _ w (.inr (oD E hw)),fB h1 h2 fun _ _ _ k1 k2=>GW hT k1 k2⟩
theorem agW{bs:List Nat}(h:aoq E.P E.ty f s=some bs)(hb:∀b∈bs,b=E.Wg):E.W3 st (G f (s++c::cs)):=by
 obtain⟨⟨b1,k1,k2⟩,b2,k3,k4⟩:=AF h hb
 obtain⟨f',s',vV,h1,h2,h3⟩:=gQ k3 k4
 refine⟨rfl,rfl,fun w n hw=>?_,_,fun w hw=>h3 _ _ w (.inr (oD E hw)),fB h1 h2 fun _ _ _ k1 k2=>agV hT k1 k2⟩
 unfold aFj at k1
 split at k1<;>try (cases k1;done)
 rename_i h0
 simp only[Option.some.injEq] at k1;subst k1
 have:=qG h0 k2 (w:=w) (.inr (apI E hw)) (c::cs) false
 simp only[OV.is] at this
 rw[this];rfl
theorem agS{bs:List Nat}(h:aoo E.P E.ty f s=some bs)(hb:∀b∈bs,b=E.Wg):E.Wr st (G f (s++c::cs)):=by
 obtain⟨f',s',vV,h1,h2,h3⟩:=gQ h hb
 exact⟨rfl,_,fun w=>h3 _ _ w (.inl ⟨rfl,rfl⟩),fB h1 h2 fun _ _ _ k1 k2=>agW hT k1 k2⟩
theorem agX{ajQ:Frame→List Frame→Bl}{ahv:Goroutine→Prop}(hm:∀f s bs,ajQ f s=some bs→(∀b∈bs,b=E.Wg)→ahv (G f (s++c::cs))){vs:Nat}{bs:List Nat}(h:aor E.P E.ty ajQ vs f s=some bs)(hb:∀b∈bs,b=E.Wg):
 E.W2 (E.pure false ahv) st vs (G f (s++c::cs)):=by
 obtain⟨⟨b1,k1,k2⟩,b2,k3,k4⟩:=AF h hb
 obtain⟨f',s',vV,h1,h2,h3⟩:=gQ k1 k2
 refine⟨rfl,⟨_,fun w hw=>h3 _ _ w (.inr (oD E hw)),fB h1 h2 fun _ _ _ k1 k2=>agS hT k1 k2⟩,fun v hv=>?_⟩
 obtain⟨a,j1,j2⟩:=Eh k3 k4 v (List.mem_range.2 hv)
 obtain⟨f2,s2,bs2,i1,i2,i3⟩:=gQ j1 j2
 exact⟨_,fun w hw=>i3 _ _ w (.inr (oD E hw)),fB i1 i2 fun _ _ _ k1 k2=>hm _ _ _ k1 k2⟩
theorem Qf:∀ {b:Nat} {f:Frame} {s:List Frame} {bs:List Nat},Qg E.P E.ty b f s=some bs→(∀b∈bs,b=E.Wg)→E.W1 st b (G f (s++c::cs))
 |0,f,s,bs,h,hb=>by
  simp only[Qg] at h
  obtain⟨f',s',vV,h1,h2,h3⟩:=gQ h hb
  exact⟨rfl,_,fun w hw=>h3 _ _ w (.inr (oD E hw)),fB h1 h2 fun _ _ _ k1 k2=>GW hT k1 k2⟩
 |b+1,f,s,bs,h,hb=>by
  simp only[Qg] at h
  obtain⟨⟨b1,k1,k2⟩,b2,k3,k4⟩:=AF h hb
  obtain⟨f',s',vV,h1,h2,h3⟩:=gQ k1 k2
  refine⟨rfl,⟨_,fun w hw=>h3 _ _ w (.inr (oD E hw)),fB h1 h2 fun _ _ _ k1 k2=>GW hT k1 k2⟩,fun v hv1 hv2=>?_⟩
  obtain⟨u,rfl⟩:∃u,v=u+1:=⟨v-1,by omega⟩
  obtain⟨a,j1,j2⟩:=Eh k3 k4 u (List.mem_range.2 (by omega))
  obtain⟨f2,s2,bs2,i1,i2,i3⟩:=gQ j1 j2
  exact⟨_,fun w hw=>i3 _ _ w (.inr (oD E hw)),fB i1 i2 fun _ _ _ k1 k2=>agX hT (ahv:=E.W1 st b) (fun _ _ _ m1 m2=>Qf m1 m2) k1 k2⟩
theorem GV{bs:List Nat}(h:Az E.P E.ty E.max f=some bs)(hb:∀b∈bs,b=E.Wg):E.closes st (G f (c::cs)):=
 fB (iq:=[]) h hb fun _ _ _ k1 k2=>by
  obtain⟨f',s',vV,h1,h2,h3⟩:=gQ k1 k2
  exact⟨rfl,_,fun w=>h3 _ _ w (.inl ⟨rfl,rfl⟩),fB h1 h2 fun _ _ _ k1 k2=>Qf hT k1 k2⟩
end close
theorem JQ{L:Nat→Option Obj}{Q:Machine→Outcome→World→Trace→Prop}{os:List ι}{s:St}{c:Frame}{bs:List Nat}(h:GY E.P E.ty os.length f=some bs)(hb:∀b∈bs,b=E.Wg)(H9:os.length <E.max)
 (hT:TC E L Q 1 false os 0 (G (c.finish (.tuple #[])) cs) s):TC E L Q 0 false os 0 (G f (c::cs)) s:=by
 have oX:∀ {f:Frame} {iq:List Frame} {bs:List Nat},C4 E.P E.ty jh true none [(2,0)] f iq (goR E.P E.ty 300)=some bs→(∀b∈bs,b=E.Wg)→TC E L Q 1 false os 1 (G f (iq++c::cs)) s:=by
  intro f iq bs h hb
  obtain⟨f',s',vV,h1,h2,h3⟩:=gQ h hb
  refine DV (lT:=1) (d':=0) rfl rfl (fun w st sm hw hz _=>⟨w,h3 _ _ w (.inl ⟨rfl,rfl⟩),eO.refl w,by obtain⟨rfl,rfl⟩:=hz rfl;exact hw⟩) (by intro e he;simp[TR] at he;subst he;exact .inr (.inl rfl)) rfl id ?_
  exact Tu (c:=c) (cs:=cs) h1 true (fun g=>TC E L Q 1 false os 0 g s) hT fun g g' hg hg' bS hT'=>UF hg (fun w _=>bS w) hT'
 refine Me (iq:=[]) h hb fun f1 s1 b1 k1 k2=>?_
 obtain⟨f',s',vV,h1,h2,h3⟩:=gQ k1 k2
 refine DV (lT:=0) (d':=1) rfl rfl (fun w st sm hw hz _=>⟨w,h3 _ _ w (.inl ⟨rfl,rfl⟩),eO.refl w,by obtain⟨rfl,rfl⟩:=hz rfl;exact hw⟩) (by intro e he;simp[TR] at he;subst he;exact .inl rfl) rfl id ?_
 refine Me h1 h2 fun f2 s2 b2 k1 k2=>?_
 obtain⟨f',s',vV,h1,h2,h3⟩:=gQ k1 k2
 refine DV (lT:=1) (d':=1) rfl rfl (fun w st sm hw hz _=>⟨_,h3 _ _ w (.inr ?_),eO.set w 0 _,?_⟩) (by
  intro e he;simp[TR] at he
  rcases he with rfl|rfl<;>exact nM 0 _) rfl (fun _=>H9) ?_
 ·obtain⟨rfl,rfl⟩:=hz rfl
  exact oD E hw
 ·obtain⟨rfl,rfl⟩:=hz rfl
  exact Go.ConcR.WgAt.setSt hw _
 refine Me h1 h2 fun f3 s3 b3 k1 k2=>?_
 cases hz:Nat.beq os.length 0 with
 |false=>
  rw[hz] at k1;simp only[cond_false] at k1
  exact oX k1 k2
 |true=>
  rw[hz] at k1;simp only[cond_true] at k1
  obtain⟨f',s',vV,h1,h2,h3⟩:=gQ k1 k2
  refine aiW rfl (fun w hw=>h3 _ _ w (.inr (FA E hw))) ?_
  exact Me h1 h2 fun f4 s4 b4 k1 k2=>oX k1 k2
end
def CA(P:Program):Class:=fun main T=>Closed P main T
def abl:Code→Nat
 | .seq a b=>abl a+abl b+1
 |_=>0
def gE(l:List Code):List Code:=l.flatMap iL
section
variable {P:Program} {main:Bool} {T:Goroutine→St→Prop} {b:Frame} {k:List Item} {cs:List Frame} {a:Act} {s:St} {n LF:Nat} {D:List Deferred} {call:cd} {ops:Array Oper}
 {ρ:aW} {ce e:Env} {m:Mem} {F:Nat×Obj→Prop} {R:Nat→Option Obj}
abbrev On(T:Goroutine→St→Prop)(b:Frame)(a:Act)(l:List Code)(k:List Item)(cs:List Frame)(s:St):Prop:=T (G (aM b a (l.map .code++k)) cs) s
theorem nE(hT:Closed P main T){c0:Code}:∀ {l:List Code},gE l=c0::rest→(∀l',gE l'=rest→T (G (aM b a (.code c0::(l'.map .code++k))) cs) s)→On T b a l k cs s:=by
 intro l
 generalize hn:(l.map abl).sum=q
 induction q using Nat.strongRecOn generalizing l with
 |_ q ih=>
  intro hl h
  cases l with
  |nil=>cases hl
  |cons c l=>
   cases hc:c with
   |seq x y=>
    subst hc
    refine hT.go rfl rfl (g':=G (aM b a ((x::y::l).map .code++k)) cs) (fun w=>by simp[G,stepG,stepG.exec,aM]) ?_
    refine ih ((x::y::l).map abl).sum ?_ rfl ?_ h
    ·rw[←hn];simp[abl];omega
    ·rw[←hl];simp[gE,iL]
   |_=>
    subst hc
    simp only[gE,List.flatMap_cons,iL,List.singleton_append,List.cons.injEq] at hl
    obtain⟨rfl,hl⟩:=hl
    exact h l hl
theorem dJ(hT:Closed P main T)(hl:gE l= .region id ops false::rest)(h:∀l',gE l'=rest→T (G (aM b a (.inRegion ops (List.range ops.size)::(l'.map .code++k))) cs) s):On T b a l k cs s:=
 nE hT hl fun l' yq=>hT.go rfl rfl (g':=G (aM b a (.inRegion ops (List.range ops.size)::(l'.map .code++k))) cs) (fun w=>by simp[G,stepG,stepG.exec,aM]) (h l' yq)
theorem zp(hT:Closed P main T){c:Operand}{x y:Code}{t:Bool}(hl:gE l= .cond c x y::rest)(hc:a.eval c= .bool t)(h:∀l',gE l'=rest→T (G (aM b a (.code (if t then x else y)::(l'.map .code++k))) cs) s):On T b a l k cs s:=
 nE hT hl fun l' yq=>hT.go rfl rfl (g':=G (aM b a (.code (if t then x else y)::(l'.map .code++k))) cs) (fun w=>by
  have he:=kz b a (.code (.cond c x y)::(l'.map .code++k))
  simp only[aM] at he
  simp only[G,stepG,stepG.exec,aM,he,hc]) (h l' yq)
theorem u4(hT:Closed P main T){c:Code}(hl:gE l= .block id c::rest)(h:∀l',gE l'=rest→On T b a [c] (.inBlock id::(l'.map .code++k)) cs s):On T b a l k cs s:=
 nE hT hl fun l' yq=>hT.go rfl rfl (g':=G (aM b a (.code c:: .inBlock id::(l'.map .code++k))) cs) (fun w=>by simp[G,stepG,stepG.exec,aM]) (show T (G (aM b a (.code c:: .inBlock id::(l'.map .code++k))) cs) s from h l' yq)
theorem BZ(hT:Closed P main T)(h:T (G (aM b a k) cs) s):T (G (aM b a (.inBlock id::k)) cs) s:=
 hT.go rfl rfl (g':=G (aM b a k) cs) (fun w=>by simp[G,stepG,stepG.exec,aM]) h
theorem KT(hT:Closed P main T){c:Code}(hl:gE l= .loop c::rest)(h:∀l',gE l'=rest→On T b a [c] (.inLoop c::(l'.map .code++k)) cs s):On T b a l k cs s:=
 nE hT hl fun l' yq=>hT.go rfl rfl (g':=G (aM b a (.code c:: .inLoop c::(l'.map .code++k))) cs) (fun w=>by simp[G,stepG,stepG.exec,aM]) (show T (G (aM b a (.code c:: .inLoop c::(l'.map .code++k))) cs) s from h l' yq)
theorem yM(hT:Closed P main T){c:Code}(h:On T b a [c] (.inLoop c::k) cs s):T (G (aM b a (.inLoop c::k)) cs) s:=
 hT.go rfl rfl (g':=G (aM b a (.code c:: .inLoop c::k)) cs) (fun w=>by simp[G,stepG,stepG.exec,aM]) h
theorem Mq(hT:Closed P main T)(h:T (G (aM b a k) cs) s):T (G (aM b a (.code .skip::k)) cs) s:=
 hT.go rfl rfl (g':=G (aM b a k) cs) (fun w=>by simp[G,stepG,stepG.exec,aM]) h
theorem Mr(hT:Closed P main T){k':List Item}(hk:exitTo id k=some k')(h:T (G (aM b a k') cs) s):T (G (aM b a (.code (.exit id)::k)) cs) s:=
 hT.go rfl rfl (g':=G (aM b a k') cs) (fun w=>by simp[G,stepG,stepG.exec,aM,hk]) h
theorem gZ(hT:Closed P main T)(h:T (G (aM b a k) cs) s):T (G (aM b a (.inRegion ops []::k)) cs) s:=
 hT.go rfl rfl (g':=G (aM b a k) cs) (fun w=>by simp[G,stepG,stepG.exec,aM]) h
theorem qg(id:Nat):∀(l:List Code) (k:List Item),exitTo id (l.map .code++k)=exitTo id k
 | [],k=>rfl
 |c::l,k=>by
  rw[List.map_cons,List.cons_append]
  exact qg id l k
theorem sg(hT:Closed P main T){rest:List Nat}{o:Oper}(ho:ops[i]?=some o) (hw:Region.wanted o (yielded ops a.tmps)=true) (hk:b.kind≠ .early) (hb:b.roundOf=none)
 (h:bN P (execOp a.eval o) s (fun nx s'=>∃v,nx= .value v∧T (G (aM b (a.put o.dst v) (.inRegion ops rest::k)) cs) s') (fun _ _=>False)):T (G (aM b a (.inRegion ops (i::rest)::k)) cs) s:=by
 have jD:(b.kind==CallKind.early)=false:=by simpa using hk
 have gB:∀w,stepG P main (G (aM b a (.inRegion ops (i::rest)::k)) cs) w=stepG.apply P true (aM b a (.inRegion ops (i::rest)::k)) cs none (execOp a.eval o) w:=by
  intro w
  have he:=kz b a (.inRegion ops (i::rest)::k)
  simp only[aM] at he
  simp only[G,stepG,stepG.exec,aM,ho,Option.map_some,Option.getD_some,hw,if_true,stepG.oper,Frame.oper?,he]
  rw[hb]
 refine hT.step _ _ rfl fun w oY=>?_
 obtain⟨r,es,hr,hl⟩:=gH _ _ _ _ w #[] h oY
 rw[Array.empty_append] at hr
 have mD:=gB w
 simp only[stepG.apply,if_true,hr] at mD
 simp only[aM,jD,Bool.false_eq_true,if_false] at mD
 cases r with
 |ok nx w'=>
  obtain⟨s',ht,v,rfl,hv⟩:=hl
  simp only[GStep.after,Array.append_empty] at mD
  have mj:=fJ b a ops i rest k v
  rw[ho] at mj
  simp only[Option.bind_some] at mj
  rw[←mj] at hv
  exact⟨_,_,_,s',mD,rfl,ht.sub (iv P b.fn es),hv⟩
 |halt hh w'=>
  obtain⟨s',ht,hu⟩:=hl
  exact hu.elim
theorem dw(o:Oper)(f:Nat→Option Bool)(h:o.guard=none):Region.wanted o f=true:=by unfold Region.wanted;rw[h]
end
def St.freeze(s:St):St:=⟨fun b=>match s.rw.find? (fun x=>x.1==b) with
 |some x=>some x.2
 |none=>s.ro b,[]⟩
theorem ou{l:List (Nat×Obj)}{b:Nat}{x:Nat×Obj}(h:l.find? (fun x=>x.1==b)=some x):x∈l∧x.1=b:=
 ⟨List.mem_of_find?_eq_some h,by simpa using List.find?_some h⟩
theorem vD{l:List (Nat×Obj)}(hn:(l.map (·.1)).Nodup){b:Nat}{o:Obj}(h:(b,o)∈l):l.find? (fun x=>x.1==b)=some (b,o):=by
 induction l with
 |nil=>cases h
 |cons y l ih=>
  rw[List.map_cons,List.nodup_cons] at hn
  rcases List.mem_cons.1 h with rfl|h'
  ·simp
  ·have:y.1≠b:=fun e=>hn.1 (e▸List.mem_map.2 ⟨_,h',rfl⟩)
   rw[List.find?_cons_of_neg (by simpa using this)]
   exact ih hn.2 h'
theorem St.BS(s:St):s.freeze.le s:=by
 refine⟨s.rw,by simp[St.freeze],fun b o h=>?_⟩
 simp only[St.freeze] at h
 split at h
 ·rename_i x hx
  obtain⟨h1,h2⟩:=ou hx
  cases h
  subst h2
  exact .inr h1
 ·exact .inl h
theorem St.nC{s:St}{b:Nat}{o:Obj}(h:s.ro b=some o)(ha:∀b o,(b,o)∈s.rw→s.ro b=none):s.freeze.ro b=some o:=by
 simp only[St.freeze]
 split
 ·rename_i x hx
  obtain⟨h1,h2⟩:=ou hx
  subst h2
  rw[ha x.1 x.2 h1] at h;cases h
 ·exact h
theorem St.sH{s:St}{b:Nat}{o:Obj}(h:(b,o)∈s.rw)(hn:(s.rw.map (·.1)).Nodup):s.freeze.ro b=some o:=by
 simp only[St.freeze,vD hn h]
section
variable {P:Program} {ρ:aW} {m:Mem} {F:Nat×Obj→Prop} {R:Nat→Option Obj} {s:St}
theorem Closed.jI(hT:Closed P main T){g:Goroutine}(hs:g.status= .running)(h:(∃w,aU s w)→T g s):T g s:=by
 by_cases ha:∃w,aU s w
 ·exact h ha
 ·exact hT.step _ _ hs fun w hw=>absurd ⟨w,hw⟩ ha
end
section
variable {P:Program} {main:Bool} {T:Goroutine→St→Prop} {b:Frame} {k:List Item} {cs:List Frame} {a:Act} {s:St} {n LF:Nat} {D:List Deferred} {call:cd} {ops:Array Oper}
 {ρ:aW} {ce e:Env} {m:Mem} {F:Nat×Obj→Prop} {R:Nat→Option Obj}
theorem Ot(hT:Closed P main T){rest:List Nat}{o:Oper}(ho:ops[i]?=some o) (hg:o.guard=none) (hk:b.kind≠ .early) (hb:b.roundOf=none) {f:FuncId} (aB:o.op= .call ⟨.value (.func f),xs,ats⟩) (hf:FF P f)
 (h:T (G (Frame.enter P f (xs.map a.eval) .normal) (aM b a (.inRegion ops (i::rest)::k)::cs)) s):T (G (aM b a (.inRegion ops (i::rest)::k)) cs) s:=by
 have jD:(b.kind==CallKind.early)=false:=by simpa using hk
 have hw:Region.wanted o (yielded ops a.tmps)=true:=dw o _ hg
 have vk:bN P (execOp a.eval o) s (fun nx s'=>nx= .enter f (xs.map a.eval)∧s'=s) (fun _ _=>False):=by
  have e1:a.eval (.func f)= .func (.func f) #[] #[]:=rfl
  simp only[execOp,aB,resolve,e1,Deferred.ofValue,aa,af,invoke]
  have:(#[]++xs.map a.eval:Array Value)++ #[]=xs.map a.eval:=by simp
  rw[this]
  exact jU hf ⟨rfl,rfl⟩
 have gB:∀w,stepG P main (G (aM b a (.inRegion ops (i::rest)::k)) cs) w=stepG.apply P true (aM b a (.inRegion ops (i::rest)::k)) cs none (execOp a.eval o) w:=by
  intro w
  have he:=kz b a (.inRegion ops (i::rest)::k)
  simp only[aM] at he
  simp only[G,stepG,stepG.exec,aM,ho,Option.map_some,Option.getD_some,hw,if_true,stepG.oper,Frame.oper?,he]
  rw[hb]
 refine hT.step _ _ rfl fun w oY=>?_
 obtain⟨r,es,hr,hl⟩:=gH _ _ _ _ w #[] vk oY
 rw[Array.empty_append] at hr
 have mD:=gB w
 simp only[stepG.apply,if_true,hr] at mD
 simp only[aM,jD,Bool.false_eq_true,if_false] at mD
 cases r with
 |ok nx w'=>
  obtain⟨s',ht,rfl,rfl⟩:=hl
  simp only[GStep.after,Array.append_empty] at mD
  exact⟨_,_,_,_,mD,rfl,ht.sub (iv P b.fn es),h⟩
 |halt hh w'=>
  obtain⟨s',ht,hu⟩:=hl
  exact hu.elim
def cM(P:Program):Frame:={(default:Frame) with fn:=P.funcs.size,defers:=[],mode:= .panicking [goexitEntry]}
theorem Oe(P:Program):QuitsD P 1 0 (G (cM P) []):=by
 have hc:(cM P).catches P=false:=by
  simp[Frame.catches,cM]
  rfl
 refine .ctl (g':={(G (cM P) []) with status:= .finished}) rfl (fun w=>?_) ⟨rfl,rfl⟩
 have bS:stepG P false (G (cM P) []) w=unwind P false (cM P) [] none w:=rfl
 rw[bS]
 unfold unwind
 have h1:(cM P).defers=[]:=rfl
 have h2:(cM P).mode= .panicking [goexitEntry]:=rfl
 simp only[h1,h2,hc,Bool.false_eq_true,if_false]
 simp[goexitEntry,G]
theorem nO{fn:Func}(hm:fr.mode= .returning)(hd:fr.defers=[])(hk:fr.kind= .deferred)(hf:P.funcs[fr.fn]?=some fn) (hr:fn.results= #[]):QuitsD P 2 0 (G fr [cM P]):=by
 refine .ctl rfl (fun w=>?_) (Oe P)
 have h1:∀tm,results fn tm=Sem.pure (.tuple #[]):=by intro tm;simp[results,hr];rfl
 rcases fr with ⟨fn',tmps,todo,defers,mode,kind,ro⟩
 simp only at hm hd hk hf
 subst hm hd hk
 simp only[G,stepG,unwind,hf,h1,Sem.runT,seen_none,GStep.after,doReturn,cM,goexitEntry,Array.append_empty]
end
structure Qr where
 f:FuncId
 n:Nat
 cl:List Code
 o7:Array Oper
 o:Oper
 sc:Operand
 sv:Operand
 done:FuncId
def goE(P:Program)(ty:TypeId):Nat→Frame→List Frame→Option (Frame×List Frame)
 |0,fr,iq=>some (fr,iq)
 |n+1,fr,iq=>match Ow P ty jh fr iq with
  |some (.go nD gi,[],[],[])=>goE P ty n nD gi
  |_=>none
theorem Tx{T:Goroutine→Prop}(hs:∀g g',g.status= .running→g'.status= .running→(∀w,stepG P main g w= .go g' w #[])→T g'→T g):∀ {n:Nat} {fr nD:Frame} {iq gi:List Frame},goE P ty n fr iq=some (nD,gi)→T (G nD (gi++cs))→T (G fr (iq++cs))
 |0,fr,nD,iq,gi,h,hT=>by simp only[goE,Option.some.injEq,Prod.mk.injEq] at h;obtain⟨rfl,rfl⟩:=h;exact hT
 |n+1,fr,nD,iq,gi,h,hT=>by
  simp only[goE] at h
  split at h<;>try (cases h;done)
  rename_i f1 s1 h0
  refine hs _ _ rfl rfl (fun w=>?_) (Tx hs h hT)
  have:=qG (W:=0) (w:=w) h0 (by simp) (.inl ⟨rfl,rfl⟩) cs main
  simp only[OV.is] at this
  rw[this];rfl
theorem G6{f:FuncId}(hf:FF P f)(ca:Array Value)(w:World):stepG P main (born P {target:= .fn (.func f) ca,args:= #[]}) w= .go (G (Frame.enter P f (#[]++ca) .deferred) [cM P]) w #[]:=by
 obtain⟨fn,h1,h2,h3⟩:=hf.ff
 have bV:(callFunc f (#[]++ca)).runT P w #[]=(.ok (.enter f (#[]++ca)) w,#[]):=by
  show (Sem.program _).runT P w #[]=_
  simp only[Sem.runT,Sem.bind,h1,h2,h3,Bool.false_eq_true,if_false]
  rfl
 simp only[born,stepG,unwind,callDeferred,invoke,bV,GStep.after,seen_none,Bool.false_and,Bool.false_eq_true,if_false,Array.append_empty,G,cM]
structure JZ where
 f:FuncId
 n:Nat
 b:Frame
 q0:Array Oper
 o0:Oper
 rest:Code
 q1:Array Oper
 oc:Oper
 cx:Operand
 wait:FuncId
structure JZ.OK(P:Program)(ty:TypeId)(x:JZ):Prop where
 ff:AW P x.f=true
 fn:∃fn,P.funcs[x.f]?=some fn∧fn.results= #[]∧fn.norace=false
 bf:x.b.fn=x.f∧x.b.kind= .deferred∧x.b.roundOf=none
 enter:∀p1 p2:Value,goE P ty 3 (Frame.enter P x.f #[p1,p2] .deferred) []=some (Frame.enter P x.wait #[p1] .normal,[aM x.b (A x.n (fN 0 [p1,p2]) []) [.inRegion x.q0 [0],.code x.rest]])
 op0:x.q0[0]?=some x.o0
 rest:∃id,gE [x.rest]=[.region id x.q1 false]
 size:x.q1.size=2
 op:x.q1[1]?=some x.oc∧x.oc.guard=none∧∃ats,x.oc.op= .call {callee:= .builtin .close,args:= #[x.cx],argTypes:=ats}
theorem gq(h:gE l=[]):l=[]:=by
 cases l with
 |nil=>rfl
 |cons y l=>
  exfalso
  have:∀c:Code,iL c≠[]:=by
   intro c
   induction c with
   |seq p q ihp ihq=>simp[iL,ihp]
   |_=>simp[iL]
  simp only[gE,List.flatMap_cons,List.append_eq_nil_iff] at h
  exact this y h.1
theorem BX{b:Frame}(h:b.roundOf=none)(a:Act)(todo:List Item):aM b a todo=b.at a todo:=by simp[aM,Frame.at,h]
def Se(P:Program):Sem Next→Nat→Option (Obj×Value)
 | .new o k,b=>match bx P (k b) with
  |some (.value v)=>some (o,v)
  |_=>none
 | .program k,b=>Se P (k P) b
 |_,_=>none
theorem Fs{o:Obj}{f:Nat→Value}{s:St}{K:Next→St→Prop}{E:Halt→St→Prop}(hK:∀b,¬s.knows b→K (.value (f b)) ⟨s.ro,(b,o)::s.rw⟩):∀(x:Sem Next),(∀b,Se P x b=some (o,f b))→bN P x s K E:=by
 intro x
 induction x with
 |new o' k ih=>
  intro h b hb
  have h':=h b
  simp only[Se] at h'
  split at h'<;>try (cases h';done)
  rename_i v hv
  simp only[Option.some.injEq,Prod.mk.injEq] at h'
  obtain⟨rfl,rfl⟩:=h'
  exact nZ hv (hK b hb)
 |program k ih=>intro h;exact ih P h
 |_=>intro h;have:=h 0;simp[Se] at this
structure qY where
 f:FuncId
 n:Nat
 fn:Func
 o0:Array Oper
 o1:Array Oper
 o2:Array Oper
 o3:Array Oper
 o4:Array Oper
 o5:Array Oper
 o6:Array Oper
 o7:Array Oper
 o8:Array Oper
 o9:Array Oper
 o10:Array Oper
 o11:Array Oper
 Bt:Array Oper
 o13:Array Oper
 o14:Array Oper
 a1:Oper
 a2:Oper
 a6:Oper
 a7:Oper
 a9:Oper
 Qq:Oper
 lb:Code
 Cz:Code
 rb:Code
 ud:Code
 c4:Operand
 c12:Operand
 b0:Nat
 b1:Nat
 b2:Nat
 b3:Nat
 fin:List Code
 add:FuncId
 al7:Operand
 sp:Operand
 sk:Operand
 rc:Operand
 wk:Qr
 cl:JZ
 ty:TypeId
 mx:Nat
def cN(l:List Code)(i:Nat):Array Oper:=match l[i]? with
 |some (.region _ ops _)=>ops
 |_=> #[]
def eL(o:Array Oper)(i:Nat):Oper:=(o[i]?).getD default
def acV(l:List Code)(i:Nat):Nat×Code:=match l[i]? with
 |some (.block id (.loop c))=>(id,c)
 |_=>(0,.skip)
def WL(l:List Code)(i:Nat):Nat×Code:=match l[i]? with
 |some (.block id c)=>(id,c)
 |_=>(0,.skip)
def agL(l:List Code)(i:Nat):Operand:=match l[i]? with
 |some (.cond c _ _)=>c
 |_=> .func 0
def G4(o:Oper):FuncId:=match o.op with
 | .call ⟨.value (.func f),_,_⟩=>f
 | .defer ⟨.value (.func f),_,_⟩=>f
 |_=>0
def aoD(o:Oper)(i:Nat):Operand:=match o.op with
 | .call ⟨_,xs,_⟩=>(xs[i]?).getD (.func 0)
 |_=> .func 0
def aEA(o:Oper):Operand:=match o.op with
 | .go ⟨.value x,_,_⟩=>x
 |_=> .func 0
def aof(o:Oper):FuncId:=match o.op with
 | .makeFunc (.func f) _ _=>f
 |_=>0
def chanOf(o:Oper):Operand:=match o.op with
 | .recv _ c _=>c
 | .send c _=>c
 |_=> .func 0
def apJ(o:Oper):Operand:=match o.op with
 | .send _ x=>x
 |_=> .func 0
def typeOf(o:Oper):TypeId:=match o.op with
 | .alloc t=>t
 |_=>0
def codeOf(P:Program)(f:FuncId):List Code:=match P.funcs[f]? with
 |some fn=>match fn.body with
  |some c=>iL c
  |none=>[]
 |none=>[]
def tmpsOf(P:Program)(f:FuncId):Nat:=match P.funcs[f]? with
 |some fn=>fn.ntmps
 |none=>0
def apU(P:Program)(f:FuncId):Code:=match P.funcs[f]? with
 |some fn=>match fn.body with
  |some (.seq _ c)=>c
  |_=> .skip
 |none=> .skip
def auB(P:Program)(f:FuncId)(mx:Nat):qY:=
 let l:=codeOf P f
 let lb:=acV l 4
 let ll:=iL lb.2
 let bb:=WL ll 2
 let bl:=iL bb.2
 let rb:=acV l 8
 let rl:=iL rb.2
 let rbb:=WL rl 2
 let rbl:=iL rbb.2
 let wf:=aof (eL (cN bl 2) 0)
 let wl:=codeOf P wf
 let cf:=aof (eL (cN l 5) 0)
 let cl:=codeOf P cf
 {f,n:=tmpsOf P f,fn:=(P.funcs[f]?).getD default,o0:=cN l 0,o1:=cN l 1,o2:=cN l 2,o3:=cN l 3,o4:=cN ll 0,o5:=cN bl 0,o6:=cN bl 1,o7:=cN bl 2,o8:=cN ll 3,
  o9:=cN l 5,o10:=cN l 6,o11:=cN l 7,Bt:=cN rl 0,o13:=cN rbl 0,o14:=cN rbl 1,
  a1:=eL (cN l 1) 0,a2:=eL (cN l 2) 0,a6:=eL (cN bl 1) 0,a7:=eL (cN bl 2) 1,a9:=eL (cN l 5) 1,Qq:=eL (cN rl 0) 0,
  lb:=lb.2,Cz:=bb.2,rb:=rb.2,ud:=rbb.2,c4:=agL ll 1,c12:=agL rl 1,b0:=lb.1,b1:=bb.1,b2:=rb.1,b3:=rbb.1,fin:=(l.drop 9).dropLast,
  add:=G4 (eL (cN bl 1) 0),al7:=aoD (eL (cN bl 1) 0) 0,sp:=aEA (eL (cN bl 2) 1),sk:=aEA (eL (cN l 5) 1),rc:=chanOf (eL (cN rl 0) 0),
  wk:={f:=wf,n:=tmpsOf P wf,cl:=wl.dropLast,o7:=cN wl (wl.length-1),o:=eL (cN wl (wl.length-1)) 2,sc:=chanOf (eL (cN wl (wl.length-1)) 2),sv:=apJ (eL (cN wl (wl.length-1)) 2),done:=G4 (eL (cN wl 0) 0)},
  cl:={f:=cf,n:=tmpsOf P cf,b:={(default:Frame) with fn:=cf,kind:= .deferred,roundOf:=none},q0:=cN cl 0,o0:=eL (cN cl 0) 0,rest:=apU P cf,q1:=cN cl 1,oc:=eL (cN cl 1) 1,cx:=aoD (eL (cN cl 1) 1) 0,wait:=G4 (eL (cN cl 0) 0)},
  ty:=typeOf (eL (cN l 2) 0),mx}
theorem wy{k:Nat}:∀b∈List.replicate k W,b=W:=fun b hb=>(List.mem_replicate.1 hb).2
section
variable {gL:Os} {cz:Array (Nat×ByteArray)} {P:Program} {T:Goroutine→St→Prop} {b:Frame} {k:List Item} {cs:List Frame} {a:Act} {s:St} {n LF:Nat} {call:cd} {ops:Array Oper}
 {ρ:aW} {ce e:Env} {m:Mem} {x:qY} {Wg Ch:Nat} {L:Nat→Option Obj} {Q:Machine→Outcome→World→Trace→Prop}
theorem Eg{rest:List Nat}{o:Oper}(ho:ops[i]?=some o) (hg:o.guard=none) (hk:b.kind≠ .early) (hb:b.roundOf=none) {y:Operand} (aB:o.op= .go ⟨.value y,#[],ats⟩) {f:FuncId} (hy:a.eval y= .func (.func f) #[] ca) (w:World):
 stepG P main (G (aM b a (.inRegion ops (i::rest)::k)) cs) w= .spawn (G (aM b (a.put o.dst undef) (.inRegion ops rest::k)) cs) (born P {target:= .fn (.func f) ca,args:= #[]}) w #[]:=by
 have hw:Region.wanted o (yielded ops a.tmps)=true:=dw o _ hg
 have hx:execOp a.eval o=Sem.pure (.spawn {target:= .fn (.func f) ca,args:= #[]}):=by
  simp only[execOp,aB,resolve,hy,Deferred.ofValue]
  show Sem.pure (Next.spawn {target:= .fn (.func f) ca,args:= #[]++Array.map a.eval #[]})=_
  simp
 rw[BX hb,BX hb]
 have:=stepG_spawn (P:=P) (main:=main) (b:=b) (a:=a) (k:=k) (cs:=cs) (w:=w) (w':=w) (d:={target:= .fn (.func f) ca,args:= #[]}) ho hw hk (rest:=rest) (by rw[hx];rfl) rfl
 rw[this,listed_none (by rw[hx];rfl)]
end
theorem tb:∀ {x:Sem α} {a:α},bx P x=some a→∀(w:World) (es:Array Event),x.runT P w es=(.ok a w,es)
 | .pure _,_,h,w,es=>by simp only[bx,Option.some.injEq] at h;subst h;rfl
 | .program k,_,h,w,es=>tb (x:=k _) h w es
def C0(P:Program):Class:=fun main T=>main=true∧∃gL cz Post,T=T0 P gL cz Post
theorem wP:∀main T,C0 P main T→Closed P main T:=by
 rintro _ _ ⟨rfl,gL,cz,Post,rfl⟩
 exact rX P gL cz Post
abbrev CP(P:Program):Class:=fun main T=>Closed P main T
theorem eW:∀main T,CP P main T→Closed P main T:=fun _ _ h=>h
abbrev Cells:=List (Nat×Obj)
variable {Φ:Value→Cells→Prop} {B X ZH rw:Cells}
def Sub(ro aK:Nat→Option Obj):Prop:=∀b o,ro b=some o→aK b=some o
theorem Sub.refl(ro:Nat→Option Obj):Sub ro ro:=fun _ _ h=>h
theorem Sub.trans{a b c:Nat→Option Obj}(h:Sub a b)(k:Sub b c):Sub a c:=fun x o hx=>k x o (h x o hx)
structure ZC(fr B:Cells)(ro:Nat→Option Obj)(s1 s:St):Prop where
 rw:s.rw.Perm (s1.rw++fr)
 aE:∀b o,s1.ro b=some o→s.ro b=some o∨(b,o)∈B
 keep:Sub ro s.ro
theorem wN(hT:Closed P main T){g:Goroutine}{s:St}(hg:g.status= .running)(h:(∃w,aU s w)→T g s):T g s:=by
 by_cases hw:∃w,aU s w
 ·exact h hw
 ·exact hT.step g s hg fun w oY=>absurd ⟨w,oY⟩ hw
theorem Ak(hT:Closed P main T){fr:Cells}(hB:∀x∈B,x∈fr)(ro:Nat→Option Obj):
 Closed P main (fun g s1=>g.status= .running→∀s,ZC fr B ro s1 s→T g s) where
 step:=fun g s1 hg h _ s hc=>by
  refine hT.step g s hg fun w hw=>?_
  have Nb:∀x,x∈s.rw↔x∈s1.rw∨x∈fr:=fun x=>by rw[hc.rw.mem_iff,List.mem_append]
  have lX:=(hc.rw.map (·.1)).nodup_iff.1 hw.nodup
  rw[List.map_append,List.nodup_append] at lX
  obtain⟨hn1,hn2,hn3⟩:=lX
  have aBu:∀b o o',(b,o)∈s1.rw→(b,o')∈fr→False:=fun b o o' h1 h2=>hn3 b (List.mem_map.2 ⟨_,h1,rfl⟩) b (List.mem_map.2 ⟨_,h2,rfl⟩) rfl
  have aRb:aU s1 w:=by
   refine⟨fun b o hb=>?_,fun b o hb=>hw.rw b o ((Nb _).2 (.inl hb)),hn1,fun b o hb=>?_⟩
   ·rcases hc.aE b o hb with h1|h1
    ·exact hw.ro b o h1
    ·exact hw.rw b o ((Nb _).2 (.inr (hB _ h1)))
   ·cases hr:s1.ro b with
    |none=>rfl
    |some o'=>
     rcases hc.aE b o' hr with h1|h1
     ·rw[hw.apart b o ((Nb _).2 (.inl hb))] at h1;cases h1
     ·exact(aBu b o o' hb (hB _ h1)).elim
  obtain⟨g',w',es,xS,bS,bV,ht,hT'⟩:=h w aRb
  have aeG:∀b o,(b,o)∈fr→b <w.heap.size:=fun b o hb=>hw.lt (.inr ((Nb _).2 (.inr hb)))
  have as6:∀b o,(b,o)∈fr→¬s1.iQ b:=fun b o hb ⟨o',D9⟩=>aBu b o' o D9 hb
  have ar8:∀b,s.ro b≠none→¬s1.iQ b:=fun b hb ⟨o',D9⟩=>hb (hw.apart b o' ((Nb _).2 (.inl D9)))
  have adU:∀b,s.ro b≠none→b <w.heap.size:=fun b hb=>by
   cases hr:s.ro b with
   |none=>exact absurd hr hb
   |some o=>exact hw.lt (.inl hr)
  have aBh:∀b o,(b,o)∈fr→w'.heap[b]?=some o:=fun b o hb=>by
   rw[ht.frame b (aeG b o hb) (as6 b o hb)]
   exact hw.rw b o ((Nb _).2 (.inr hb))
  classical
  let aK:Nat→Option Obj:=fun b=>if ∃o,(b,o)∈fr then none else match xS.ro b with
   |some o=>some o
   |none=>s.ro b
  have ar9:∀b o,aK b=some o→¬(∃o,(b,o)∈fr)∧(xS.ro b=some o∨(xS.ro b=none∧s.ro b=some o)):=fun b o hb=>by
   simp only[aK] at hb
   split at hb
   ·cases hb
   ·rename_i hn
    refine⟨hn,?_⟩
    cases h1:xS.ro b with
    |none=>rw[h1] at hb;exact .inr ⟨rfl,hb⟩
    |some o2=>rw[h1] at hb;exact .inl hb
  have aRa:aU ⟨aK,xS.rw++fr⟩ w':=by
   refine⟨fun b o hb=>?_,fun b o hb=>?_,?_,fun b o hb=>?_⟩
   ·obtain⟨_,h1| ⟨_,h2⟩⟩:=ar9 b o hb
    ·exact ht.jI.ro b o h1
    ·have eg:s.ro b≠none:=by rw[h2];simp
     rw[ht.frame b (adU b eg) (ar8 b eg)]
     exact hw.ro b o h2
   ·rcases List.mem_append.1 hb with hb|hb
    ·exact ht.jI.rw b o hb
    ·exact aBh b o hb
   ·show ((xS.rw++fr).map (·.1)).Nodup
    rw[List.map_append,List.nodup_append]
    refine⟨ht.jI.nodup,hn2,fun x hx y hy e=>?_⟩
    obtain⟨⟨b,o⟩,h1,rfl⟩:=List.mem_map.1 hx
    obtain⟨⟨b2,o2⟩,h2,rfl⟩:=List.mem_map.1 hy
    dsimp only at e;subst e
    rcases ht.own b ⟨o,h1⟩ with h3|h3
    ·exact absurd (aeG b o2 h2) (by omega)
    ·exact as6 b o2 h2 h3
   ·show aK b=none
    rcases List.mem_append.1 hb with hb|hb
    ·cases hr:aK b with
     |none=>rfl
     |some o'=>
      obtain⟨hn,h1| ⟨_,h2⟩⟩:=ar9 b o' hr
      ·rw[ht.jI.apart b o hb] at h1;cases h1
      ·have eg:s.ro b≠none:=by rw[h2];simp
       rcases ht.own b ⟨o,hb⟩ with h3|h3
       ·exact absurd (adU b eg) (by omega)
       ·exact(ar8 b eg h3).elim
    ·simp only[aK]
     rw[if_pos ⟨o,hb⟩]
  have aBz:ZC fr B ro xS ⟨aK,xS.rw++fr⟩:=by
   refine⟨.refl _,fun b o hb=>?_,fun b o hb=>?_⟩
   ·by_cases hf:∃o,(b,o)∈fr
    ·obtain⟨o2,Hv⟩:=hf
     have e1:=ht.jI.ro b o hb
     rw[aBh b o2 Hv] at e1
     cases e1
     rcases ht.Kh b (by rw[hb];simp) with h1|h1|h1
     ·exact absurd (aeG b _ Hv) (by omega)
     ·cases hr:s1.ro b with
      |none=>exact absurd hr h1
      |some o3=>
       rcases hc.aE b o3 hr with h3|h3
       ·rw[hw.apart b _ ((Nb _).2 (.inr Hv))] at h3;cases h3
       ·have e3:=hw.rw b o3 ((Nb _).2 (.inr (hB _ h3)))
        rw[hw.rw b _ ((Nb _).2 (.inr Hv))] at e3
        cases e3
        exact .inr h3
     ·exact(as6 b _ Hv h1).elim
    ·left
     show aK b=some o
     simp only[aK]
     rw[if_neg hf,hb]
   ·have h1:=hc.keep b o hb
    have eg:s.ro b≠none:=by rw[h1];simp
    have hf:¬ ∃o,(b,o)∈fr:=fun⟨o2,Hv⟩=>eg (hw.apart b o2 ((Nb _).2 (.inr Hv)))
    show aK b=some o
    simp only[aK]
    rw[if_neg hf]
    cases h2:xS.ro b with
    |none=>exact h1
    |some o2=>
     have e1:=ht.jI.ro b o2 h2
     rw[ht.frame b (adU b eg) (ar8 b eg),hw.ro b o h1] at e1
     exact e1.symm
  refine⟨g',w',es,⟨aK,xS.rw++fr⟩,bS,bV,⟨aRa,ht.size,fun b hb hn=>?_,fun b hb=>?_,fun b hb=>?_,ht.os,ht.output,ht.tape,fun e he=>?_,ht.low⟩,hT' bV _ aBz⟩
  ·exact ht.frame b hb fun⟨o,ho⟩=>hn ⟨o,(Nb _).2 (.inl ho)⟩
  ·obtain⟨o,ho⟩:=hb
   rcases List.mem_append.1 ho with ho|ho
   ·rcases ht.own b ⟨o,ho⟩ with h3| ⟨o3,h3⟩
    ·exact .inl h3
    ·exact .inr ⟨o3,(Nb _).2 (.inl h3)⟩
   ·exact .inr ⟨o,(Nb _).2 (.inr ho)⟩
  ·have hb:aK b≠none:=hb
   cases hr:aK b with
   |none=>exact absurd hr hb
   |some o=>
    obtain⟨hn,h1| ⟨_,h2⟩⟩:=ar9 b o hr
    ·rcases ht.Kh b (by rw[h1];simp) with h3|h3| ⟨o3,h3⟩
     ·exact .inl h3
     ·cases h4:s1.ro b with
      |none=>exact absurd h4 h3
      |some o4=>
       rcases hc.aE b o4 h4 with h5|h5
       ·exact .inr (.inl (by rw[h5];simp))
       ·exact absurd ⟨_,hB _ h5⟩ hn
     ·exact .inr (.inr ⟨o3,(Nb _).2 (.inl h3)⟩)
    ·exact .inr (.inl (by rw[h2];simp))
  ·have QS:=ht.uM e he
   have anN:∀b,(∃o,(b,o)∈s1.rw)→s.iQ b:=fun b ⟨o,ho⟩=>⟨o,(Nb _).2 (.inl ho)⟩
   have aAe:∀b,s1.ro b≠none→s.ro b≠none∨s.iQ b:=fun b hb=>by
    cases h4:s1.ro b with
    |none=>exact absurd h4 hb
    |some o4=>
     rcases hc.aE b o4 h4 with h5|h5
     ·exact .inl (by rw[h5];simp)
     ·exact .inr ⟨o4,(Nb _).2 (.inr (hB _ h5))⟩
   unfold Hn at*
   split at QS
   ·refine⟨QS.1,?_⟩
    rcases QS.2 with h1|h1| ⟨h1,h2⟩
    ·exact .inl h1
    ·exact .inr (.inl (anN _ h1))
    ·rcases aAe _ h2 with h3|h3
     ·exact .inr (.inr ⟨h1,h3⟩)
     ·exact .inr (.inl h3)
   ·refine⟨QS.1,?_⟩
    rcases QS.2 with h1|h1| ⟨h1,h2⟩
    ·exact .inl h1
    ·exact .inr (.inl (anN _ h1))
    ·rcases aAe _ h2 with h3|h3
     ·exact .inr (.inr ⟨h1,h3⟩)
     ·exact .inr (.inl h3)
   ·exact QS
   ·exact QS
 mono:=fun g s1 xS hl h bV s hc=>by
  refine wN hT bV fun⟨w,hw⟩=>?_
  obtain⟨R,hR,zy⟩:=hl
  have Nb:∀x,x∈s.rw↔x∈xS.rw∨x∈fr:=fun x=>by rw[hc.rw.mem_iff,List.mem_append]
  have atP:∀x,x∈R→x∈s.rw:=fun x hx=>(Nb x).2 (.inl (hR.mem_iff.2 (List.mem_append_right _ hx)))
  classical
  let oT:Nat→Option Obj:=fun b=>if hx:∃o,(b,o)∈R then some (Classical.choose hx) else s.ro b
  have FU:∀b o,(b,o)∈R→oT b=some o:=fun b o hb=>by
   have hx:∃o,(b,o)∈R:=⟨o,hb⟩
   simp only[oT]
   rw[dif_pos hx]
   have h1:=hw.rw b _ (atP _ (Classical.choose_spec hx))
   rw[hw.rw b o (atP _ hb)] at h1
   cases h1;rfl
  have ia:∀b o,s.ro b=some o→oT b=some o:=fun b o hb=>by
   simp only[oT]
   rw[dif_neg]
   ·exact hb
   ·rintro⟨o2,Hv⟩
    rw[hw.apart b o2 (atP _ Hv)] at hb;cases hb
  refine hT.mono g ⟨oT,s1.rw++fr⟩ s ⟨R,?_,fun b o hb=>?_⟩ (h bV _ ⟨.refl _,fun b o hb=>?_,fun b o hb=>ia b o (hc.keep b o hb)⟩)
  ·refine hc.rw.trans ((List.Perm.append_right fr hR).trans ?_)
   rw[List.append_assoc,List.append_assoc]
   exact List.Perm.append_left _ List.perm_append_comm
  ·simp only[oT] at hb
   split at hb
   ·rename_i hx
    simp only[Option.some.injEq] at hb
    exact .inr (hb▸Classical.choose_spec hx)
   ·exact .inl hb
  ·rcases zy b o hb with h1|h1
   ·exact(hc.aE b o h1).imp (ia b o) id
   ·exact .inl (FU b o h1)
theorem Fn.frame{f:FuncId}{s1 s:St}{R:Ending→St→Prop}{fr:Cells}{ro:Nat→Option Obj}(hf:Fn (CP P) P f args s1 R)(hB:∀x∈B,x∈fr)(hc:ZC fr B ro s1 s):
 Fn (CP P) P f args s (fun en s'=>∃xS,R en xS∧ZC fr B ro xS s'):=
 fun main T hT c cs k1 k2=>hf main _ (Ak hT hB ro) c cs (fun v xS hv _ s' sC=>k1 v s' ⟨xS,hv,sC⟩) (fun ch xS hv _ s' sC=>k2 ch s' ⟨xS,hv,sC⟩) rfl s hc
def eI(P:Program)(f:FuncId)(args:List Value)(ro:Nat→Option Obj)(own:Cells)(Φ:Value→Cells→Prop):Prop:=
 Fn (CP P) P f ⟨args⟩ ⟨ro,own⟩ (fun en s'=>∃v X,en= .returned v∧s'=⟨ro,X⟩∧Φ v X)
abbrev dL(P:Program)(f:FuncId)(args:List Value)(ro:Nat→Option Obj)(V:Value):Prop:=eI P f args ro [] (fun v X=>v=V∧X=[])
theorem eI.mono{f:FuncId}{args:List Value}{ro:Nat→Option Obj}{own:Cells}{Φ':Value→Cells→Prop}(h:eI P f args ro own Φ)(hk:∀v X,Φ v X→Φ' v X):eI P f args ro own Φ':=
 Fn.mono h fun _ _ ⟨v,X,h1,h2,h3⟩=>⟨v,X,h1,h2,hk v X h3⟩
theorem Mi{ro:Nat→Option Obj}:Ext ⟨ro,[]⟩ ⟨ro,rw⟩:=fun _ _ h=>h.elim .inl (fun h=>by cases h)
theorem tM{ro aK:Nat→Option Obj}(h:Sub ro aK):Ext ⟨ro,[]⟩ ⟨aK,[]⟩:=fun b o hb=>hb.elim (fun hb=> .inl (h b o hb)) (fun hb=>by cases hb)
def bL(ro:Nat→Option Obj)(v:Value)(sz:Nat)(enc:α→List Value)(ps:List α):Prop:=
 ∃a b o cap,v= .slice a ps.length cap∧ps.length≤cap∧(∀k,k <ps.length→a=some ⟨b,o,none⟩)∧∀i p,ps[i]?=some p→cA ⟨ro,[]⟩ b (o+i*sz) sz (enc p)
theorem bL.nil(ro:Nat→Option Obj)(sz:Nat)(enc:α→List Value)(a:Option Addr)(cap:Nat):bL ro (.slice a 0 cap) sz enc []:=⟨a,0,0,cap,rfl,Nat.zero_le _,fun k h=>absurd h (Nat.not_lt_zero k),fun i p hp=>by simp at hp⟩
theorem bL.up{ro aK:Nat→Option Obj}{v:Value}{enc:α→List Value}{ps:List α}(h:bL ro v sz enc ps)(hs:Sub ro aK):bL aK v sz enc ps:=by
 obtain⟨a,b,o,cap,h1,h4,h2,h3⟩:=h
 exact⟨a,b,o,cap,h1,h4,h2,fun i p hp=>(h3 i p hp).ext (tM hs)⟩
section rules
variable {P:Program} {C:Class} {fn:FuncId} {aC:Option Nat} {Q:Post} {s:St} {n:Nat} {env:Env} {D:List Deferred}
variable {ops:Array Oper} {i:Nat} {rest:List Nat} {dst:Option Tmp} {ty:TypeId} {pos:String} {dc:Array Edge} {g:Option (Nat×Bool)}
variable {T:TypeId} {d:TypeDesc} {sz bE:Nat} {z:List Value} {ag:Bool} {ro:Nat→Option Obj} {rw:Cells}
theorem ab.more{a:Act}(hC:∀main T,C main T→Closed P main T){s':St}(hl:s.le s')(h:ab C fn aC ops todo Q a s):ab C fn aC ops todo Q a s':=
 fun main T hT b k cs h1 h2 h3 h4=>(hC _ _ hT).mono _ _ _ hl (h main T hT b k cs h1 h2 h3 h4)
theorem ajy{a:Act}(hC:∀main T,C main T→Closed P main T)(h:(∃w,aU s w)→ab C fn aC ops todo Q a s):ab C fn aC ops todo Q a s:=
 fun main T hT b k cs h1 h2 h3 h4=>wN (hC _ _ hT) rfl fun hw=>h hw main T hT b k cs h1 h2 h3 h4
theorem aoT{a:Act}{c:Code}(hC:∀main T,C main T→Closed P main T)(h:(∃w,aU s w)→Wp C fn aC c Q a s):Wp C fn aC c Q a s:=
 fun main T hT b k cs h1 h2 h3 h4=>wN (hC _ _ hT) rfl fun hw=>h hw main T hT b k cs h1 h2 h3 h4
theorem af9{f:FuncId}{R:Ending→St→Prop}(hC:∀main T,C main T→Closed P main T)(h:(∃w,aU s w)→Fn C P f args s R):Fn C P f args s R:=
 fun main T hT c cs h1 h2=>wN (hC _ _ hT) rfl fun hw=>h hw main T hT c cs h1 h2
theorem Wl(hp:rw.Perm (X++s.rw))(hw:∃w,aU ⟨s.ro,rw⟩ w):∃aK,Sub s.ro aK∧(∀x∈X,aK x.1=some x.2)∧(⟨aK,s.rw⟩:St).le ⟨s.ro,rw⟩:=by
 classical
 obtain⟨w,hw⟩:=hw
 have yU:∀x,x∈X→x∈rw:=fun x hx=>hp.mem_iff.2 (List.mem_append_left _ hx)
 refine⟨fun b=>if hx:∃o,(b,o)∈X then some (Classical.choose hx) else s.ro b,fun b o hb=>?_,fun x hx=>?_,X,hp.trans List.perm_append_comm,fun b o hb=>?_⟩
 ·simp only
  rw[dif_neg]
  ·exact hb
  ·rintro⟨o2,Hv⟩
   have:=hw.apart b o2 (yU _ Hv)
   rw[show s.ro b=none from this] at hb;cases hb
 ·obtain⟨b,o⟩:=x
  have lH:∃o,(b,o)∈X:=⟨o,hx⟩
  simp only
  rw[dif_pos lH]
  have h1:=hw.rw b _ (yU _ (Classical.choose_spec lH))
  rw[hw.rw b o (yU _ hx)] at h1
  cases h1;rfl
 ·simp only at hb
  split at hb
  ·rename_i hx
   simp only[Option.some.injEq] at hb
   exact .inr (hb▸Classical.choose_spec hx)
  ·exact .inl hb
theorem Xc{a:Act}{c:Code}(hC:∀main T,C main T→Closed P main T)(hp:ZH.Perm (X++rw))(h:∀aK,Sub ro aK→(∀x∈X,aK x.1=some x.2)→Wp C fn aC c Q a ⟨aK,rw⟩):Wp C fn aC c Q a ⟨ro,ZH⟩:=
 aoT hC fun hw=>by
  obtain⟨aK,h1,h2,h3⟩:=Wl (s:=⟨ro,rw⟩) hp hw
  exact(h aK h1 h2).more hC h3
theorem R9{a:Act}(hC:∀main T,C main T→Closed P main T)(hp:ZH.Perm (X++rw))(h:∀aK,Sub ro aK→(∀x∈X,aK x.1=some x.2)→ab C fn aC ops todo Q a ⟨aK,rw⟩):ab C fn aC ops todo Q a ⟨ro,ZH⟩:=
 ajy hC fun hw=>by
  obtain⟨aK,h1,h2,h3⟩:=Wl (s:=⟨ro,rw⟩) hp hw
  exact(h aK h1 h2).more hC h3
theorem eI.use{f:FuncId}{own fr:Cells}(hp:s.rw.Perm (own++fr))(hB:∀x∈B,x∈fr)(hf:∀aE,Sub s.ro aE→(∀x∈B,aE x.1=some x.2)→eI P f vs aE own Φ):
 Fn (CP P) P f ⟨vs⟩ s (fun en s'=>∃v X,en= .returned v∧Φ v X∧(⟨s.ro,X++fr⟩:St).le s'):=by
 refine af9 eW fun⟨w,hw⟩=>?_
 classical
 have yU:∀x,x∈B→x∈s.rw:=fun x hx=>hp.mem_iff.2 (List.mem_append_right _ (hB x hx))
 let aE:Nat→Option Obj:=fun b=>if hx:∃o,(b,o)∈B then some (Classical.choose hx) else s.ro b
 have h1:Sub s.ro aE:=fun b o hb=>by
  simp only[aE]
  rw[dif_neg]
  ·exact hb
  ·rintro⟨o2,Hv⟩
   rw[hw.apart b o2 (yU _ Hv)] at hb;cases hb
 have h2:∀x∈B,aE x.1=some x.2:=fun⟨b,o⟩ hx=>by
  have lH:∃o,(b,o)∈B:=⟨o,hx⟩
  simp only[aE]
  rw[dif_pos lH]
  have h3:=hw.rw b _ (yU _ (Classical.choose_spec lH))
  rw[hw.rw b o (yU _ hx)] at h3
  cases h3;rfl
 refine Fn.mono (Fn.frame (fr:=fr) (B:=B) (ro:=s.ro) (s:=s) (hf aE h1 h2) hB ⟨hp,fun b o hb=>?_,Sub.refl _⟩) fun en s' CG=>?_
 ·simp only[aE] at hb
  split at hb
  ·rename_i hx
   simp only[Option.some.injEq] at hb
   exact .inr (hb▸Classical.choose_spec hx)
  ·exact .inl hb
 ·obtain⟨xS,⟨v,X,rfl,rfl,pU⟩,hc⟩:=CG
  exact⟨v,X,rfl,pU,[],by simpa using hc.rw,fun b o hb=> .inl (hc.keep b o hb)⟩
theorem acr(hC:∀main T,C main T→Closed P main T){f:FuncId}{own fr:Cells}(ho:ops[i]?=some ⟨dst,.call ⟨.value x,xs,at_⟩,ty,pos,dc,g⟩) (hw:az ops n env g=true)
 (hv:bu n env x=some (.func (.func f) fi ca)) (ff:FF P f) (hx:uM n env xs=some vs) (ry:fi++⟨vs⟩++ca=⟨ws⟩) (hp:s.rw.Perm (own++fr)) (hB:∀x∈B,x∈fr) (hf:∀aE,Sub s.ro aE→(∀x∈B,aE x.1=some x.2)→eI P f ws aE own Φ)
 (h:∀v X,Φ v X→ab C fn aC ops rest Q (A n (upd dst v env) D) ⟨s.ro,X++fr⟩):ab C fn aC ops (i::rest) Q (A n env D) s:=
 tC hC ho hw hv ff hx ry ((eI.use hp hB hf).weaken hC) (fun v' s' hr=>by obtain⟨v,X,e,h1,h2⟩:=hr;cases e;exact(h _ X h1).more hC h2) (fun ch s' hr=>by obtain⟨_,_,e,_⟩:=hr;cases e) (fun s' hr=>by obtain⟨_,_,e,_⟩:=hr;cases e)
theorem dL.use{f:FuncId}{V:Value}{sz:St}(hez:Ext s sz)(hf:∀aE,(∀b o,s.has b o→aE b=some o)→dL P f vs aE V):Fn (CP P) P f ⟨vs⟩ sz (fun e s'=>e= .returned V∧sz.le s'):=by
 refine af9 eW fun⟨w,hw⟩=>?_
 refine Fn.mono (eI.use (s:=sz) (own:=[]) (fr:=sz.rw) (B:=sz.rw) (.refl _) (fun _ h=>h) (fun aE h1 h2=>hf aE fun b o hb=>?_)) fun en s' CG=>?_
 ·rcases hez b o hb with h3|h3
  ·exact h1 b o h3
  ·exact h2 _ h3
 ·obtain⟨v,X,e,⟨h1,h2⟩,h3⟩:=CG
  subst h1 h2
  exact⟨e,h3⟩
theorem OD(hC:∀main T,C main T→Closed P main T){f:FuncId}{V:Value}{s0:St}(ho:ops[i]?=some ⟨dst,.call ⟨.value x,xs,at_⟩,ty,pos,dc,g⟩) (hw:az ops n env g=true)
 (hv:bu n env x=some (.func (.func f) fi ca)) (ff:FF P f) (hx:uM n env xs=some vs) (ry:fi++⟨vs⟩++ca=⟨ws⟩) (hez:Ext s0 s) (hf:∀aE,(∀b o,s0.has b o→aE b=some o)→dL P f ws aE V) (h:ab C fn aC ops rest Q (A n (upd dst V env) D) s):ab C fn aC ops (i::rest) Q (A n env D) s:=
 tC hC ho hw hv ff hx ry ((dL.use hez hf).weaken hC) (fun v' s' hr=>by obtain⟨e,h1⟩:=hr;cases e;exact h.more hC h1) (fun ch s' hr=>by cases hr.1) (fun s' hr=>by cases hr.1)
theorem EK{ro aE:Nat→Option Obj}(h:∀b o,(⟨ro,rw⟩:St).has b o→aE b=some o):Sub ro aE:=fun b o hb=>h b o (.inl hb)
theorem aD.lq{v:Value}{T:TypeId}{enc:α→List Value}{ps:List α}{L:Cells}{aE:Nat→Option Obj}(h:aD v sz T enc ps L)(hL:∀x∈L,aE x.1=some x.2):bL aE v sz enc ps:=by
 obtain⟨a,b,o,cap,h1,h2,h3⟩:=h.sl (s:=⟨aE,[]⟩) fun x hx=> .inl (hL x hx)
 refine⟨a,b,o,cap,h1,?_,h2,h3⟩
 rcases h with ⟨_,g2,_⟩| ⟨b',l,aS7,g1,_,_,g4,_⟩
 ·subst g2;exact Nat.zero_le _
 ·rw[g1] at h1;cases h1;exact g4
end rules
section rules
variable {P:Program} {C:Class} {fn:FuncId} {aC:Option Nat} {Q:Post} {s:St} {n:Nat} {env:Env} {D:List Deferred}
variable {ops:Array Oper} {i:Nat} {rest:List Nat} {dst:Option Tmp} {ty:TypeId} {pos:String} {dc:Array Edge} {g:Option (Nat×Bool)}
variable {T:TypeId} {d:TypeDesc} {sz bE:Nat} {z:List Value} {ag:Bool}
theorem Sc(hC:∀main T,C main T→Closed P main T)(ho:ops[i]?=some ⟨dst,.range T x,ty,pos,dc,g⟩) (hw:az ops n env g=true) (tf:TF P T .string sz bE z ag) (hx:bu n env x=some (.string b))
 (h:∀r,¬s.knows r→ab C fn aC ops rest Q (A n (upd dst (.pointer (some ⟨r,0,none⟩)) env) D) ⟨s.ro,(r,.stringIter b 0)::s.rw⟩):ab C fn aC ops (i::rest) Q (A n env D) s:=by
 refine bR hC ho hw (by simp) ?_
 simp only[execOp,Instr.range,aa,bh tf,aG hx,af,nW]
 intro r hr
 have:=h r hr
 rw[←a8] at this
 exact this
theorem XZ(hC:∀main T,C main T→Closed P main T){r p:Nat}{L R:Cells}(ho:ops[i]?=some ⟨dst,.next x true,ty,pos,dc,g⟩) (hw:az ops n env g=true) (hx:bu n env x=some (.pointer (some ⟨r,0,none⟩))) (hs:s.rw=L++(r,.stringIter b p)::R) (hp:p <b.size)
 (h:ab C fn aC ops rest Q (A n (upd dst (.tuple ⟨[.bool true,.int .i64 p,.int .i32 (Utf8.decode b p).1]⟩) env) D) ⟨s.ro,L++(r,.stringIter b (p+(Utf8.decode b p).2))::R⟩):ab C fn aC ops (i::rest) Q (A n env D) s:=by
 refine bR hC ho hw (by simp) ?_
 simp only[execOp,Instr.next,aa,aG hx]
 refine cE (o:= .stringIter b p) (.inr (by rw[hs];simp)) rfl rfl ?_
 simp only[aa,hp,if_true]
 refine eC (o:= .stringIter b (p+(Utf8.decode b p).2)) rfl hs rfl ?_
 rw[←a8] at h
 exact h
theorem X3(hC:∀main T,C main T→Closed P main T){r p:Nat}{L R:Cells}(ho:ops[i]?=some ⟨dst,.next x true,ty,pos,dc,g⟩) (hw:az ops n env g=true) (hx:bu n env x=some (.pointer (some ⟨r,0,none⟩))) (hs:s.rw=L++(r,.stringIter b p)::R) (hp:¬p <b.size)
 (h:ab C fn aC ops rest Q (A n (upd dst (.tuple ⟨[.bool false]⟩) env) D) s):ab C fn aC ops (i::rest) Q (A n env D) s:=by
 refine bR hC ho hw (by simp) ?_
 simp only[execOp,Instr.next,aa,aG hx]
 refine cE (o:= .stringIter b p) (.inr (by rw[hs];simp)) rfl rfl ?_
 simp only[aa,hp,if_false]
 rw[←a8] at h
 exact h
end rules
theorem cA.part{s:St}{b m:Nat}(h:cA s b o m vs)(j k:Nat)(hj:sub vs j k=some ws):cA s b (o+j) k ws:=by
 obtain⟨l,t,fz,h1,h2⟩:=h
 obtain⟨h3,h4⟩:=sub_eq _ _ _ _ h2
 obtain⟨h5,h6⟩:=sub_eq _ _ _ _ hj
 refine⟨l,t,fz,h1,?_⟩
 have hlen:(o+j)+k≤l.length:=by
  rcases Nat.eq_zero_or_pos k with h0|h0
  ·subst h0
   have:o+j≤l.length:=by
    have h7:sub vs j 0=some ws:=hj
    have hjl:j≤vs.length:=by
     have key:∀(l:List Value) (j:Nat) (ws:List Value),sub l j 0=some ws→j≤l.length:=by
      intro l
      induction l with
      |nil=>intro j ws h;cases j with
       |zero=>simp
       |succ j=>simp[sub] at h
      |cons x l ih=>intro j ws h;cases j with
       |zero=>simp
       |succ j=>have:=ih j ws (by simpa [sub] using h);simp;omega
     exact key _ _ _ h7
    have hol:o+m≤l.length∨m=0:=by
     rcases Nat.eq_zero_or_pos m with h8|h8
     ·exact .inr h8
     ·left
      have:=h4 (m-1) vs[m-1] (by rw[List.getElem?_eq_getElem])
      have:=(List.getElem?_eq_some_iff.1 this).1
      omega
    rcases hol with h9|h9
    ·omega
    ·have aNn:∀(l:List Value) (o:Nat) (ws:List Value),sub l o 0=some ws→o≤l.length:=by
      intro l
      induction l with
      |nil=>intro j ws h;cases j with
       |zero=>simp
       |succ j=>simp[sub] at h
      |cons x l ih=>intro j ws h;cases j with
       |zero=>simp
       |succ j=>have:=ih j ws (by simpa [sub] using h);simp;omega
     rw[h9] at h2
     have:=aNn _ _ _ h2
     omega
   omega
  ·have:=h6 (k-1) ws[k-1] (by rw[List.getElem?_eq_getElem])
   have:=h4 _ _ this
   have:=(List.getElem?_eq_some_iff.1 this).1
   omega
 rw[iK hlen]
 congr 1
 apply List.ext_getElem?
 intro i
 by_cases hi:i <k
 ·have h7:=h4 _ _ (h6 i ws[i] (by rw[List.getElem?_eq_getElem]))
  rw[List.getElem?_take_of_lt hi,List.getElem?_drop,List.getElem?_eq_getElem (show i <ws.length by omega),←h7,Nat.add_assoc]
 ·rw[List.getElem?_eq_none (by simp;omega),List.getElem?_eq_none (by omega)]
def Ok(ag:Bool)(l:List Value)(o sz:Nat):Option Value:=bif ag then (match sub l o sz with|some m=>some (.agg ⟨m⟩)|none=>none) else nth l o
theorem UG{s:St}{t:TypeId}{z:List Value}{d:TypeDesc}{bE:Nat}{ag:Bool}(tf:TF P t d sz bE z ag){l:List Value}{v:Value}(hv:Ok ag l o sz=some v){k:Value→Sem α}{Q:α→St→Prop}{E:Halt→St→Prop}:bN P (part t ⟨l⟩ o >>= k) s Q E=bN P (k v) s Q E:=by
 cases ag with
 |false=>exact J8 tf hv
 |true=>
  simp only[Ok,cond_true] at hv
  split at hv
  ·rename_i m hm
   cases hv
   exact J7 tf hm
  ·cases hv
section rules
variable {P:Program} {C:Class} {fn:FuncId} {aC:Option Nat} {Q:Post} {s:St} {n:Nat} {env:Env} {D:List Deferred}
variable {ops:Array Oper} {i:Nat} {rest:List Nat} {dst:Option Tmp} {ty:TypeId} {pos:String} {dc:Array Edge} {g:Option (Nat×Bool)}
variable {T:TypeId} {d:TypeDesc} {sz bE:Nat} {z:List Value} {ag:Bool}
theorem aco(hC:∀main T,C main T→Closed P main T){y:Operand}{E:TypeId}{k:IntKind}{ix:Int}{len:Nat}{d':TypeDesc}{ij uF:Nat}{z':List Value}{we:Bool}{l:List Value}{v:Value}(ho:ops[i]?=some ⟨dst,.index T x y,ty,pos,dc,g⟩) (hw:az ops n env g=true)
 (tf:TF P T (.array len E) sz bE z ag) (jL:TF P E d' ij uF z' we) (hx:bu n env x=some (.agg ⟨l⟩)) (hy:bu n env y=some (.int k ix)) (hi:0≤ix∧ix <len) (hv:Ok we l (ix.toNat*ij) ij=some v)
 (h:ab C fn aC ops rest Q (A n (upd dst v env) D) s):ab C fn aC ops (i::rest) Q (A n env D) s:=by
 refine bR hC ho hw (by simp) ?_
 simp only[execOp,Instr.index,aG hx,aG hy,asIntOf,asAgg,aa,af,bh tf,hi,and_self,if_true,cm jL]
 rw[UG jL hv,←a8] at*
 exact h
end rules
section rules
variable {P:Program} {C:Class} {fn:FuncId} {aC:Option Nat} {Q:Post} {s:St} {n:Nat} {env:Env} {D:List Deferred}
variable {ops:Array Oper} {i:Nat} {rest:List Nat} {dst:Option Tmp} {ty:TypeId} {pos:String} {dc:Array Edge} {g:Option (Nat×Bool)}
theorem wr(hC:∀main T,C main T→Closed P main T){l:List Nat}(hl:List.range ops.size=l)(h:ab C fn aC ops l Q (A n env D) s):Wp C fn aC (.region id ops false) Q (A n env D) s:=wp_region hC (hl▸h)
theorem on(hC:∀main T,C main T→Closed P main T){K:Act→St→Prop}(h:K (A n env D) s):ab C fn aC ops [] (lP K Q) (A n env D) s:=tw hC h
end rules
theorem c:∀main T,CP P main T→Closed P main T:=eW
end Go.L

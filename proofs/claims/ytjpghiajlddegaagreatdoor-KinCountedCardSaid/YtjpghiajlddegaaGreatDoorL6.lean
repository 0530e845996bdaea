/- Part 6 of the proof: a program logic, contracts, a theorem on goroutines. -/
import Derived.Test.YtjpghiajlddegaaGreatDoorL5
import Derived.Conc.Own2
import Derived.Conc.TokenWalk
set_option maxRecDepth 100000
set_option linter.all false
namespace Go.L
open Go Go.Conc
open Go.ConcR (KK wgBlock WgAt stA smA rd wr)
variable {s cs gR:List Frame} {P:Program} {f fr:Frame} {rest l:List Code} {main:Bool} {T:Goroutine→St→Prop} {vs ws:List Value} {x:Operand} {α:Type} {xs:Array Operand} {ca args fi:Array Value} {todo:List Nat} {W id o sz i:Nat} {b:ByteArray} {ats at_:Array TypeId} {ty:TypeId} {st sm:Int}
section
variable {P:Program} {main:Bool} {ty:TypeId} {W:Nat} {c:Ju} {fr:Frame} {gR cs:List Frame} {w:World} {o:OV} {ws:List (Nat×Value)} {es:List Event} {bs:List Nat}
theorem toArr(P:Program)(fn:FuncId)(es:List Event):(uh P fn es).toArray=seen P fn es.toArray:=by simp[uh]
theorem aa0(hm:fr.mode= .run)(h:aa1 P ty c fr gR=some (o,ws,es,bs))(hb:∀b∈bs,b=W)(hc:(c=iO∧bs=[])∨lN ty W w c)(cs:List Frame)(main:Bool):o.is P main (G fr (gR++cs)) w (J6 W w ws) es.toArray cs:=by
 rcases fr with ⟨fn,tmps,todo,defers,mode,kind,ro⟩
 simp only at hm;subst hm
 unfold aa1 at h
 simp only at h
 split at h<;>try (cases h;done)
 rename_i ops i rest k
 cases hw:(((ops[i]?).map (Region.wanted · (yielded ops tmps))).getD false&& !(U2 kind)) with
 |false=>rw[hw] at h;cases h
 |true=>
 rw[hw] at h;simp only[cond_true] at h
 simp only[Bool.and_eq_true] at hw
 have hk:(kind==CallKind.early)=false:=by cases kind<;>first|rfl|cases hw.2
 split at h<;>try (cases h;done)
 rename_i op ax
 have gq:∀cs,stepG P main (G ⟨fn,tmps,.inRegion ops (i::rest)::k,defers,.run,kind,none⟩ cs) w=stepG.apply P true ⟨fn,tmps,.inRegion ops (i::rest)::k,defers,.run,kind,none⟩ cs none (execOp (Frame.eval ⟨fn,tmps,.inRegion ops (i::rest)::k,defers,.run,kind,none⟩) op) w:=by
  intro cs
  simp only[G,stepG,stepG.exec,hw.1,if_true,stepG.oper,ax]
 split at h<;>try (cases h;done)
 all_goals
  rename_i heq hv
  simp only[Option.some.injEq,Prod.mk.injEq] at h
  obtain⟨rfl,rfl,rfl,rfl⟩:=h
  have bN:=JI _ (w:=w) #[] hv hb hc
  simp only[RH.to,Array.empty_append] at bN
  simp only[OV.is]
  rw[gq]
  simp only[stepG.apply,bN,if_true,hk,Bool.false_eq_true,if_false,GStep.after,Array.append_empty,G,toArr]
 all_goals first|rfl| (simp[seen_none];done)
theorem ahM(hm:fr.mode= .returning)(h:anZ P ty c fr gR=some (o,ws,es,bs))(hb:∀b∈bs,b=W)(hc:(c=iO∧bs=[])∨lN ty W w c)(cs:List Frame)(main:Bool):o.is P main (G fr (gR++cs)) w (J6 W w ws) es.toArray cs:=by
 rcases fr with ⟨fn,tmps,todo,defers,mode,kind,ro⟩
 simp only at hm;subst hm
 unfold anZ at h
 simp only at h
 split at h
 ·split at h<;>try (cases h;done)
  rename_i f hf
  split at h<;>try (cases h;done)
  rename_i v ws' dV vW hv
  have bN:=fun hb hc=>JI _ (w:=w) #[] hv (W:=W) hb hc
  simp only[RH.to,Array.empty_append] at bN
  have key:(∀b∈vW,b=W)→((c=iO∧vW=[])∨lN ty W w c)→∀cs,stepG P main (G ⟨fn,tmps,todo,[],.returning,kind,ro⟩ cs) w=GStep.after (seen P fn dV.toArray) (doReturn P main ⟨fn,tmps,todo,[],.returning,kind,ro⟩ cs none v (J6 W w ws')):=by
   intro hb hc cs
   simp only[G,stepG,unwind,hf,bN hb hc]
  split at h
  ·split at h<;>try (cases h;done)
   ·simp only[Option.some.injEq,Prod.mk.injEq] at h
    obtain⟨rfl,rfl,rfl,rfl⟩:=h
    simp only[OV.is]
    rw[key hb hc]
    simp only[List.cons_append,doReturn,GStep.after,Array.append_empty,toArr,G]
   ·split at h<;>try (cases h;done)
    rename_i q fT hmq
    simp only[Option.some.injEq,Prod.mk.injEq] at h
    obtain⟨rfl,rfl,rfl,rfl⟩:=h
    simp only[OV.is]
    rw[key hb hc]
    simp only[List.cons_append,doReturn,hmq,GStep.after,Array.append_empty,toArr,G]
  ·split at h<;>try (cases h;done)
   ·simp only[Option.some.injEq,Prod.mk.injEq] at h
    obtain⟨rfl,rfl,rfl,rfl⟩:=h
    intro q Hg hq
    subst hq
    rw[key hb hc]
    simp only[List.nil_append,doReturn,GStep.after,Array.append_empty,toArr,G]
   ·simp only[Option.some.injEq,Prod.mk.injEq] at h
    obtain⟨rfl,rfl,rfl,rfl⟩:=h
    intro q Hg hq hmq
    subst hq
    rw[key hb hc]
    rcases hmq with hmq| ⟨ch,hmq⟩
    ·simp only[List.nil_append,doReturn,hmq,GStep.after,Array.append_empty,toArr,G]
    ·simp only[List.nil_append,doReturn,hmq,GStep.after,Array.append_empty,toArr,G]
 ·rename_i d ds
  cases hd:ayp d.target with
  |false=>rw[hd] at h;cases h
  |true=>
  rw[hd] at h;simp only[cond_true] at h
  rcases d with ⟨tg,args⟩
  cases tg with
  |fn f cap=>
   split at h<;>try (cases h;done)
   all_goals
    rename_i hv
    simp only[Option.some.injEq,Prod.mk.injEq] at h
    obtain⟨rfl,rfl,rfl,rfl⟩:=h
    have bN:=JI _ (w:=w) #[] hv hb hc
    simp only[RH.to,Array.empty_append] at bN
    simp only[OV.is]
    simp only[G,stepG,unwind,callDeferred,bN,GStep.after,toArr,Array.append_empty,Bool.false_and,Bool.false_eq_true,if_false,List.cons_append]
  |_=>cases hd
theorem qG(h:Nz P ty c fr gR=some (o,ws,es,bs))(hb:∀b∈bs,b=W)(hc:(c=iO∧bs=[])∨lN ty W w c)(cs:List Frame)(main:Bool):o.is P main (G fr (gR++cs)) w (J6 W w ws) es.toArray cs:=by
 unfold Nz at h
 split at h<;>try (cases h;done)
 ·rename_i hm
  split at h
  ·rename_i nj XP
   simp only[Option.some.injEq,Prod.mk.injEq] at h
   obtain⟨rfl,rfl,rfl,rfl⟩:=h
   exact akD hm XP w
  ·exact aa0 hm h hb hc cs main
 ·rename_i hm
  exact ahM hm h hb hc cs main
end
def afC:Event→Option (Nat×Nat×List Nat)
 | ⟨.mark .disable,false,true⟩=>some (1,0,[])
 | ⟨.mark .enable,false,true⟩=>some (2,0,[])
 | ⟨.mark (.releaseMerge ⟨b,o,none⟩),false,true⟩=>some (3,o,[b])
 | ⟨.mark (.acquire ⟨b,o,none⟩),false,true⟩=>some (4,o,[b])
 | ⟨.mark (.read ⟨b,o,none⟩),false,true⟩=>some (5,o,[b])
 | ⟨.mark (.write ⟨b,o,none⟩),false,true⟩=>some (6,o,[b])
 | ⟨.cell ⟨b,o,none⟩,false,true⟩=>some (7,o,[b])
 | ⟨.cell ⟨b,o,none⟩,true,true⟩=>some (8,o,[b])
 |_=>none
def SZ(W:Nat)(x:Nat×Nat):Event:=
 match x.1 with
 |1=>said .disable
 |2=>said .enable
 |3=>said (.releaseMerge ⟨W,x.2,none⟩)
 |4=>said (.acquire ⟨W,x.2,none⟩)
 |5=>said (.read ⟨W,x.2,none⟩)
 |6=>said (.write ⟨W,x.2,none⟩)
 |7=>⟨.cell ⟨W,x.2,none⟩,false,true⟩
 |_=>⟨.cell ⟨W,x.2,none⟩,true,true⟩
theorem afB{e:Event}{k:Nat}{bs:List Nat}(h:afC e=some (k,o,bs))(hb:∀b∈bs,b=W):e=SZ W (k,o):=by
 unfold afC at h
 split at h<;>try (cases h;done)
 all_goals
  simp only[Option.some.injEq,Prod.mk.injEq] at h
  obtain⟨rfl,rfl,rfl⟩:=h
 ·rfl
 ·rfl
 all_goals
  have:=hb _ (List.mem_singleton.2 rfl)
  subst this
  rfl
def Gw:List Event→Option (List (Nat×Nat)×List Nat)
 | []=>some ([],[])
 |e::l=>match afC e,Gw l with
  |some (k,o,b),some (r,bs)=>some ((k,o)::r,b++bs)
  |_,_=>none
theorem Jk:∀ {es:List Event} {ks:List (Nat×Nat)} {bs:List Nat},Gw es=some (ks,bs)→(∀b∈bs,b=W)→es=ks.map (SZ W)
 | [],ks,bs,h,hb=>by simp only[Gw,Option.some.injEq,Prod.mk.injEq] at h;obtain⟨rfl,rfl⟩:=h;rfl
 |e::l,ks,bs,h,hb=>by
  simp only[Gw] at h
  split at h<;>try (cases h;done)
  rename_i k o b r vW h1 h2
  simp only[Option.some.injEq,Prod.mk.injEq] at h
  obtain⟨rfl,rfl⟩:=h
  rw[List.map_cons,←afB h1 (fun x hx=>hb x (by simp[hx])),←Jk h2 (fun x hx=>hb x (by simp[hx]))]
abbrev Bl:=Option (List Nat)
def af2:List Nat→Bl→Bl
 |a,some b=>some (a++b)
 |_,none=>none
def both:Bl→Bl→Bl
 |some a,some b=>some (a++b)
 |_,_=>none
def af7(f:α→Bl):List α→Bl
 | []=>some []
 |x::l=>both (f x) (af7 f l)
theorem LQ{a bs:List Nat}{x:Bl}(h:af2 a x=some bs)(hb:∀b∈bs,b=W):(∀b∈a,b=W)∧∃y,x=some y∧∀b∈y,b=W:=by
 cases x with
 |none=>cases h
 |some y=>
  simp only[af2,Option.some.injEq] at h;subst h
  exact⟨fun b hm=>hb b (by simp[hm]),y,rfl,fun b hm=>hb b (by simp[hm])⟩
theorem Aw{bs:List Nat}{x y:Bl}(h:both x y=some bs)(hb:∀b∈bs,b=W):(∃a,x=some a∧∀b∈a,b=W)∧∃a,y=some a∧∀b∈a,b=W:=by
 cases x with
 |none=>cases h
 |some a=>
  cases y with
  |none=>cases h
  |some b=>
   simp only[both,Option.some.injEq] at h;subst h
   exact⟨⟨a,rfl,fun b hm=>hb b (by simp[hm])⟩,b,rfl,fun b hm=>hb b (by simp[hm])⟩
theorem Ed{f:α→Bl}:∀ {l:List α} {bs:List Nat},af7 f l=some bs→(∀b∈bs,b=W)→∀x∈l,∃a,f x=some a∧∀b∈a,b=W
 | [],_,_,_,x,hx=>by cases hx
 |y::l,bs,h,hb,x,hx=>by
  obtain⟨h1,h2,h3,h4⟩:=Aw h hb
  rcases List.mem_cons.1 hx with rfl|hx
  ·exact h1
  ·exact Ed h3 h4 x hx
def Cw(P:Program)(ty:TypeId):Nat→Frame→List Frame→(Frame→List Frame→Bl)→Bl
 |0,_,_,_=>none
 |n+1,fr,gR,k=>match Nz P ty iO fr gR with
  |some (.go nj fT,[],[],bs)=>af2 bs (Cw P ty n nj fT k)
  |_=>k fr gR
def anB(P:Program)(ty:TypeId)(c:Ju)(fr:Frame)(gR:List Frame):Option (Frame×List Frame×List (Nat×Value)×List (Nat×Nat)×List Nat×List Nat):=
 match Nz P ty c fr gR with
 |some (.go nj fT,ws,es,bs)=>match Gw es with
  |some (ks,b2)=>some (nj,fT,ws,ks,bs,b2)
  |none=>none
 |_=>none
def i64(n:Int):Value:= .int .u64 n
def i32(n:Int):Value:= .int .u32 n
def Tb:List (Nat×Nat)→List (Nat×Nat)→Bool
 | [],[]=>true
 | (a,b)::l,(c,d)::m=>Nat.beq a c&&(Nat.beq b d&&Tb l m)
 |_,_=>false
theorem V0:∀ {l m:List (Nat×Nat)},Tb l m=true→l=m
 | [],[],_=>rfl
 | (a,b)::l,(c,d)::m,h=>by
  simp only[Tb,Bool.and_eq_true] at h
  rw[Nat.eq_of_beq_eq_true h.1,Nat.eq_of_beq_eq_true h.2.1,V0 h.2.2]
 | [],_::_,h=>by simp[Tb] at h
 |_::_,[],h=>by simp[Tb] at h
def Yr:List (Nat×Value)→Option (Nat×IntKind×Int)→Bool
 | [],none=>true
 | [(o,.int k n)],some (o',k',n')=>Nat.beq o o'&&(decide (k=k')&&decide (n=n'))
 |_,_=>false
theorem Yq{l:List (Nat×Value)}(h:Yr l none=true):l=[]:=by
 unfold Yr at h
 split at h
 ·rfl
 ·rename_i heq;cases heq
 ·cases h
theorem Yp{l:List (Nat×Value)}{k:IntKind}{n:Int}(h:Yr l (some (o,k,n))=true):l=[(o,.int k n)]:=by
 unfold Yr at h
 split at h
 ·rename_i heq;cases heq
 ·rename_i heq
  cases heq
  simp only[Bool.and_eq_true,decide_eq_true_eq] at h
  rw[Nat.eq_of_beq_eq_true h.1,h.2.1,h.2.2]
 ·cases h
def CV(P:Program)(ty:TypeId)(c:Ju)(m:Bool)(wr:Option (Nat×IntKind×Int))(ks:List (Nat×Nat))(fr:Frame)(gR:List Frame)(k:Frame→List Frame→Bl):Bl:=
 match anB P ty c fr gR with
 |some (nj,fT,ws,ks',b1,b2)=>bif Yr ws wr&&(Tb ks' ks&&(!m||b1.isEmpty)) then af2 b1 (af2 b2 (k nj fT)) else none
 |none=>none
section
variable {P:Program} {ty:TypeId} {W:Nat}
theorem ahD{c:Ju}{nj:Frame}{fT:List Frame}{ws:List (Nat×Value)}{ks:List (Nat×Nat)}{b1 b2:List Nat}(h:anB P ty c fr gR=some (nj,fT,ws,ks,b1,b2))(h1:∀b∈b1,b=W)(h2:∀b∈b2,b=W)
 {w:World}(hc:(c=iO∧b1=[])∨lN ty W w c)(cs:List Frame)(main:Bool):stepG P main (G fr (gR++cs)) w= .go (G nj (fT++cs)) (J6 W w ws) (ks.map (SZ W)).toArray:=by
 unfold anB at h
 split at h<;>try (cases h;done)
 rename_i h0
 split at h<;>try (cases h;done)
 rename_i hk
 simp only[Option.some.injEq,Prod.mk.injEq] at h
 obtain⟨rfl,rfl,rfl,rfl,rfl,rfl⟩:=h
 have:=qG h0 h1 hc cs main
 simp only[OV.is] at this
 rw[this,Jk hk h2]
def wrote(W:Nat)(w:World):Option (Nat×IntKind×Int)→World
 |none=>w
 |some (o,k,n)=>w.setCell ⟨W,o,none⟩ (.int k n)
theorem gH{c:Ju}{m:Bool}{x:Option (Nat×IntKind×Int)}{ks:List (Nat×Nat)}{k:Frame→List Frame→Bl}{bs:List Nat}(h:CV P ty c m x ks fr gR k=some bs)(hb:∀b∈bs,b=W):
 ∃nj fT vW,k nj fT=some vW∧(∀b∈vW,b=W)∧∀cs main w,((c=iO∧m=true)∨lN ty W w c)→stepG P main (G fr (gR++cs)) w= .go (G nj (fT++cs)) (wrote W w x) (ks.map (SZ W)).toArray:=by
 unfold CV at h
 split at h<;>try (cases h;done)
 rename_i nj fT ws ks' b1 b2 hv
 cases hq:(Yr ws x&&(Tb ks' ks&&(!m||b1.isEmpty))) with
 |false=>rw[hq] at h;cases h
 |true=>
 rw[hq] at h;simp only[cond_true] at h
 simp only[Bool.and_eq_true] at hq
 obtain⟨q1,q2,q3⟩:=hq
 obtain⟨h1,y,hy,PW⟩:=LQ h hb
 obtain⟨h2,z,hz,Da⟩:=LQ hy PW
 refine⟨nj,fT,z,hz,Da,fun cs main w hc=>?_⟩
 have:=ahD hv h1 h2 (w:=w) (by
  rcases hc with ⟨hc,hm⟩|hc
  ·subst hm
   simp at q3
   exact .inl ⟨hc,q3⟩
  ·exact .inr hc) cs main
 rw[this,V0 q2]
 cases x with
 |none=>rw[Yq q1];rfl
 |some x=>
  obtain⟨o,kd,n⟩:=x
  rw[Yp q1];rfl
theorem SI{k:Frame→List Frame→Bl}:∀ {n:Nat} {fr:Frame} {gR:List Frame} {bs:List Nat},Cw P ty n fr gR k=some bs→(∀b∈bs,b=W)→
 ∀(T:Frame→List Frame→Prop),(∀nj fT vW,k nj fT=some vW→(∀b∈vW,b=W)→T nj fT)→
 (∀fr gR nj fT,(∀cs main w,lN ty W w iO→stepG P main (G fr (gR++cs)) w= .go (G nj (fT++cs)) w #[])→T nj fT→T fr gR)→T fr gR
 |0,_,_,_,h,_,_,_,_=>by cases h
 |n+1,fr,gR,bs,h,hb,T,hk,hs=>by
  simp only[Cw] at h
  split at h
  ·rename_i nj fT b1 h0
   obtain⟨h1,y,hy,PW⟩:=LQ h hb
   refine hs fr gR nj fT (fun cs main w hc=>?_) (SI hy PW T hk hs)
   have:=qG h0 h1 (.inr hc) cs main
   simp only[OV.is] at this
   rw[this];rfl
  ·exact hk _ _ _ h hb
end
section
variable {ι:Type} (E:dK ι)
theorem Fp{w:World}(h:E.live w):lN E.ty E.Wg w iO:=by
 obtain⟨st,sm,h⟩:=h
 exact⟨_,_,h,by simp,by simp⟩
theorem oh{w:World}(h:WgAt E.ty E.Wg w st sm):lN E.ty E.Wg w (some (i64 st),some (i32 sm)):=⟨_,_,h,by simp[i64],by simp[i32]⟩
theorem aoj{w:World}(h:WgAt E.ty E.Wg w st sm):lN E.ty E.Wg w (none,some (i32 sm)):=⟨_,_,h,by simp,by simp[i32]⟩
variable {E}
theorem fo{Stop:Goroutine→Prop}{k:Frame→List Frame→Bl}{n:Nat}{bs:List Nat}(h:Cw E.P E.ty n fr gR k=some bs)(hb:∀b∈bs,b=E.Wg)
 (hk:∀nj fT vW,k nj fT=some vW→(∀b∈vW,b=E.Wg)→Stop (G nj (fT++cs))):E.pure main Stop (G fr (gR++cs)):=by
 refine SI h hb (fun fr gR=>E.pure main Stop (G fr (gR++cs))) (fun nj fT vW h1 h2=>⟨0,hk _ _ _ h1 h2⟩) fun fr gR nj fT h1 ⟨m,hm⟩=>⟨m+1,rfl,_,fun w hw=>h1 cs main w (Fp E hw),hm⟩
theorem KW{L:Nat→Option Obj}{Q:Machine→Outcome→World→Trace→Prop}{pend d0:Nat}{os:List ι}{s:St}{k:Frame→List Frame→Bl}{n:Nat}{bs:List Nat}(h:Cw E.P E.ty n fr gR k=some bs)(hb:∀b∈bs,b=E.Wg)
 (hk:∀nj fT vW,k nj fT=some vW→(∀b∈vW,b=E.Wg)→TC E L Q pend false os d0 (G nj (fT++cs)) s):TC E L Q pend false os d0 (G fr (gR++cs)) s:=
 SI h hb (fun fr gR=>TC E L Q pend false os d0 (G fr (gR++cs)) s) hk fun fr gR nj fT h1 hT=>TP rfl (fun w hw=>h1 cs true w (Fp E hw)) hT
def goR(P:Program)(ty:TypeId):Nat→Frame→List Frame→Bl
 |0,_,_=>none
 |n+1,fr,gR=>match Nz P ty iO fr gR with
  |some (.go nj fT,[],[],[])=>goR P ty n nj fT
  |some (.ret (.tuple ⟨[]⟩),[],[],[])=>some []
  |_=>none
theorem SG{c:Frame}:∀ {n:Nat} {fr:Frame} {gR:List Frame} {bs:List Nat},goR P ty n fr gR=some bs→
 ∀(main:Bool) (T:Goroutine→Prop),T (G (c.finish (.tuple #[])) cs)→(∀g g',g.status= .running→g'.status= .running→(∀w,stepG P main g w= .go g' w #[])→T g'→T g)→T (G fr (gR++c::cs))
 |0,_,_,_,h,_,_,_,_=>by cases h
 |n+1,fr,gR,bs,h,main,T,hT,hs=>by
  simp only[goR] at h
  split at h
  ·rename_i nj fT h0
   refine hs _ _ rfl rfl (fun w=>?_) (SG h main T hT hs)
   have:=qG (W:=0) (w:=w) h0 (by simp) (.inl ⟨rfl,rfl⟩) (c::cs) main
   simp only[OV.is] at this
   rw[this];rfl
  ·rename_i h0
   refine hs _ _ rfl rfl (fun w=>?_) hT
   have:=qG (W:=0) (w:=w) h0 (by simp) (.inl ⟨rfl,rfl⟩) (c::cs) main
   simp only[OV.is] at this
   have h2:=this c cs rfl
   rw[h2];rfl
  ·cases h
def NO:List Event→Bool
 | []=>true
 |e::l=>e.mute&&NO l
def goQ(P:Program)(ty:TypeId):Nat→Nat→Frame→List Frame→Bl
 |0,_,_,_=>none
 |n+1,d,fr,gR=>match Nz P ty iO fr gR with
  |some (.go nj fT,[],es,[])=>bif NO es then goQ P ty n (deafBehind d es.toArray) nj fT else none
  |some (.aov,[],[],[])=>bif Nat.beq d 0 then some [] else none
  |_=>none
theorem NN:∀ {es:List Event},NO es=true→∀e∈es,e.mute=true
 | [],_,e,he=>by cases he
 |x::l,h,e,he=>by
  simp only[NO,Bool.and_eq_true] at h
  rcases List.mem_cons.1 he with rfl|he
  ·exact h.1
  ·exact NN h.2 e he
theorem SH{c:Frame}{q:Nat}(hc:c.mode= .returning∨∃ch,c.mode= .panicking [⟨ch,false,true⟩])(hq:QuitsD P q 0 (G c cs)):∀ {n d:Nat} {fr:Frame} {gR:List Frame} {bs:List Nat},goQ P ty n d fr gR=some bs→
 ∃q,QuitsD P q d (G fr (gR++c::cs))
 |0,_,_,_,_,h=>by cases h
 |n+1,d,fr,gR,bs,h=>by
  simp only[goQ] at h
  split at h
  ·rename_i nj fT es h0
   cases hm:NO es with
   |false=>rw[hm] at h;cases h
   |true=>
   rw[hm] at h;simp only[cond_true] at h
   obtain⟨q',G5⟩:=SH hc hq h
   refine⟨q'+1,.inr ⟨rfl,_,es.toArray,fun e he=>NN hm e (by simpa using he),fun w=>?_,G5⟩⟩
   have:=qG (W:=0) (w:=w) h0 (by simp) (.inl ⟨rfl,rfl⟩) (c::cs) false
   simp only[OV.is] at this
   rw[this];rfl
  ·rename_i h0
   cases hd:Nat.beq d 0 with
   |false=>rw[hd] at h;cases h
   |true=>
   have:d=0:=Nat.eq_of_beq_eq_true hd
   subst this
   refine⟨q+1,.ctl rfl (fun w=>?_) hq⟩
   have:=qG (W:=0) (w:=w) h0 (by simp) (.inl ⟨rfl,rfl⟩) (c::cs) false
   simp only[OV.is] at this
   have h2:=this c cs rfl hc
   rw[h2];rfl
  ·cases h
end
section
variable (P:Program) (ty:TypeId)
abbrev VT(a b:Int):Ju:=(some (i64 a),some (i32 b))
abbrev awk:List (Nat×Nat):=[(1,0),(7,1),(8,1),(2,0)]
def afP(f:Frame)(s:List Frame):Bl:=bif mayWake P (G f []) then CV P ty (VT 0 0) false (some (1,.u32,1)) awk f s (goQ P ty 300 1) else none
def am5(f:Frame)(s:List Frame):Bl:=CV P ty (VT 1 0) false (some (0,.u64,0)) [(8,0)] f s fun f s=>Cw P ty 300 f s (afP P ty)
def am6(f:Frame)(s:List Frame):Bl:=CV P ty (VT 1 0) false none [(7,0)] f s fun f s=>Cw P ty 300 f s (am5 P ty)
def S4(f:Frame)(s:List Frame)(v wt:Nat):Bl:=
 CV P ty (VT (((v+1:Nat):Int)*KK+(wt:Int)) 0) false (some (0,.u64,(v:Int)*KK+(wt:Int))) [(7,0),(8,0)] f s fun f s=>bif Nat.beq v 0&&Nat.beq wt 1 then Cw P ty 300 f s (am6 P ty) else goQ P ty 300 1 f s
def am7(mx:Nat)(f:Frame)(s:List Frame):Bl:=af7 (fun v=>both (S4 P ty f s v 0) (S4 P ty f s v 1)) (List.range mx)
def am4(mx:Nat)(f:Frame)(s:List Frame):Bl:=CV P ty iO true none [(1,0)] f s fun f s=>Cw P ty 300 f s (am7 P ty mx)
def am3(mx:Nat)(f:Frame)(s:List Frame):Bl:=CV P ty iO true none [(3,0)] f s fun f s=>Cw P ty 300 f s (am4 P ty mx)
def wP(mx:Nat)(f:Frame):Bl:=Cw P ty 300 f [] (am3 P ty mx)
def am8(f:Frame)(s:List Frame):Bl:=CV P ty iO true none [(4,0)] f s (goR P ty 300)
def VS(f:Frame)(s:List Frame):Bl:=CV P ty iO true none [(2,0)] f s fun f s=>Cw P ty 300 f s (am8 P ty)
def am0(f:Frame)(s:List Frame):Bl:=CV P ty (VT 0 0) false none [(7,0)] f s fun f s=>Cw P ty 300 f s (VS P ty)
def aD7(c:Ju)(f:Frame)(s:List Frame):Bl:=match Nz P ty c f s with
 |some (.block,[],[],bs)=>some bs
 |_=>none
def am1(f:Frame)(s:List Frame):Bl:=both (aD7 P ty (none,some (i32 0)) f s) (CV P ty (VT 0 1) false (some (1,.u32,0)) awk f s fun f s=>Cw P ty 300 f s (am0 P ty))
def amZ(f:Frame)(s:List Frame):Bl:=CV P ty iO true none [(6,1)] f s fun f s=>Cw P ty 300 f s (am1 P ty)
def am2(aiL:Frame→List Frame→Bl)(vs:Nat)(f:Frame)(s:List Frame):Bl:=
 both (CV P ty (VT ((vs:Int)*KK) 0) false (some (0,.u64,(vs:Int)*KK+1)) [(7,0),(8,0)] f s fun f s=>Cw P ty 300 f s (amZ P ty))
  (af7 (fun v:Nat=>CV P ty (VT ((v:Int)*KK) 0) false none [(7,0)] f s fun f s=>Cw P ty 300 f s aiL) (List.range vs))
def Pu:Nat→Frame→List Frame→Bl
 |0,f,s=>CV P ty (VT 0 0) false none [(7,0)] f s fun f s=>Cw P ty 300 f s (VS P ty)
 |b+1,f,s=>both (CV P ty (VT 0 0) false none [(7,0)] f s fun f s=>Cw P ty 300 f s (VS P ty))
  (af7 (fun v:Nat=>CV P ty (VT (((v+1:Nat):Int)*KK) 0) false none [(7,0)] f s fun f s=>Cw P ty 300 f s (am2 P ty (Pu b) (v+1))) (List.range (b+1)))
def Ap(mx:Nat)(f:Frame):Bl:=Cw P ty 300 f [] fun f s=>CV P ty iO true none [(1,0)] f s fun f s=>Cw P ty 300 f s (Pu P ty mx)
def GC(v:Nat)(f:Frame):Bl:=
 Cw P ty 300 f [] fun f s=>CV P ty iO true none [(1,0)] f s fun f s=>Cw P ty 300 f s fun f s=>
  CV P ty (VT ((v:Int)*KK) 0) false (some (0,.u64,((v+1:Nat):Int)*KK)) [(7,0),(8,0)] f s fun f s=>Cw P ty 300 f s fun f s=>
   bif Nat.beq v 0 then CV P ty iO false none [(5,1)] f s fun f s=>Cw P ty 300 f s fun f s=>CV P ty iO true none [(2,0)] f s (goR P ty 300)
   else CV P ty iO true none [(2,0)] f s (goR P ty 300)
end
section
variable {ι:Type} {E:dK ι}
section leave
variable {c:Frame} {cs:List Frame} (hc:c.mode= .returning∨∃ch,c.mode= .panicking [⟨ch,false,true⟩]) {q0:Nat} (hq:QuitsD E.P q0 0 (G c cs))
include hc hq
theorem afN{bs:List Nat}(h:afP E.P E.ty f s=some bs)(hb:∀b∈bs,b=E.Wg):E.D4 (G f (s++c::cs)):=by
 unfold afP at h
 cases hm:mayWake E.P (G f []) with
 |false=>rw[hm] at h;cases h
 |true=>
 rw[hm] at h;simp only[cond_true] at h
 obtain⟨f',s',vW,h1,h2,h3⟩:=gH h hb
 exact⟨rfl,hm,_,fun w hw=>h3 _ _ w (.inr (oh E hw)),SH hc hq h1⟩
theorem afQ{bs:List Nat}(h:am5 E.P E.ty f s=some bs)(hb:∀b∈bs,b=E.Wg):E.D3 (G f (s++c::cs)):=by
 obtain⟨f',s',vW,h1,h2,h3⟩:=gH h hb
 exact⟨rfl,_,fun w hw=>h3 _ _ w (.inr (oh E hw)),fo h1 h2 fun _ _ _ k1 k2=>afN hc hq k1 k2⟩
theorem afR{bs:List Nat}(h:am6 E.P E.ty f s=some bs)(hb:∀b∈bs,b=E.Wg):E.D2 (G f (s++c::cs)):=by
 obtain⟨f',s',vW,h1,h2,h3⟩:=gH h hb
 exact⟨rfl,_,fun w hw=>h3 _ _ w (.inr (oh E hw)),fo h1 h2 fun _ _ _ k1 k2=>afQ hc hq k1 k2⟩
theorem afS{bs:List Nat}(h:am7 E.P E.ty E.max f s=some bs)(hb:∀b∈bs,b=E.Wg):E.D1 (G f (s++c::cs)):=by
 refine⟨rfl,fun v wt hwt hv=>?_⟩
 obtain⟨a,h1,h2⟩:=Ed h hb v (List.mem_range.2 hv)
 have key:∃a,S4 E.P E.ty f s v wt=some a∧∀b∈a,b=E.Wg:=by
  obtain⟨k1,k2⟩:=Aw h1 h2
  match wt,hwt with
  |0,_=>exact k1
  |1,_=>exact k2
 obtain⟨a',k1,k2⟩:=key
 obtain⟨f',s',vW,j1,j2,j3⟩:=gH k1 k2
 refine⟨_,fun w hw=>j3 _ _ w (.inr (oh E hw)),fun hh=>?_,fun hh=>?_⟩
 ·obtain⟨rfl,rfl⟩:=hh
  exact fo j1 j2 fun _ _ _ k1 k2=>afR hc hq k1 k2
 ·have:(Nat.beq v 0&&Nat.beq wt 1)=false:=by
   cases hx:(Nat.beq v 0&&Nat.beq wt 1) with
   |false=>rfl
   |true=>
    simp only[Bool.and_eq_true] at hx
    exact absurd ⟨Nat.eq_of_beq_eq_true hx.1,Nat.eq_of_beq_eq_true hx.2⟩ hh
  rw[this] at j1;simp only[cond_false] at j1
  exact SH hc hq j1
theorem afM{bs:List Nat}(h:am4 E.P E.ty E.max f s=some bs)(hb:∀b∈bs,b=E.Wg):E.K1 (G f (s++c::cs)):=by
 obtain⟨f',s',vW,h1,h2,h3⟩:=gH h hb
 exact⟨rfl,_,fun w=>h3 _ _ w (.inl ⟨rfl,rfl⟩),fo h1 h2 fun _ _ _ k1 k2=>afS hc hq k1 k2⟩
theorem afL{bs:List Nat}(h:am3 E.P E.ty E.max f s=some bs)(hb:∀b∈bs,b=E.Wg):E.R0 (G f (s++c::cs)):=by
 obtain⟨f',s',vW,h1,h2,h3⟩:=gH h hb
 exact⟨rfl,_,fun w=>h3 _ _ w (.inl ⟨rfl,rfl⟩),fo h1 h2 fun _ _ _ k1 k2=>afM hc hq k1 k2⟩
theorem GB{bs:List Nat}(h:wP E.P E.ty E.max f=some bs)(hb:∀b∈bs,b=E.Wg):E.pure false E.R0 (G f (c::cs)):=
 fo (gR:=[]) h hb fun _ _ _ k1 k2=>afL hc hq k1 k2
end leave
section close
variable {c:Frame} {cs:List Frame} {st:St} (hT:eG E.P false E.HW (G (c.finish (.tuple #[])) cs) st)
include hT
theorem afT{bs:List Nat}(h:am8 E.P E.ty f s=some bs)(hb:∀b∈bs,b=E.Wg):E.Aq st (G f (s++c::cs)):=by
 obtain⟨f',s',vW,h1,h2,h3⟩:=gH h hb
 have key:=SG (c:=c) (cs:=cs) h1 false (fun g=>eG E.P false E.HW g st) hT fun g g' hg hg' bL hT'=>(dM _ _ _).go hg hg' bL hT'
 obtain⟨tr,gP,hle,ht⟩:=key
 exact⟨rfl,_,fun w=>h3 _ _ w (.inl ⟨rfl,rfl⟩),tr,gP,hle,ht⟩
theorem GA{bs:List Nat}(h:VS E.P E.ty f s=some bs)(hb:∀b∈bs,b=E.Wg):E.Ke st (G f (s++c::cs)):=by
 obtain⟨f',s',vW,h1,h2,h3⟩:=gH h hb
 exact⟨rfl,_,fun w=>h3 _ _ w (.inl ⟨rfl,rfl⟩),fo h1 h2 fun _ _ _ k1 k2=>afT hT k1 k2⟩
theorem afI{bs:List Nat}(h:am0 E.P E.ty f s=some bs)(hb:∀b∈bs,b=E.Wg):E.W4 st (G f (s++c::cs)):=by
 obtain⟨f',s',vW,h1,h2,h3⟩:=gH h hb
 exact⟨rfl,_,fun w hw=>h3 _ _ w (.inr (oh E hw)),fo h1 h2 fun _ _ _ k1 k2=>GA hT k1 k2⟩
theorem afJ{bs:List Nat}(h:am1 E.P E.ty f s=some bs)(hb:∀b∈bs,b=E.Wg):E.W3 st (G f (s++c::cs)):=by
 obtain⟨⟨b1,k1,k2⟩,b2,k3,k4⟩:=Aw h hb
 obtain⟨f',s',vW,h1,h2,h3⟩:=gH k3 k4
 refine⟨rfl,rfl,fun w n hw=>?_,_,fun w hw=>h3 _ _ w (.inr (oh E hw)),fo h1 h2 fun _ _ _ k1 k2=>afI hT k1 k2⟩
 unfold aD7 at k1
 split at k1<;>try (cases k1;done)
 rename_i h0
 simp only[Option.some.injEq] at k1;subst k1
 have:=qG h0 k2 (w:=w) (.inr (aoj E hw)) (c::cs) false
 simp only[OV.is] at this
 rw[this];rfl
theorem afH{bs:List Nat}(h:amZ E.P E.ty f s=some bs)(hb:∀b∈bs,b=E.Wg):E.Wr st (G f (s++c::cs)):=by
 obtain⟨f',s',vW,h1,h2,h3⟩:=gH h hb
 exact⟨rfl,_,fun w=>h3 _ _ w (.inl ⟨rfl,rfl⟩),fo h1 h2 fun _ _ _ k1 k2=>afJ hT k1 k2⟩
theorem afK{aiL:Frame→List Frame→Bl}{agh:Goroutine→Prop}(hm:∀f s bs,aiL f s=some bs→(∀b∈bs,b=E.Wg)→agh (G f (s++c::cs))){vs:Nat}{bs:List Nat}(h:am2 E.P E.ty aiL vs f s=some bs)(hb:∀b∈bs,b=E.Wg):
 E.W2 (E.pure false agh) st vs (G f (s++c::cs)):=by
 obtain⟨⟨b1,k1,k2⟩,b2,k3,k4⟩:=Aw h hb
 obtain⟨f',s',vW,h1,h2,h3⟩:=gH k1 k2
 refine⟨rfl,⟨_,fun w hw=>h3 _ _ w (.inr (oh E hw)),fo h1 h2 fun _ _ _ k1 k2=>afH hT k1 k2⟩,fun v hv=>?_⟩
 obtain⟨a,j1,j2⟩:=Ed k3 k4 v (List.mem_range.2 hv)
 obtain⟨f2,s2,bs2,i1,i2,i3⟩:=gH j1 j2
 exact⟨_,fun w hw=>i3 _ _ w (.inr (oh E hw)),fo i1 i2 fun _ _ _ k1 k2=>hm _ _ _ k1 k2⟩
theorem Pt:∀ {b:Nat} {f:Frame} {s:List Frame} {bs:List Nat},Pu E.P E.ty b f s=some bs→(∀b∈bs,b=E.Wg)→E.W1 st b (G f (s++c::cs))
 |0,f,s,bs,h,hb=>by
  simp only[Pu] at h
  obtain⟨f',s',vW,h1,h2,h3⟩:=gH h hb
  exact⟨rfl,_,fun w hw=>h3 _ _ w (.inr (oh E hw)),fo h1 h2 fun _ _ _ k1 k2=>GA hT k1 k2⟩
 |b+1,f,s,bs,h,hb=>by
  simp only[Pu] at h
  obtain⟨⟨b1,k1,k2⟩,b2,k3,k4⟩:=Aw h hb
  obtain⟨f',s',vW,h1,h2,h3⟩:=gH k1 k2
  refine⟨rfl,⟨_,fun w hw=>h3 _ _ w (.inr (oh E hw)),fo h1 h2 fun _ _ _ k1 k2=>GA hT k1 k2⟩,fun v hv1 hv2=>?_⟩
  obtain⟨u,rfl⟩:∃u,v=u+1:=⟨v-1,by omega⟩
  obtain⟨a,j1,j2⟩:=Ed k3 k4 u (List.mem_range.2 (by omega))
  obtain⟨f2,s2,bs2,i1,i2,i3⟩:=gH j1 j2
  exact⟨_,fun w hw=>i3 _ _ w (.inr (oh E hw)),fo i1 i2 fun _ _ _ k1 k2=>afK hT (agh:=E.W1 st b) (fun _ _ _ m1 m2=>Pt m1 m2) k1 k2⟩
theorem Gz{bs:List Nat}(h:Ap E.P E.ty E.max f=some bs)(hb:∀b∈bs,b=E.Wg):E.closes st (G f (c::cs)):=
 fo (gR:=[]) h hb fun _ _ _ k1 k2=>by
  obtain⟨f',s',vW,h1,h2,h3⟩:=gH k1 k2
  exact⟨rfl,_,fun w=>h3 _ _ w (.inl ⟨rfl,rfl⟩),fo h1 h2 fun _ _ _ k1 k2=>Pt hT k1 k2⟩
end close
theorem Jm{L:Nat→Option Obj}{Q:Machine→Outcome→World→Trace→Prop}{os:List ι}{s:St}{c:Frame}{bs:List Nat}(h:GC E.P E.ty os.length f=some bs)(hb:∀b∈bs,b=E.Wg)(HF:os.length <E.max)
 (hT:TC E L Q 1 false os 0 (G (c.finish (.tuple #[])) cs) s):TC E L Q 0 false os 0 (G f (c::cs)) s:=by
 have pY:∀ {f:Frame} {gR:List Frame} {bs:List Nat},CV E.P E.ty iO true none [(2,0)] f gR (goR E.P E.ty 300)=some bs→(∀b∈bs,b=E.Wg)→TC E L Q 1 false os 1 (G f (gR++c::cs)) s:=by
  intro f gR bs h hb
  obtain⟨f',s',vW,h1,h2,h3⟩:=gH h hb
  refine DM (lD:=1) (d':=0) rfl rfl (fun w st sm hw hz _=>⟨w,h3 _ _ w (.inl ⟨rfl,rfl⟩),eB.refl w,by obtain⟨rfl,rfl⟩:=hz rfl;exact hw⟩) (by intro e he;simp[SZ] at he;subst he;exact .inr (.inl rfl)) rfl id ?_
  exact SG (c:=c) (cs:=cs) h1 true (fun g=>TC E L Q 1 false os 0 g s) hT fun g g' hg hg' bL hT'=>TP hg (fun w _=>bL w) hT'
 refine KW (gR:=[]) h hb fun f1 s1 b1 k1 k2=>?_
 obtain⟨f',s',vW,h1,h2,h3⟩:=gH k1 k2
 refine DM (lD:=0) (d':=1) rfl rfl (fun w st sm hw hz _=>⟨w,h3 _ _ w (.inl ⟨rfl,rfl⟩),eB.refl w,by obtain⟨rfl,rfl⟩:=hz rfl;exact hw⟩) (by intro e he;simp[SZ] at he;subst he;exact .inl rfl) rfl id ?_
 refine KW h1 h2 fun f2 s2 b2 k1 k2=>?_
 obtain⟨f',s',vW,h1,h2,h3⟩:=gH k1 k2
 refine DM (lD:=1) (d':=1) rfl rfl (fun w st sm hw hz _=>⟨_,h3 _ _ w (.inr ?_),eB.set w 0 _,?_⟩) (by
  intro e he;simp[SZ] at he
  rcases he with rfl|rfl<;>exact nA 0 _) rfl (fun _=>HF) ?_
 ·obtain⟨rfl,rfl⟩:=hz rfl
  exact oh E hw
 ·obtain⟨rfl,rfl⟩:=hz rfl
  exact Go.ConcR.WgAt.setSt hw _
 refine KW h1 h2 fun f3 s3 b3 k1 k2=>?_
 cases hz:Nat.beq os.length 0 with
 |false=>
  rw[hz] at k1;simp only[cond_false] at k1
  exact pY k1 k2
 |true=>
  rw[hz] at k1;simp only[cond_true] at k1
  obtain⟨f',s',vW,h1,h2,h3⟩:=gH k1 k2
  refine ahQ rfl (fun w hw=>h3 _ _ w (.inr (Fp E hw))) ?_
  exact KW h1 h2 fun f4 s4 b4 k1 k2=>pY k1 k2
end
def CA(P:Program):Class:=fun main T=>Closed P main T
def aai:Code→Nat
 | .seq a b=>aai a+aai b+1
 |_=>0
def gv(l:List Code):List Code:=l.flatMap iy
section
variable {P:Program} {main:Bool} {T:Goroutine→St→Prop} {b:Frame} {k:List Item} {cs:List Frame} {a:Act} {s:St} {n LF:Nat} {D:List Deferred} {call:bU} {ops:Array Oper}
 {ρ:aR} {ce e:Env} {m:Mem} {F:Nat×Obj→Prop} {R:Nat→Option Obj}
abbrev On(T:Goroutine→St→Prop)(b:Frame)(a:Act)(l:List Code)(k:List Item)(cs:List Frame)(s:St):Prop:=T (G (aH b a (l.map .code++k)) cs) s
theorem nn(hT:Closed P main T){c0:Code}:∀ {l:List Code},gv l=c0::rest→(∀l',gv l'=rest→T (G (aH b a (.code c0::(l'.map .code++k))) cs) s)→On T b a l k cs s:=by
 intro l
 generalize hn:(l.map aai).sum=q
 induction q using Nat.strongRecOn generalizing l with
 |_ q ih=>
  intro hl h
  cases l with
  |nil=>cases hl
  |cons c l=>
   cases hc:c with
   |seq x y=>
    subst hc
    refine hT.go rfl rfl (g':=G (aH b a ((x::y::l).map .code++k)) cs) (fun w=>by simp[G,stepG,stepG.exec,aH]) ?_
    refine ih ((x::y::l).map aai).sum ?_ rfl ?_ h
    ·rw[←hn];simp[aai];omega
    ·rw[←hl];simp[gv,iy]
   |_=>
    subst hc
    simp only[gv,List.flatMap_cons,iy,List.singleton_append,List.cons.injEq] at hl
    obtain⟨rfl,hl⟩:=hl
    exact h l hl
theorem dB(hT:Closed P main T)(hl:gv l= .region id ops false::rest)(h:∀l',gv l'=rest→T (G (aH b a (.inRegion ops (List.range ops.size)::(l'.map .code++k))) cs) s):On T b a l k cs s:=
 nn hT hl fun l' ym=>hT.go rfl rfl (g':=G (aH b a (.inRegion ops (List.range ops.size)::(l'.map .code++k))) cs) (fun w=>by simp[G,stepG,stepG.exec,aH]) (h l' ym)
theorem zg(hT:Closed P main T){c:Operand}{x y:Code}{t:Bool}(hl:gv l= .cond c x y::rest)(hc:a.eval c= .bool t)(h:∀l',gv l'=rest→T (G (aH b a (.code (if t then x else y)::(l'.map .code++k))) cs) s):On T b a l k cs s:=
 nn hT hl fun l' ym=>hT.go rfl rfl (g':=G (aH b a (.code (if t then x else y)::(l'.map .code++k))) cs) (fun w=>by
  have he:=j9 b a (.code (.cond c x y)::(l'.map .code++k))
  simp only[aH] at he
  simp only[G,stepG,stepG.exec,aH,he,hc]) (h l' ym)
theorem u5(hT:Closed P main T){c:Code}(hl:gv l= .block id c::rest)(h:∀l',gv l'=rest→On T b a [c] (.inBlock id::(l'.map .code++k)) cs s):On T b a l k cs s:=
 nn hT hl fun l' ym=>hT.go rfl rfl (g':=G (aH b a (.code c:: .inBlock id::(l'.map .code++k))) cs) (fun w=>by simp[G,stepG,stepG.exec,aH]) (show T (G (aH b a (.code c:: .inBlock id::(l'.map .code++k))) cs) s from h l' ym)
theorem BO(hT:Closed P main T)(h:T (G (aH b a k) cs) s):T (G (aH b a (.inBlock id::k)) cs) s:=
 hT.go rfl rfl (g':=G (aH b a k) cs) (fun w=>by simp[G,stepG,stepG.exec,aH]) h
theorem Kh(hT:Closed P main T){c:Code}(hl:gv l= .loop c::rest)(h:∀l',gv l'=rest→On T b a [c] (.inLoop c::(l'.map .code++k)) cs s):On T b a l k cs s:=
 nn hT hl fun l' ym=>hT.go rfl rfl (g':=G (aH b a (.code c:: .inLoop c::(l'.map .code++k))) cs) (fun w=>by simp[G,stepG,stepG.exec,aH]) (show T (G (aH b a (.code c:: .inLoop c::(l'.map .code++k))) cs) s from h l' ym)
theorem yD(hT:Closed P main T){c:Code}(h:On T b a [c] (.inLoop c::k) cs s):T (G (aH b a (.inLoop c::k)) cs) s:=
 hT.go rfl rfl (g':=G (aH b a (.code c:: .inLoop c::k)) cs) (fun w=>by simp[G,stepG,stepG.exec,aH]) h
theorem Lh(hT:Closed P main T)(h:T (G (aH b a k) cs) s):T (G (aH b a (.code .skip::k)) cs) s:=
 hT.go rfl rfl (g':=G (aH b a k) cs) (fun w=>by simp[G,stepG,stepG.exec,aH]) h
theorem Li(hT:Closed P main T){k':List Item}(hk:exitTo id k=some k')(h:T (G (aH b a k') cs) s):T (G (aH b a (.code (.exit id)::k)) cs) s:=
 hT.go rfl rfl (g':=G (aH b a k') cs) (fun w=>by simp[G,stepG,stepG.exec,aH,hk]) h
theorem gM(hT:Closed P main T)(h:T (G (aH b a k) cs) s):T (G (aH b a (.inRegion ops []::k)) cs) s:=
 hT.go rfl rfl (g':=G (aH b a k) cs) (fun w=>by simp[G,stepG,stepG.exec,aH]) h
theorem p9(id:Nat):∀(l:List Code) (k:List Item),exitTo id (l.map .code++k)=exitTo id k
 | [],k=>rfl
 |c::l,k=>by
  rw[List.map_cons,List.cons_append]
  exact p9 id l k
theorem sb(hT:Closed P main T){rest:List Nat}{o:Oper}(ho:ops[i]?=some o) (hw:Region.wanted o (yielded ops a.tmps)=true) (hk:b.kind≠ .early) (hb:b.roundOf=none)
 (h:bG P (execOp a.eval o) s (fun nx s'=>∃v,nx= .value v∧T (G (aH b (a.put o.dst v) (.inRegion ops rest::k)) cs) s') (fun _ _=>False)):T (G (aH b a (.inRegion ops (i::rest)::k)) cs) s:=by
 have jh:(b.kind==CallKind.early)=false:=by simpa using hk
 have gq:∀w,stepG P main (G (aH b a (.inRegion ops (i::rest)::k)) cs) w=stepG.apply P true (aH b a (.inRegion ops (i::rest)::k)) cs none (execOp a.eval o) w:=by
  intro w
  have he:=j9 b a (.inRegion ops (i::rest)::k)
  simp only[aH] at he
  simp only[G,stepG,stepG.exec,aH,ho,Option.map_some,Option.getD_some,hw,if_true,stepG.oper,Frame.oper?,he]
  rw[hb]
 refine hT.step _ _ rfl fun w oQ=>?_
 obtain⟨r,es,hr,hl⟩:=gz _ _ _ _ w #[] h oQ
 rw[Array.empty_append] at hr
 have mj:=gq w
 simp only[stepG.apply,if_true,hr] at mj
 simp only[aH,jh,Bool.false_eq_true,if_false] at mj
 cases r with
 |ok nx w'=>
  obtain⟨s',ht,v,rfl,hv⟩:=hl
  simp only[GStep.after,Array.append_empty] at mj
  have lT:=fB b a ops i rest k v
  rw[ho] at lT
  simp only[Option.bind_some] at lT
  rw[←lT] at hv
  exact⟨_,_,_,s',mj,rfl,ht.sub (gY P b.fn es),hv⟩
 |halt hh w'=>
  obtain⟨s',ht,hu⟩:=hl
  exact hu.elim
theorem da(o:Oper)(f:Nat→Option Bool)(h:o.guard=none):Region.wanted o f=true:=by unfold Region.wanted;rw[h]
end
def St.freeze(s:St):St:=⟨fun b=>match s.rw.find? (fun x=>x.1==b) with
 |some x=>some x.2
 |none=>s.ro b,[]⟩
theorem nX{l:List (Nat×Obj)}{b:Nat}{x:Nat×Obj}(h:l.find? (fun x=>x.1==b)=some x):x∈l∧x.1=b:=
 ⟨List.mem_of_find?_eq_some h,by simpa using List.find?_some h⟩
theorem vD{l:List (Nat×Obj)}(hn:(l.map (·.1)).Nodup){b:Nat}{o:Obj}(h:(b,o)∈l):l.find? (fun x=>x.1==b)=some (b,o):=by
 induction l with
 |nil=>cases h
 |cons y l ih=>
  rw[List.map_cons,List.nodup_cons] at hn
  rcases List.mem_cons.1 h with rfl|h'
  ·simp
  ·have:y.1≠b:=fun e=>hn.1 (e▸List.mem_map.2 ⟨_,h',rfl⟩)
   rw[List.find?_cons_of_neg (by simpa using this)]
   exact ih hn.2 h'
theorem St.BH(s:St):s.freeze.le s:=by
 refine⟨s.rw,by simp[St.freeze],fun b o h=>?_⟩
 simp only[St.freeze] at h
 split at h
 ·rename_i x hx
  obtain⟨h1,h2⟩:=nX hx
  cases h
  subst h2
  exact .inr h1
 ·exact .inl h
theorem St.ni{s:St}{b:Nat}{o:Obj}(h:s.ro b=some o)(ha:∀b o,(b,o)∈s.rw→s.ro b=none):s.freeze.ro b=some o:=by
 simp only[St.freeze]
 split
 ·rename_i x hx
  obtain⟨h1,h2⟩:=nX hx
  subst h2
  rw[ha x.1 x.2 h1] at h;cases h
 ·exact h
theorem St.sE{s:St}{b:Nat}{o:Obj}(h:(b,o)∈s.rw)(hn:(s.rw.map (·.1)).Nodup):s.freeze.ro b=some o:=by
 simp only[St.freeze,vD hn h]
section
variable {P:Program} {ρ:aR} {m:Mem} {F:Nat×Obj→Prop} {R:Nat→Option Obj} {s:St}
theorem Closed.ju(hT:Closed P main T){g:Goroutine}(hs:g.status= .running)(h:(∃w,aP s w)→T g s):T g s:=by
 by_cases ha:∃w,aP s w
 ·exact h ha
 ·exact hT.step _ _ hs fun w hw=>absurd ⟨w,hw⟩ ha
end
section
variable {P:Program} {main:Bool} {T:Goroutine→St→Prop} {b:Frame} {k:List Item} {cs:List Frame} {a:Act} {s:St} {n LF:Nat} {D:List Deferred} {call:bU} {ops:Array Oper}
 {ρ:aR} {ce e:Env} {m:Mem} {F:Nat×Obj→Prop} {R:Nat→Option Obj}
theorem Nw(hT:Closed P main T){rest:List Nat}{o:Oper}(ho:ops[i]?=some o) (hg:o.guard=none) (hk:b.kind≠ .early) (hb:b.roundOf=none) {f:FuncId} (ax:o.op= .call ⟨.value (.func f),xs,ats⟩) (hf:FF P f)
 (h:T (G (Frame.enter P f (xs.map a.eval) .normal) (aH b a (.inRegion ops (i::rest)::k)::cs)) s):T (G (aH b a (.inRegion ops (i::rest)::k)) cs) s:=by
 have jh:(b.kind==CallKind.early)=false:=by simpa using hk
 have hw:Region.wanted o (yielded ops a.tmps)=true:=da o _ hg
 have vk:bG P (execOp a.eval o) s (fun nx s'=>nx= .enter f (xs.map a.eval)∧s'=s) (fun _ _=>False):=by
  have e1:a.eval (.func f)= .func (.func f) #[] #[]:=rfl
  simp only[execOp,ax,resolve,e1,Deferred.ofValue,aa,ae,invoke]
  have:(#[]++xs.map a.eval:Array Value)++ #[]=xs.map a.eval:=by simp
  rw[this]
  exact jL hf ⟨rfl,rfl⟩
 have gq:∀w,stepG P main (G (aH b a (.inRegion ops (i::rest)::k)) cs) w=stepG.apply P true (aH b a (.inRegion ops (i::rest)::k)) cs none (execOp a.eval o) w:=by
  intro w
  have he:=j9 b a (.inRegion ops (i::rest)::k)
  simp only[aH] at he
  simp only[G,stepG,stepG.exec,aH,ho,Option.map_some,Option.getD_some,hw,if_true,stepG.oper,Frame.oper?,he]
  rw[hb]
 refine hT.step _ _ rfl fun w oQ=>?_
 obtain⟨r,es,hr,hl⟩:=gz _ _ _ _ w #[] vk oQ
 rw[Array.empty_append] at hr
 have mj:=gq w
 simp only[stepG.apply,if_true,hr] at mj
 simp only[aH,jh,Bool.false_eq_true,if_false] at mj
 cases r with
 |ok nx w'=>
  obtain⟨s',ht,rfl,rfl⟩:=hl
  simp only[GStep.after,Array.append_empty] at mj
  exact⟨_,_,_,_,mj,rfl,ht.sub (gY P b.fn es),h⟩
 |halt hh w'=>
  obtain⟨s',ht,hu⟩:=hl
  exact hu.elim
def cB(P:Program):Frame:={(default:Frame) with fn:=P.funcs.size,defers:=[],mode:= .panicking [goexitEntry]}
theorem Nl(P:Program):QuitsD P 1 0 (G (cB P) []):=by
 have hc:(cB P).catches P=false:=by
  simp[Frame.catches,cB]
  rfl
 refine .ctl (g':={(G (cB P) []) with status:= .finished}) rfl (fun w=>?_) ⟨rfl,rfl⟩
 have bL:stepG P false (G (cB P) []) w=unwind P false (cB P) [] none w:=rfl
 rw[bL]
 unfold unwind
 have h1:(cB P).defers=[]:=rfl
 have h2:(cB P).mode= .panicking [goexitEntry]:=rfl
 simp only[h1,h2,hc,Bool.false_eq_true,if_false]
 simp[goexitEntry,G]
theorem nC{fn:Func}(hm:fr.mode= .returning)(hd:fr.defers=[])(hk:fr.kind= .deferred)(hf:P.funcs[fr.fn]?=some fn) (hr:fn.results= #[]):QuitsD P 2 0 (G fr [cB P]):=by
 refine .ctl rfl (fun w=>?_) (Nl P)
 have h1:∀tm,results fn tm=Sem.pure (.tuple #[]):=by intro tm;simp[results,hr];rfl
 rcases fr with ⟨fn',tmps,todo,defers,mode,kind,ro⟩
 simp only at hm hd hk hf
 subst hm hd hk
 simp only[G,stepG,unwind,hf,h1,Sem.runT,seen_none,GStep.after,doReturn,cB,goexitEntry,Array.append_empty]
end
structure PE where
 f:FuncId
 n:Nat
 cl:List Code
 o7:Array Oper
 o:Oper
 sc:Operand
 sv:Operand
 done:FuncId
def goE(P:Program)(ty:TypeId):Nat→Frame→List Frame→Option (Frame×List Frame)
 |0,fr,gR=>some (fr,gR)
 |n+1,fr,gR=>match Nz P ty iO fr gR with
  |some (.go nj fT,[],[],[])=>goE P ty n nj fT
  |_=>none
theorem SJ{T:Goroutine→Prop}(hs:∀g g',g.status= .running→g'.status= .running→(∀w,stepG P main g w= .go g' w #[])→T g'→T g):∀ {n:Nat} {fr nj:Frame} {gR fT:List Frame},goE P ty n fr gR=some (nj,fT)→T (G nj (fT++cs))→T (G fr (gR++cs))
 |0,fr,nj,gR,fT,h,hT=>by simp only[goE,Option.some.injEq,Prod.mk.injEq] at h;obtain⟨rfl,rfl⟩:=h;exact hT
 |n+1,fr,nj,gR,fT,h,hT=>by
  simp only[goE] at h
  split at h<;>try (cases h;done)
  rename_i f1 s1 h0
  refine hs _ _ rfl rfl (fun w=>?_) (SJ hs h hT)
  have:=qG (W:=0) (w:=w) h0 (by simp) (.inl ⟨rfl,rfl⟩) cs main
  simp only[OV.is] at this
  rw[this];rfl
theorem GL{f:FuncId}(hf:FF P f)(ca:Array Value)(w:World):stepG P main (born P {target:= .fn (.func f) ca,args:= #[]}) w= .go (G (Frame.enter P f (#[]++ca) .deferred) [cB P]) w #[]:=by
 obtain⟨fn,h1,h2,h3⟩:=hf.ff
 have bN:(callFunc f (#[]++ca)).runT P w #[]=(.ok (.enter f (#[]++ca)) w,#[]):=by
  show (Sem.program _).runT P w #[]=_
  simp only[Sem.runT,Sem.bind,h1,h2,h3,Bool.false_eq_true,if_false]
  rfl
 simp only[born,stepG,unwind,callDeferred,invoke,bN,GStep.after,seen_none,Bool.false_and,Bool.false_eq_true,if_false,Array.append_empty,G,cB]
structure Jt where
 f:FuncId
 n:Nat
 b:Frame
 q0:Array Oper
 o0:Oper
 rest:Code
 q1:Array Oper
 oc:Oper
 cx:Operand
 wait:FuncId
structure Jt.OK(P:Program)(ty:TypeId)(x:Jt):Prop where
 ff:AR P x.f=true
 fn:∃fn,P.funcs[x.f]?=some fn∧fn.results= #[]∧fn.norace=false
 bf:x.b.fn=x.f∧x.b.kind= .deferred∧x.b.roundOf=none
 enter:∀p1 p2:Value,goE P ty 3 (Frame.enter P x.f #[p1,p2] .deferred) []=some (Frame.enter P x.wait #[p1] .normal,[aH x.b (A x.n (fG 0 [p1,p2]) []) [.inRegion x.q0 [0],.code x.rest]])
 op0:x.q0[0]?=some x.o0
 rest:∃id,gv [x.rest]=[.region id x.q1 false]
 size:x.q1.size=2
 op:x.q1[1]?=some x.oc∧x.oc.guard=none∧∃ats,x.oc.op= .call {callee:= .builtin .close,args:= #[x.cx],argTypes:=ats}
theorem fW(h:gv l=[]):l=[]:=by
 cases l with
 |nil=>rfl
 |cons y l=>
  exfalso
  have:∀c:Code,iy c≠[]:=by
   intro c
   induction c with
   |seq p q ihp ihq=>simp[iy,ihp]
   |_=>simp[iy]
  simp only[gv,List.flatMap_cons,List.append_eq_nil_iff] at h
  exact this y h.1
theorem BM{b:Frame}(h:b.roundOf=none)(a:Act)(todo:List Item):aH b a todo=b.at a todo:=by simp[aH,Frame.at,h]
def Ri(P:Program):Sem Next→Nat→Option (Obj×Value)
 | .new o k,b=>match bk P (k b) with
  |some (.value v)=>some (o,v)
  |_=>none
 | .program k,b=>Ri P (k P) b
 |_,_=>none
theorem Fc{o:Obj}{f:Nat→Value}{s:St}{K:Next→St→Prop}{E:Halt→St→Prop}(hK:∀b,¬s.knows b→K (.value (f b)) ⟨s.ro,(b,o)::s.rw⟩):∀(x:Sem Next),(∀b,Ri P x b=some (o,f b))→bG P x s K E:=by
 intro x
 induction x with
 |new o' k ih=>
  intro h b hb
  have h':=h b
  simp only[Ri] at h'
  split at h'<;>try (cases h';done)
  rename_i v hv
  simp only[Option.some.injEq,Prod.mk.injEq] at h'
  obtain⟨rfl,rfl⟩:=h'
  exact nM hv (hK b hb)
 |program k ih=>intro h;exact ih P h
 |_=>intro h;have:=h 0;simp[Ri] at this
structure qY where
 f:FuncId
 n:Nat
 fn:Func
 o0:Array Oper
 o1:Array Oper
 o2:Array Oper
 o3:Array Oper
 o4:Array Oper
 o5:Array Oper
 o6:Array Oper
 o7:Array Oper
 o8:Array Oper
 o9:Array Oper
 o10:Array Oper
 o11:Array Oper
 Bh:Array Oper
 o13:Array Oper
 o14:Array Oper
 a1:Oper
 a2:Oper
 a6:Oper
 a7:Oper
 a9:Oper
 PD:Oper
 lb:Code
 Co:Code
 rb:Code
 ue:Code
 c4:Operand
 c12:Operand
 b0:Nat
 b1:Nat
 b2:Nat
 b3:Nat
 fin:List Code
 add:FuncId
 akX:Operand
 sp:Operand
 sk:Operand
 rc:Operand
 wk:PE
 cl:Jt
 ty:TypeId
 mx:Nat
def cE(l:List Code)(i:Nat):Array Oper:=match l[i]? with
 |some (.region _ ops _)=>ops
 |_=> #[]
def ep(o:Array Oper)(i:Nat):Oper:=(o[i]?).getD default
def abH(l:List Code)(i:Nat):Nat×Code:=match l[i]? with
 |some (.block id (.loop c))=>(id,c)
 |_=>(0,.skip)
def VX(l:List Code)(i:Nat):Nat×Code:=match l[i]? with
 |some (.block id c)=>(id,c)
 |_=>(0,.skip)
def afA(l:List Code)(i:Nat):Operand:=match l[i]? with
 |some (.cond c _ _)=>c
 |_=> .func 0
def GJ(o:Oper):FuncId:=match o.op with
 | .call ⟨.value (.func f),_,_⟩=>f
 | .defer ⟨.value (.func f),_,_⟩=>f
 |_=>0
def anf(o:Oper)(i:Nat):Operand:=match o.op with
 | .call ⟨_,xs,_⟩=>(xs[i]?).getD (.func 0)
 |_=> .func 0
def aDm(o:Oper):Operand:=match o.op with
 | .go ⟨.value x,_,_⟩=>x
 |_=> .func 0
def amQ(o:Oper):FuncId:=match o.op with
 | .makeFunc (.func f) _ _=>f
 |_=>0
def chanOf(o:Oper):Operand:=match o.op with
 | .recv _ c _=>c
 | .send c _=>c
 |_=> .func 0
def aok(o:Oper):Operand:=match o.op with
 | .send _ x=>x
 |_=> .func 0
def typeOf(o:Oper):TypeId:=match o.op with
 | .alloc t=>t
 |_=>0
def codeOf(P:Program)(f:FuncId):List Code:=match P.funcs[f]? with
 |some fn=>match fn.body with
  |some c=>iy c
  |none=>[]
 |none=>[]
def tmpsOf(P:Program)(f:FuncId):Nat:=match P.funcs[f]? with
 |some fn=>fn.ntmps
 |none=>0
def aow(P:Program)(f:FuncId):Code:=match P.funcs[f]? with
 |some fn=>match fn.body with
  |some (.seq _ c)=>c
  |_=> .skip
 |none=> .skip
def as5(P:Program)(f:FuncId)(mx:Nat):qY:=
 let l:=codeOf P f
 let lb:=abH l 4
 let ll:=iy lb.2
 let bb:=VX ll 2
 let bl:=iy bb.2
 let rb:=abH l 8
 let rl:=iy rb.2
 let rbb:=VX rl 2
 let rbl:=iy rbb.2
 let wf:=amQ (ep (cE bl 2) 0)
 let wl:=codeOf P wf
 let cf:=amQ (ep (cE l 5) 0)
 let cl:=codeOf P cf
 {f,n:=tmpsOf P f,fn:=(P.funcs[f]?).getD default,o0:=cE l 0,o1:=cE l 1,o2:=cE l 2,o3:=cE l 3,o4:=cE ll 0,o5:=cE bl 0,o6:=cE bl 1,o7:=cE bl 2,o8:=cE ll 3,
  o9:=cE l 5,o10:=cE l 6,o11:=cE l 7,Bh:=cE rl 0,o13:=cE rbl 0,o14:=cE rbl 1,
  a1:=ep (cE l 1) 0,a2:=ep (cE l 2) 0,a6:=ep (cE bl 1) 0,a7:=ep (cE bl 2) 1,a9:=ep (cE l 5) 1,PD:=ep (cE rl 0) 0,
  lb:=lb.2,Co:=bb.2,rb:=rb.2,ue:=rbb.2,c4:=afA ll 1,c12:=afA rl 1,b0:=lb.1,b1:=bb.1,b2:=rb.1,b3:=rbb.1,fin:=(l.drop 9).dropLast,
  add:=GJ (ep (cE bl 1) 0),akX:=anf (ep (cE bl 1) 0) 0,sp:=aDm (ep (cE bl 2) 1),sk:=aDm (ep (cE l 5) 1),rc:=chanOf (ep (cE rl 0) 0),
  wk:={f:=wf,n:=tmpsOf P wf,cl:=wl.dropLast,o7:=cE wl (wl.length-1),o:=ep (cE wl (wl.length-1)) 2,sc:=chanOf (ep (cE wl (wl.length-1)) 2),sv:=aok (ep (cE wl (wl.length-1)) 2),done:=GJ (ep (cE wl 0) 0)},
  cl:={f:=cf,n:=tmpsOf P cf,b:={(default:Frame) with fn:=cf,kind:= .deferred,roundOf:=none},q0:=cE cl 0,o0:=ep (cE cl 0) 0,rest:=aow P cf,q1:=cE cl 1,oc:=ep (cE cl 1) 1,cx:=anf (ep (cE cl 1) 1) 0,wait:=GJ (ep (cE cl 0) 0)},
  ty:=typeOf (ep (cE l 2) 0),mx}
theorem wz{k:Nat}:∀b∈List.replicate k W,b=W:=fun b hb=>(List.mem_replicate.1 hb).2
section
variable {gE:Os} {cb:Array (Nat×ByteArray)} {P:Program} {T:Goroutine→St→Prop} {b:Frame} {k:List Item} {cs:List Frame} {a:Act} {s:St} {n LF:Nat} {call:bU} {ops:Array Oper}
 {ρ:aR} {ce e:Env} {m:Mem} {x:qY} {Wg Ch:Nat} {L:Nat→Option Obj} {Q:Machine→Outcome→World→Trace→Prop}
theorem Ec{rest:List Nat}{o:Oper}(ho:ops[i]?=some o) (hg:o.guard=none) (hk:b.kind≠ .early) (hb:b.roundOf=none) {y:Operand} (ax:o.op= .go ⟨.value y,#[],ats⟩) {f:FuncId} (hy:a.eval y= .func (.func f) #[] ca) (w:World):
 stepG P main (G (aH b a (.inRegion ops (i::rest)::k)) cs) w= .spawn (G (aH b (a.put o.dst undef) (.inRegion ops rest::k)) cs) (born P {target:= .fn (.func f) ca,args:= #[]}) w #[]:=by
 have hw:Region.wanted o (yielded ops a.tmps)=true:=da o _ hg
 have hx:execOp a.eval o=Sem.pure (.spawn {target:= .fn (.func f) ca,args:= #[]}):=by
  simp only[execOp,ax,resolve,hy,Deferred.ofValue]
  show Sem.pure (Next.spawn {target:= .fn (.func f) ca,args:= #[]++Array.map a.eval #[]})=_
  simp
 rw[BM hb,BM hb]
 have:=stepG_spawn (P:=P) (main:=main) (b:=b) (a:=a) (k:=k) (cs:=cs) (w:=w) (w':=w) (d:={target:= .fn (.func f) ca,args:= #[]}) ho hw hk (rest:=rest) (by rw[hx];rfl) rfl
 rw[this,listed_none (by rw[hx];rfl)]
end
theorem th:∀ {x:Sem α} {a:α},bk P x=some a→∀(w:World) (es:Array Event),x.runT P w es=(.ok a w,es)
 | .pure _,_,h,w,es=>by simp only[bk,Option.some.injEq] at h;subst h;rfl
 | .program k,_,h,w,es=>th (x:=k _) h w es
def C0(P:Program):Class:=fun main T=>main=true∧∃gE cb Post,T=T0 P gE cb Post
theorem wQ:∀main T,C0 P main T→Closed P main T:=by
 rintro _ _ ⟨rfl,gE,cb,Post,rfl⟩
 exact rR P gE cb Post
abbrev CP(P:Program):Class:=fun main T=>Closed P main T
theorem eL:∀main T,CP P main T→Closed P main T:=fun _ _ h=>h
abbrev Cells:=List (Nat×Obj)
variable {Φ:Value→Cells→Prop} {B X YN rw:Cells}
def Sub(ro aK:Nat→Option Obj):Prop:=∀b o,ro b=some o→aK b=some o
theorem Sub.refl(ro:Nat→Option Obj):Sub ro ro:=fun _ _ h=>h
theorem Sub.trans{a b c:Nat→Option Obj}(h:Sub a b)(k:Sub b c):Sub a c:=fun x o hx=>k x o (h x o hx)
structure YI(fr B:Cells)(ro:Nat→Option Obj)(s1 s:St):Prop where
 rw:s.rw.Perm (s1.rw++fr)
 aA:∀b o,s1.ro b=some o→s.ro b=some o∨(b,o)∈B
 keep:Sub ro s.ro
theorem wO(hT:Closed P main T){g:Goroutine}{s:St}(hg:g.status= .running)(h:(∃w,aP s w)→T g s):T g s:=by
 by_cases hw:∃w,aP s w
 ·exact h hw
 ·exact hT.step g s hg fun w oQ=>absurd ⟨w,oQ⟩ hw
theorem Ab(hT:Closed P main T){fr:Cells}(hB:∀x∈B,x∈fr)(ro:Nat→Option Obj):
 Closed P main (fun g s1=>g.status= .running→∀s,YI fr B ro s1 s→T g s) where
 step:=fun g s1 hg h _ s hc=>by
  refine hT.step g s hg fun w hw=>?_
  have Mm:∀x,x∈s.rw↔x∈s1.rw∨x∈fr:=fun x=>by rw[hc.rw.mem_iff,List.mem_append]
  have lI:=(hc.rw.map (·.1)).nodup_iff.1 hw.nodup
  rw[List.map_append,List.nodup_append] at lI
  obtain⟨hn1,hn2,hn3⟩:=lI
  have aAb:∀b o o',(b,o)∈s1.rw→(b,o')∈fr→False:=fun b o o' h1 h2=>hn3 b (List.mem_map.2 ⟨_,h1,rfl⟩) b (List.mem_map.2 ⟨_,h2,rfl⟩) rfl
  have aP9:aP s1 w:=by
   refine⟨fun b o hb=>?_,fun b o hb=>hw.rw b o ((Mm _).2 (.inl hb)),hn1,fun b o hb=>?_⟩
   ·rcases hc.aA b o hb with h1|h1
    ·exact hw.ro b o h1
    ·exact hw.rw b o ((Mm _).2 (.inr (hB _ h1)))
   ·cases hr:s1.ro b with
    |none=>rfl
    |some o'=>
     rcases hc.aA b o' hr with h1|h1
     ·rw[hw.apart b o ((Mm _).2 (.inl hb))] at h1;cases h1
     ·exact(aAb b o o' hb (hB _ h1)).elim
  obtain⟨g',w',es,xU,bL,bN,ht,hT'⟩:=h w aP9
  have adz:∀b o,(b,o)∈fr→b <w.heap.size:=fun b o hb=>hw.lt (.inr ((Mm _).2 (.inr hb)))
  have ary:∀b o,(b,o)∈fr→¬s1.iC b:=fun b o hb ⟨o',DZ⟩=>aAb b o' o DZ hb
  have aqz:∀b,s.ro b≠none→¬s1.iC b:=fun b hb ⟨o',DZ⟩=>hb (hw.apart b o' ((Mm _).2 (.inl DZ)))
  have acK:∀b,s.ro b≠none→b <w.heap.size:=fun b hb=>by
   cases hr:s.ro b with
   |none=>exact absurd hr hb
   |some o=>exact hw.lt (.inl hr)
  have azY:∀b o,(b,o)∈fr→w'.heap[b]?=some o:=fun b o hb=>by
   rw[ht.frame b (adz b o hb) (ary b o hb)]
   exact hw.rw b o ((Mm _).2 (.inr hb))
  classical
  let aK:Nat→Option Obj:=fun b=>if ∃o,(b,o)∈fr then none else match xU.ro b with
   |some o=>some o
   |none=>s.ro b
  have aqA:∀b o,aK b=some o→¬(∃o,(b,o)∈fr)∧(xU.ro b=some o∨(xU.ro b=none∧s.ro b=some o)):=fun b o hb=>by
   simp only[aK] at hb
   split at hb
   ·cases hb
   ·rename_i hn
    refine⟨hn,?_⟩
    cases h1:xU.ro b with
    |none=>rw[h1] at hb;exact .inr ⟨rfl,hb⟩
    |some o2=>rw[h1] at hb;exact .inl hb
  have aP8:aP ⟨aK,xU.rw++fr⟩ w':=by
   refine⟨fun b o hb=>?_,fun b o hb=>?_,?_,fun b o hb=>?_⟩
   ·obtain⟨_,h1| ⟨_,h2⟩⟩:=aqA b o hb
    ·exact ht.ju.ro b o h1
    ·have dP:s.ro b≠none:=by rw[h2];simp
     rw[ht.frame b (acK b dP) (aqz b dP)]
     exact hw.ro b o h2
   ·rcases List.mem_append.1 hb with hb|hb
    ·exact ht.ju.rw b o hb
    ·exact azY b o hb
   ·show ((xU.rw++fr).map (·.1)).Nodup
    rw[List.map_append,List.nodup_append]
    refine⟨ht.ju.nodup,hn2,fun x hx y hy e=>?_⟩
    obtain⟨⟨b,o⟩,h1,rfl⟩:=List.mem_map.1 hx
    obtain⟨⟨b2,o2⟩,h2,rfl⟩:=List.mem_map.1 hy
    dsimp only at e;subst e
    rcases ht.own b ⟨o,h1⟩ with h3|h3
    ·exact absurd (adz b o2 h2) (by omega)
    ·exact ary b o2 h2 h3
   ·show aK b=none
    rcases List.mem_append.1 hb with hb|hb
    ·cases hr:aK b with
     |none=>rfl
     |some o'=>
      obtain⟨hn,h1| ⟨_,h2⟩⟩:=aqA b o' hr
      ·rw[ht.ju.apart b o hb] at h1;cases h1
      ·have dP:s.ro b≠none:=by rw[h2];simp
       rcases ht.own b ⟨o,hb⟩ with h3|h3
       ·exact absurd (acK b dP) (by omega)
       ·exact(aqz b dP h3).elim
    ·simp only[aK]
     rw[if_pos ⟨o,hb⟩]
  have aAg:YI fr B ro xU ⟨aK,xU.rw++fr⟩:=by
   refine⟨.refl _,fun b o hb=>?_,fun b o hb=>?_⟩
   ·by_cases hf:∃o,(b,o)∈fr
    ·obtain⟨o2,G6⟩:=hf
     have e1:=ht.ju.ro b o hb
     rw[azY b o2 G6] at e1
     cases e1
     rcases ht.JJ b (by rw[hb];simp) with h1|h1|h1
     ·exact absurd (adz b _ G6) (by omega)
     ·cases hr:s1.ro b with
      |none=>exact absurd hr h1
      |some o3=>
       rcases hc.aA b o3 hr with h3|h3
       ·rw[hw.apart b _ ((Mm _).2 (.inr G6))] at h3;cases h3
       ·have e3:=hw.rw b o3 ((Mm _).2 (.inr (hB _ h3)))
        rw[hw.rw b _ ((Mm _).2 (.inr G6))] at e3
        cases e3
        exact .inr h3
     ·exact(ary b _ G6 h1).elim
    ·left
     show aK b=some o
     simp only[aK]
     rw[if_neg hf,hb]
   ·have h1:=hc.keep b o hb
    have dP:s.ro b≠none:=by rw[h1];simp
    have hf:¬ ∃o,(b,o)∈fr:=fun⟨o2,G6⟩=>dP (hw.apart b o2 ((Mm _).2 (.inr G6)))
    show aK b=some o
    simp only[aK]
    rw[if_neg hf]
    cases h2:xU.ro b with
    |none=>exact h1
    |some o2=>
     have e1:=ht.ju.ro b o2 h2
     rw[ht.frame b (acK b dP) (aqz b dP),hw.ro b o h1] at e1
     exact e1.symm
  refine⟨g',w',es,⟨aK,xU.rw++fr⟩,bL,bN,⟨aP8,ht.size,fun b hb hn=>?_,fun b hb=>?_,fun b hb=>?_,ht.os,ht.output,ht.tape,fun e he=>?_,ht.low⟩,hT' bN _ aAg⟩
  ·exact ht.frame b hb fun⟨o,ho⟩=>hn ⟨o,(Mm _).2 (.inl ho)⟩
  ·obtain⟨o,ho⟩:=hb
   rcases List.mem_append.1 ho with ho|ho
   ·rcases ht.own b ⟨o,ho⟩ with h3| ⟨o3,h3⟩
    ·exact .inl h3
    ·exact .inr ⟨o3,(Mm _).2 (.inl h3)⟩
   ·exact .inr ⟨o,(Mm _).2 (.inr ho)⟩
  ·have hb:aK b≠none:=hb
   cases hr:aK b with
   |none=>exact absurd hr hb
   |some o=>
    obtain⟨hn,h1| ⟨_,h2⟩⟩:=aqA b o hr
    ·rcases ht.JJ b (by rw[h1];simp) with h3|h3| ⟨o3,h3⟩
     ·exact .inl h3
     ·cases h4:s1.ro b with
      |none=>exact absurd h4 h3
      |some o4=>
       rcases hc.aA b o4 h4 with h5|h5
       ·exact .inr (.inl (by rw[h5];simp))
       ·exact absurd ⟨_,hB _ h5⟩ hn
     ·exact .inr (.inr ⟨o3,(Mm _).2 (.inl h3)⟩)
    ·exact .inr (.inl (by rw[h2];simp))
  ·have P7:=ht.uO e he
   have aml:∀b,(∃o,(b,o)∈s1.rw)→s.iC b:=fun b ⟨o,ho⟩=>⟨o,(Mm _).2 (.inl ho)⟩
   have ayU:∀b,s1.ro b≠none→s.ro b≠none∨s.iC b:=fun b hb=>by
    cases h4:s1.ro b with
    |none=>exact absurd h4 hb
    |some o4=>
     rcases hc.aA b o4 h4 with h5|h5
     ·exact .inl (by rw[h5];simp)
     ·exact .inr ⟨o4,(Mm _).2 (.inr (hB _ h5))⟩
   unfold G1 at*
   split at P7
   ·refine⟨P7.1,?_⟩
    rcases P7.2 with h1|h1| ⟨h1,h2⟩
    ·exact .inl h1
    ·exact .inr (.inl (aml _ h1))
    ·rcases ayU _ h2 with h3|h3
     ·exact .inr (.inr ⟨h1,h3⟩)
     ·exact .inr (.inl h3)
   ·refine⟨P7.1,?_⟩
    rcases P7.2 with h1|h1| ⟨h1,h2⟩
    ·exact .inl h1
    ·exact .inr (.inl (aml _ h1))
    ·rcases ayU _ h2 with h3|h3
     ·exact .inr (.inr ⟨h1,h3⟩)
     ·exact .inr (.inl h3)
   ·exact P7
   ·exact P7
 mono:=fun g s1 xU hl h bN s hc=>by
  refine wO hT bN fun⟨w,hw⟩=>?_
  obtain⟨R,hR,zr⟩:=hl
  have Mm:∀x,x∈s.rw↔x∈xU.rw∨x∈fr:=fun x=>by rw[hc.rw.mem_iff,List.mem_append]
  have ase:∀x,x∈R→x∈s.rw:=fun x hx=>(Mm x).2 (.inl (hR.mem_iff.2 (List.mem_append_right _ hx)))
  classical
  let oM:Nat→Option Obj:=fun b=>if hx:∃o,(b,o)∈R then some (Classical.choose hx) else s.ro b
  have FI:∀b o,(b,o)∈R→oM b=some o:=fun b o hb=>by
   have hx:∃o,(b,o)∈R:=⟨o,hb⟩
   simp only[oM]
   rw[dif_pos hx]
   have h1:=hw.rw b _ (ase _ (Classical.choose_spec hx))
   rw[hw.rw b o (ase _ hb)] at h1
   cases h1;rfl
  have gN:∀b o,s.ro b=some o→oM b=some o:=fun b o hb=>by
   simp only[oM]
   rw[dif_neg]
   ·exact hb
   ·rintro⟨o2,G6⟩
    rw[hw.apart b o2 (ase _ G6)] at hb;cases hb
  refine hT.mono g ⟨oM,s1.rw++fr⟩ s ⟨R,?_,fun b o hb=>?_⟩ (h bN _ ⟨.refl _,fun b o hb=>?_,fun b o hb=>gN b o (hc.keep b o hb)⟩)
  ·refine hc.rw.trans ((List.Perm.append_right fr hR).trans ?_)
   rw[List.append_assoc,List.append_assoc]
   exact List.Perm.append_left _ List.perm_append_comm
  ·simp only[oM] at hb
   split at hb
   ·rename_i hx
    simp only[Option.some.injEq] at hb
    exact .inr (hb▸Classical.choose_spec hx)
   ·exact .inl hb
  ·rcases zr b o hb with h1|h1
   ·exact(hc.aA b o h1).imp (gN b o) id
   ·exact .inl (FI b o h1)
theorem Fn.frame{f:FuncId}{s1 s:St}{R:Ending→St→Prop}{fr:Cells}{ro:Nat→Option Obj}(hf:Fn (CP P) P f args s1 R)(hB:∀x∈B,x∈fr)(hc:YI fr B ro s1 s):
 Fn (CP P) P f args s (fun en s'=>∃xU,R en xU∧YI fr B ro xU s'):=
 fun main T hT c cs k1 k2=>hf main _ (Ab hT hB ro) c cs (fun v xU hv _ s' sA=>k1 v s' ⟨xU,hv,sA⟩) (fun ch xU hv _ s' sA=>k2 ch s' ⟨xU,hv,sA⟩) rfl s hc
def eo(P:Program)(f:FuncId)(args:List Value)(ro:Nat→Option Obj)(own:Cells)(Φ:Value→Cells→Prop):Prop:=
 Fn (CP P) P f ⟨args⟩ ⟨ro,own⟩ (fun en s'=>∃v X,en= .returned v∧s'=⟨ro,X⟩∧Φ v X)
abbrev dz(P:Program)(f:FuncId)(args:List Value)(ro:Nat→Option Obj)(V:Value):Prop:=eo P f args ro [] (fun v X=>v=V∧X=[])
theorem eo.mono{f:FuncId}{args:List Value}{ro:Nat→Option Obj}{own:Cells}{Φ':Value→Cells→Prop}(h:eo P f args ro own Φ)(hk:∀v X,Φ v X→Φ' v X):eo P f args ro own Φ':=
 Fn.mono h fun _ _ ⟨v,X,h1,h2,h3⟩=>⟨v,X,h1,h2,hk v X h3⟩
theorem K0{ro:Nat→Option Obj}:Ext ⟨ro,[]⟩ ⟨ro,rw⟩:=fun _ _ h=>h.elim .inl (fun h=>by cases h)
theorem tO{ro aK:Nat→Option Obj}(h:Sub ro aK):Ext ⟨ro,[]⟩ ⟨aK,[]⟩:=fun b o hb=>hb.elim (fun hb=> .inl (h b o hb)) (fun hb=>by cases hb)
def bI(ro:Nat→Option Obj)(v:Value)(sz:Nat)(enc:α→List Value)(ps:List α):Prop:=
 ∃a b o cap,v= .slice a ps.length cap∧ps.length≤cap∧(∀k,k <ps.length→a=some ⟨b,o,none⟩)∧∀i p,ps[i]?=some p→cg ⟨ro,[]⟩ b (o+i*sz) sz (enc p)
theorem bI.nil(ro:Nat→Option Obj)(sz:Nat)(enc:α→List Value)(a:Option Addr)(cap:Nat):bI ro (.slice a 0 cap) sz enc []:=⟨a,0,0,cap,rfl,Nat.zero_le _,fun k h=>absurd h (Nat.not_lt_zero k),fun i p hp=>by simp at hp⟩
theorem bI.up{ro aK:Nat→Option Obj}{v:Value}{enc:α→List Value}{ps:List α}(h:bI ro v sz enc ps)(hs:Sub ro aK):bI aK v sz enc ps:=by
 obtain⟨a,b,o,cap,h1,h4,h2,h3⟩:=h
 exact⟨a,b,o,cap,h1,h4,h2,fun i p hp=>(h3 i p hp).ext (tO hs)⟩
section rules
variable {P:Program} {C:Class} {fn:FuncId} {ay:Option Nat} {Q:Post} {s:St} {n:Nat} {env:Env} {D:List Deferred}
variable {ops:Array Oper} {i:Nat} {rest:List Nat} {dst:Option Tmp} {ty:TypeId} {pos:String} {cS:Array Edge} {g:Option (Nat×Bool)}
variable {T:TypeId} {d:TypeDesc} {sz bu:Nat} {z:List Value} {ag:Bool} {ro:Nat→Option Obj} {rw:Cells}
theorem ab.more{a:Act}(hC:∀main T,C main T→Closed P main T){s':St}(hl:s.le s')(h:ab C fn ay ops todo Q a s):ab C fn ay ops todo Q a s':=
 fun main T hT b k cs h1 h2 h3 h4=>(hC _ _ hT).mono _ _ _ hl (h main T hT b k cs h1 h2 h3 h4)
theorem ait{a:Act}(hC:∀main T,C main T→Closed P main T)(h:(∃w,aP s w)→ab C fn ay ops todo Q a s):ab C fn ay ops todo Q a s:=
 fun main T hT b k cs h1 h2 h3 h4=>wO (hC _ _ hT) rfl fun hw=>h hw main T hT b k cs h1 h2 h3 h4
theorem anv{a:Act}{c:Code}(hC:∀main T,C main T→Closed P main T)(h:(∃w,aP s w)→Wp C fn ay c Q a s):Wp C fn ay c Q a s:=
 fun main T hT b k cs h1 h2 h3 h4=>wO (hC _ _ hT) rfl fun hw=>h hw main T hT b k cs h1 h2 h3 h4
theorem aeZ{f:FuncId}{R:Ending→St→Prop}(hC:∀main T,C main T→Closed P main T)(h:(∃w,aP s w)→Fn C P f args s R):Fn C P f args s R:=
 fun main T hT c cs h1 h2=>wO (hC _ _ hT) rfl fun hw=>h hw main T hT c cs h1 h2
theorem VA(hp:rw.Perm (X++s.rw))(hw:∃w,aP ⟨s.ro,rw⟩ w):∃aK,Sub s.ro aK∧(∀x∈X,aK x.1=some x.2)∧(⟨aK,s.rw⟩:St).le ⟨s.ro,rw⟩:=by
 classical
 obtain⟨w,hw⟩:=hw
 have yN:∀x,x∈X→x∈rw:=fun x hx=>hp.mem_iff.2 (List.mem_append_left _ hx)
 refine⟨fun b=>if hx:∃o,(b,o)∈X then some (Classical.choose hx) else s.ro b,fun b o hb=>?_,fun x hx=>?_,X,hp.trans List.perm_append_comm,fun b o hb=>?_⟩
 ·simp only
  rw[dif_neg]
  ·exact hb
  ·rintro⟨o2,G6⟩
   have:=hw.apart b o2 (yN _ G6)
   rw[show s.ro b=none from this] at hb;cases hb
 ·obtain⟨b,o⟩:=x
  have kJ:∃o,(b,o)∈X:=⟨o,hx⟩
  simp only
  rw[dif_pos kJ]
  have h1:=hw.rw b _ (yN _ (Classical.choose_spec kJ))
  rw[hw.rw b o (yN _ hx)] at h1
  cases h1;rfl
 ·simp only at hb
  split at hb
  ·rename_i hx
   simp only[Option.some.injEq] at hb
   exact .inr (hb▸Classical.choose_spec hx)
  ·exact .inl hb
theorem Wh{a:Act}{c:Code}(hC:∀main T,C main T→Closed P main T)(hp:YN.Perm (X++rw))(h:∀aK,Sub ro aK→(∀x∈X,aK x.1=some x.2)→Wp C fn ay c Q a ⟨aK,rw⟩):Wp C fn ay c Q a ⟨ro,YN⟩:=
 anv hC fun hw=>by
  obtain⟨aK,h1,h2,h3⟩:=VA (s:=⟨ro,rw⟩) hp hw
  exact(h aK h1 h2).more hC h3
theorem Rc{a:Act}(hC:∀main T,C main T→Closed P main T)(hp:YN.Perm (X++rw))(h:∀aK,Sub ro aK→(∀x∈X,aK x.1=some x.2)→ab C fn ay ops todo Q a ⟨aK,rw⟩):ab C fn ay ops todo Q a ⟨ro,YN⟩:=
 ait hC fun hw=>by
  obtain⟨aK,h1,h2,h3⟩:=VA (s:=⟨ro,rw⟩) hp hw
  exact(h aK h1 h2).more hC h3
theorem eo.use{f:FuncId}{own fr:Cells}(hp:s.rw.Perm (own++fr))(hB:∀x∈B,x∈fr)(hf:∀aA,Sub s.ro aA→(∀x∈B,aA x.1=some x.2)→eo P f vs aA own Φ):
 Fn (CP P) P f ⟨vs⟩ s (fun en s'=>∃v X,en= .returned v∧Φ v X∧(⟨s.ro,X++fr⟩:St).le s'):=by
 refine aeZ eL fun⟨w,hw⟩=>?_
 classical
 have yN:∀x,x∈B→x∈s.rw:=fun x hx=>hp.mem_iff.2 (List.mem_append_right _ (hB x hx))
 let aA:Nat→Option Obj:=fun b=>if hx:∃o,(b,o)∈B then some (Classical.choose hx) else s.ro b
 have h1:Sub s.ro aA:=fun b o hb=>by
  simp only[aA]
  rw[dif_neg]
  ·exact hb
  ·rintro⟨o2,G6⟩
   rw[hw.apart b o2 (yN _ G6)] at hb;cases hb
 have h2:∀x∈B,aA x.1=some x.2:=fun⟨b,o⟩ hx=>by
  have kJ:∃o,(b,o)∈B:=⟨o,hx⟩
  simp only[aA]
  rw[dif_pos kJ]
  have h3:=hw.rw b _ (yN _ (Classical.choose_spec kJ))
  rw[hw.rw b o (yN _ hx)] at h3
  cases h3;rfl
 refine Fn.mono (Fn.frame (fr:=fr) (B:=B) (ro:=s.ro) (s:=s) (hf aA h1 h2) hB ⟨hp,fun b o hb=>?_,Sub.refl _⟩) fun en s' Cs=>?_
 ·simp only[aA] at hb
  split at hb
  ·rename_i hx
   simp only[Option.some.injEq] at hb
   exact .inr (hb▸Classical.choose_spec hx)
  ·exact .inl hb
 ·obtain⟨xU,⟨v,X,rfl,rfl,pR⟩,hc⟩:=Cs
  exact⟨v,X,rfl,pR,[],by simpa using hc.rw,fun b o hb=> .inl (hc.keep b o hb)⟩
theorem abc(hC:∀main T,C main T→Closed P main T){f:FuncId}{own fr:Cells}(ho:ops[i]?=some ⟨dst,.call ⟨.value x,xs,at_⟩,ty,pos,cS,g⟩) (hw:aw ops n env g=true)
 (hv:ba n env x=some (.func (.func f) fi ca)) (ff:FF P f) (hx:uO n env xs=some vs) (rq:fi++⟨vs⟩++ca=⟨ws⟩) (hp:s.rw.Perm (own++fr)) (hB:∀x∈B,x∈fr) (hf:∀aA,Sub s.ro aA→(∀x∈B,aA x.1=some x.2)→eo P f ws aA own Φ)
 (h:∀v X,Φ v X→ab C fn ay ops rest Q (A n (upd dst v env) D) ⟨s.ro,X++fr⟩):ab C fn ay ops (i::rest) Q (A n env D) s:=
 tE hC ho hw hv ff hx rq ((eo.use hp hB hf).weaken hC) (fun v' s' hr=>by obtain⟨v,X,e,h1,h2⟩:=hr;cases e;exact(h _ X h1).more hC h2) (fun ch s' hr=>by obtain⟨_,_,e,_⟩:=hr;cases e) (fun s' hr=>by obtain⟨_,_,e,_⟩:=hr;cases e)
theorem dz.use{f:FuncId}{V:Value}{sz:St}(hez:Ext s sz)(hf:∀aA,(∀b o,s.has b o→aA b=some o)→dz P f vs aA V):Fn (CP P) P f ⟨vs⟩ sz (fun e s'=>e= .returned V∧sz.le s'):=by
 refine aeZ eL fun⟨w,hw⟩=>?_
 refine Fn.mono (eo.use (s:=sz) (own:=[]) (fr:=sz.rw) (B:=sz.rw) (.refl _) (fun _ h=>h) (fun aA h1 h2=>hf aA fun b o hb=>?_)) fun en s' Cs=>?_
 ·rcases hez b o hb with h3|h3
  ·exact h1 b o h3
  ·exact h2 _ h3
 ·obtain⟨v,X,e,⟨h1,h2⟩,h3⟩:=Cs
  subst h1 h2
  exact⟨e,h3⟩
theorem NH(hC:∀main T,C main T→Closed P main T){f:FuncId}{V:Value}{s0:St}(ho:ops[i]?=some ⟨dst,.call ⟨.value x,xs,at_⟩,ty,pos,cS,g⟩) (hw:aw ops n env g=true)
 (hv:ba n env x=some (.func (.func f) fi ca)) (ff:FF P f) (hx:uO n env xs=some vs) (rq:fi++⟨vs⟩++ca=⟨ws⟩) (hez:Ext s0 s) (hf:∀aA,(∀b o,s0.has b o→aA b=some o)→dz P f ws aA V) (h:ab C fn ay ops rest Q (A n (upd dst V env) D) s):ab C fn ay ops (i::rest) Q (A n env D) s:=
 tE hC ho hw hv ff hx rq ((dz.use hez hf).weaken hC) (fun v' s' hr=>by obtain⟨e,h1⟩:=hr;cases e;exact h.more hC h1) (fun ch s' hr=>by cases hr.1) (fun s' hr=>by cases hr.1)
theorem Ey{ro aA:Nat→Option Obj}(h:∀b o,(⟨ro,rw⟩:St).has b o→aA b=some o):Sub ro aA:=fun b o hb=>h b o (.inl hb)
theorem az.ma{v:Value}{T:TypeId}{enc:α→List Value}{ps:List α}{L:Cells}{aA:Nat→Option Obj}(h:az v sz T enc ps L)(hL:∀x∈L,aA x.1=some x.2):bI aA v sz enc ps:=by
 obtain⟨a,b,o,cap,h1,h2,h3⟩:=h.sl (s:=⟨aA,[]⟩) fun x hx=> .inl (hL x hx)
 refine⟨a,b,o,cap,h1,?_,h2,h3⟩
 rcases h with ⟨_,g2,_⟩| ⟨b',l,aSd,g1,_,_,g4,_⟩
 ·subst g2;exact Nat.zero_le _
 ·rw[g1] at h1;cases h1;exact g4
end rules
section rules
variable {P:Program} {C:Class} {fn:FuncId} {ay:Option Nat} {Q:Post} {s:St} {n:Nat} {env:Env} {D:List Deferred}
variable {ops:Array Oper} {i:Nat} {rest:List Nat} {dst:Option Tmp} {ty:TypeId} {pos:String} {cS:Array Edge} {g:Option (Nat×Bool)}
variable {T:TypeId} {d:TypeDesc} {sz bu:Nat} {z:List Value} {ag:Bool}
theorem Rg(hC:∀main T,C main T→Closed P main T)(ho:ops[i]?=some ⟨dst,.range T x,ty,pos,cS,g⟩) (hw:aw ops n env g=true) (tf:TF P T .string sz bu z ag) (hx:ba n env x=some (.string b))
 (h:∀r,¬s.knows r→ab C fn ay ops rest Q (A n (upd dst (.pointer (some ⟨r,0,none⟩)) env) D) ⟨s.ro,(r,.stringIter b 0)::s.rw⟩):ab C fn ay ops (i::rest) Q (A n env D) s:=by
 refine bJ hC ho hw (by simp) ?_
 simp only[execOp,Instr.range,aa,aW tf,aC hx,ae,nJ]
 intro r hr
 have:=h r hr
 rw[←aU] at this
 exact this
theorem Xa(hC:∀main T,C main T→Closed P main T){r p:Nat}{L R:Cells}(ho:ops[i]?=some ⟨dst,.next x true,ty,pos,cS,g⟩) (hw:aw ops n env g=true) (hx:ba n env x=some (.pointer (some ⟨r,0,none⟩))) (hs:s.rw=L++(r,.stringIter b p)::R) (hp:p <b.size)
 (h:ab C fn ay ops rest Q (A n (upd dst (.tuple ⟨[.bool true,.int .i64 p,.int .i32 (Utf8.decode b p).1]⟩) env) D) ⟨s.ro,L++(r,.stringIter b (p+(Utf8.decode b p).2))::R⟩):ab C fn ay ops (i::rest) Q (A n env D) s:=by
 refine bJ hC ho hw (by simp) ?_
 simp only[execOp,Instr.next,aa,aC hx]
 refine cq (o:= .stringIter b p) (.inr (by rw[hs];simp)) rfl rfl ?_
 simp only[aa,hp,if_true]
 refine dX (o:= .stringIter b (p+(Utf8.decode b p).2)) rfl hs rfl ?_
 rw[←aU] at h
 exact h
theorem Xb(hC:∀main T,C main T→Closed P main T){r p:Nat}{L R:Cells}(ho:ops[i]?=some ⟨dst,.next x true,ty,pos,cS,g⟩) (hw:aw ops n env g=true) (hx:ba n env x=some (.pointer (some ⟨r,0,none⟩))) (hs:s.rw=L++(r,.stringIter b p)::R) (hp:¬p <b.size)
 (h:ab C fn ay ops rest Q (A n (upd dst (.tuple ⟨[.bool false]⟩) env) D) s):ab C fn ay ops (i::rest) Q (A n env D) s:=by
 refine bJ hC ho hw (by simp) ?_
 simp only[execOp,Instr.next,aa,aC hx]
 refine cq (o:= .stringIter b p) (.inr (by rw[hs];simp)) rfl rfl ?_
 simp only[aa,hp,if_false]
 rw[←aU] at h
 exact h
end rules
theorem cg.part{s:St}{b m:Nat}(h:cg s b o m vs)(j k:Nat)(hj:sub vs j k=some ws):cg s b (o+j) k ws:=by
 obtain⟨l,t,fz,h1,h2⟩:=h
 obtain⟨h3,h4⟩:=sub_eq _ _ _ _ h2
 obtain⟨h5,h6⟩:=sub_eq _ _ _ _ hj
 refine⟨l,t,fz,h1,?_⟩
 have hlen:(o+j)+k≤l.length:=by
  rcases Nat.eq_zero_or_pos k with h0|h0
  ·subst h0
   have:o+j≤l.length:=by
    have h7:sub vs j 0=some ws:=hj
    have hjl:j≤vs.length:=by
     have key:∀(l:List Value) (j:Nat) (ws:List Value),sub l j 0=some ws→j≤l.length:=by
      intro l
      induction l with
      |nil=>intro j ws h;cases j with
       |zero=>simp
       |succ j=>simp[sub] at h
      |cons x l ih=>intro j ws h;cases j with
       |zero=>simp
       |succ j=>have:=ih j ws (by simpa [sub] using h);simp;omega
     exact key _ _ _ h7
    have hol:o+m≤l.length∨m=0:=by
     rcases Nat.eq_zero_or_pos m with h8|h8
     ·exact .inr h8
     ·left
      have:=h4 (m-1) vs[m-1] (by rw[List.getElem?_eq_getElem])
      have:=(List.getElem?_eq_some_iff.1 this).1
      omega
    rcases hol with h9|h9
    ·omega
    ·have aMk:∀(l:List Value) (o:Nat) (ws:List Value),sub l o 0=some ws→o≤l.length:=by
      intro l
      induction l with
      |nil=>intro j ws h;cases j with
       |zero=>simp
       |succ j=>simp[sub] at h
      |cons x l ih=>intro j ws h;cases j with
       |zero=>simp
       |succ j=>have:=ih j ws (by simpa [sub] using h);simp;omega
     rw[h9] at h2
     have:=aMk _ _ _ h2
     omega
   omega
  ·have:=h6 (k-1) ws[k-1] (by rw[List.getElem?_eq_getElem])
   have:=h4 _ _ this
   have:=(List.getElem?_eq_some_iff.1 this).1
   omega
 rw[iv hlen]
 congr 1
 apply List.ext_getElem?
 intro i
 by_cases hi:i <k
 ·have h7:=h4 _ _ (h6 i ws[i] (by rw[List.getElem?_eq_getElem]))
  rw[List.getElem?_take_of_lt hi,List.getElem?_drop,List.getElem?_eq_getElem (show i <ws.length by omega),←h7,Nat.add_assoc]
 ·rw[List.getElem?_eq_none (by simp;omega),List.getElem?_eq_none (by omega)]
def Nr(ag:Bool)(l:List Value)(o sz:Nat):Option Value:=bif ag then (match sub l o sz with|some m=>some (.agg ⟨m⟩)|none=>none) else nth l o
theorem TQ{s:St}{t:TypeId}{z:List Value}{d:TypeDesc}{bu:Nat}{ag:Bool}(tf:TF P t d sz bu z ag){l:List Value}{v:Value}(hv:Nr ag l o sz=some v){k:Value→Sem α}{Q:α→St→Prop}{E:Halt→St→Prop}:bG P (part t ⟨l⟩ o >>= k) s Q E=bG P (k v) s Q E:=by
 cases ag with
 |false=>exact JD tf hv
 |true=>
  simp only[Nr,cond_true] at hv
  split at hv
  ·rename_i m hm
   cases hv
   exact JC tf hm
  ·cases hv
section rules
variable {P:Program} {C:Class} {fn:FuncId} {ay:Option Nat} {Q:Post} {s:St} {n:Nat} {env:Env} {D:List Deferred}
variable {ops:Array Oper} {i:Nat} {rest:List Nat} {dst:Option Tmp} {ty:TypeId} {pos:String} {cS:Array Edge} {g:Option (Nat×Bool)}
variable {T:TypeId} {d:TypeDesc} {sz bu:Nat} {z:List Value} {ag:Bool}
theorem aba(hC:∀main T,C main T→Closed P main T){y:Operand}{E:TypeId}{k:IntKind}{ix:Int}{len:Nat}{d':TypeDesc}{gQ uD:Nat}{z':List Value}{wh:Bool}{l:List Value}{v:Value}(ho:ops[i]?=some ⟨dst,.index T x y,ty,pos,cS,g⟩) (hw:aw ops n env g=true)
 (tf:TF P T (.array len E) sz bu z ag) (jC:TF P E d' gQ uD z' wh) (hx:ba n env x=some (.agg ⟨l⟩)) (hy:ba n env y=some (.int k ix)) (hi:0≤ix∧ix <len) (hv:Nr wh l (ix.toNat*gQ) gQ=some v)
 (h:ab C fn ay ops rest Q (A n (upd dst v env) D) s):ab C fn ay ops (i::rest) Q (A n env D) s:=by
 refine bJ hC ho hw (by simp) ?_
 simp only[execOp,Instr.index,aC hx,aC hy,asIntOf,asAgg,aa,ae,aW tf,hi,and_self,if_true,bW jC]
 rw[TQ jC hv,←aU] at*
 exact h
end rules
section rules
variable {P:Program} {C:Class} {fn:FuncId} {ay:Option Nat} {Q:Post} {s:St} {n:Nat} {env:Env} {D:List Deferred}
variable {ops:Array Oper} {i:Nat} {rest:List Nat} {dst:Option Tmp} {ty:TypeId} {pos:String} {cS:Array Edge} {g:Option (Nat×Bool)}
theorem wr(hC:∀main T,C main T→Closed P main T){l:List Nat}(hl:List.range ops.size=l)(h:ab C fn ay ops l Q (A n env D) s):Wp C fn ay (.region id ops false) Q (A n env D) s:=wp_region hC (hl▸h)
theorem on(hC:∀main T,C main T→Closed P main T){K:Act→St→Prop}(h:K (A n env D) s):ab C fn ay ops [] (lv K Q) (A n env D) s:=tz hC h
end rules
theorem c:∀main T,CP P main T→Closed P main T:=eL
end Go.L

/- Part 7 of the proof. -/
import Derived.Test.YtjnpgdnbbljggaaGreatDoorL6
set_option maxRecDepth 100000
set_option maxHeartbeats 4000000
set_option linter.all false
namespace Go.L
open Go Go.Conc
variable {ro pE:Nat→Option Obj} {Φ:Value→Cells→Prop} {R:Ending→St→Prop} {f:FuncId} {κ ι α β:Type} {todo seen vZ ps:List Nat} {args vs l z ca:List Value} {v:Value} {n sz i r bL off id ck dep bd bl it:Nat} {T E:TypeId} {e:Env} {p:Oper} {o o1:Option JS} {b:ByteArray} {s s':St} {D:List Deferred} {cs:List Frame} {fn:Func} {ag main:Bool} {aF:Option Nat} {C:Class} {body:Code} {X1:Cx}
section
variable {X:Cx} {o:Option JS}
theorem Oy{t:Nat}(h:gM e t=some v):A n ((t,v)::e) D=A n e D:=by
 simp only[A]
 congr 1
 congr 1
 funext i
 simp only[get]
 cases hb:Nat.beq t i with
 |false=>rfl
 |true=>
  have:=Nat.eq_of_beq_eq_true hb
  subst this
  exact(nQ h).symm
def Pw(j:Nat)(v:Value):List (Nat×Value)→List (Nat×Value)
 | []=>[]
 | (i,w)::r=>bif Nat.beq i j then (i,v)::r else (i,w)::Pw j v r
theorem Gp{j:Nat}:∀ {l:List (Nat×Value)},PT l j=some v→Pw j v l=l
 | (i,w)::r,h=>by
  simp only[PT] at h
  simp only[Pw]
  cases hb:Nat.beq i j with
  |true=>rw[hb] at h;simp only[cond_true,Option.some.injEq] at h;subst h;rfl
  |false=>rw[hb] at h;simp only[cond_false] at h ⊢;rw[Gp h]
def anQ(t:Nat):JS→Option Value
 | ⟨.DC _ _ Pl _ _,_,_,_⟩=>PT Pl t
 |s=>gM s.env t
def J3(t:Nat):Option JS→Option Value
 |some s=>anQ t s
 |none=>none
def YR(t:Nat)(v:Value):JS→JS
 | ⟨.DC ops base Pl Sl k,e,w,kn⟩=>⟨.DC ops base (Pw t v Pl) Sl k,e,w,kn⟩
 | ⟨p,e,w,kn⟩=>⟨p,(t,v)::e,w,kn⟩
def Px(t:Nat)(v:Value):Option JS→Option JS
 |some s=>some (YR t v s)
 |none=>none
theorem jw(t:Nat)(v:Value){w:Value}(hw:w=v)(hj:J X (Px t v o))(hv:J3 t o=some w:=by kernel_rfl):J X o:=by
 subst hw
 cases o with
 |none=>exact hj
 |some s=>
  rcases s with ⟨p,e,rw_,kn⟩
  intro bR
  have hj:=hj
  cases p with
  |DC ops base Pl Sl k=>
   simp only[J3,anQ] at hv
   have:Pw t w Pl=Pl:=Gp hv
   simp only[Px,YR,this] at hj
   exact hj bR
  |ops a b c=>have:=hj bR;simp only[YR,JP] at this;rw[Oy hv] at this;exact this
  |code a b=>have:=hj bR;simp only[YR,JP] at this;rw[Oy hv] at this;exact this
  |nxt a=>have:=hj bR;simp only[YR,JP] at this;rw[Oy hv] at this;exact this
  |fin a=>have:=hj bR;simp only[YR,JP] at this;rw[Oy hv] at this;exact this
theorem ji(t:Nat){c b:Bool}(h:c=b)(hj:J X (Px t (.bool b) o))(hv:J3 t o=some (.bool c):=by kernel_rfl):J X o:=jw t _ (by rw[h]) hj hv
theorem js(t:Nat)(c:Bool)(h1:c=true→J X (Px t (.bool true) o))(h2:c=false→J X (Px t (.bool false) o))(hv:J3 t o=some (.bool c):=by kernel_rfl):J X o:=by
 cases hc:c with
 |true=>exact ji t hc (h1 hc) hv
 |false=>exact ji t hc (h2 hc) hv
def azP(P:Program)(n:Nat)(p:Oper)(e:Env):Option (Obj×Option Nat):=match p.op with
 | .alloc T=>match aY P T with
  |some ti=>some (.cells ⟨ti.zero⟩ T (0,0),none)
  |none=>none
 | .box T x=>match bA n e x with
  |some v=>some (.cells ⟨eA v⟩ T (0,0),none)
  |none=>none
 | .buildSlice T m ps=>match aY P T with
  |some ⟨.slice E,_,_,_⟩=>match aY P E with
   |some te=>match OO n e ps.toList with
    |some pv=>match pW (fun i=>some (i*te.size,te.size)) (dj te.zero m) (vp pv) with
     |some l=>bif Nat.beq te.zero.length te.size&&Nat.ble (m*te.size) 16777216 then some (.cells ⟨l⟩ E (0,0),some m) else none
     |none=>none
    |none=>none
   |none=>none
  |_=>none
 | .range T x=>match aY P T with
  |some ⟨.string,_,_,_⟩=>match bA n e x with
   |some (.string b)=>some (.stringIter b 0,none)
   |_=>none
  |_=>none
 |_=>none
def aeb(b:Nat):Option Nat→Value
 |some m=> .slice (some ⟨b,0,none⟩) m m
 |none=> .pointer (some ⟨b,0,none⟩)
def arP(P:Program)(n b:Nat):Option JS→Option JS
 |some ⟨.ops ops (i::todo) k,e,w,kn⟩=>match ru n ⟨.ops ops (i::todo) k,e,w,kn⟩ with
  |some (true,p,_)=>match azP P n p e with
   |some (ob,m)=>some ⟨.ops ops todo k,upd p.dst (aeb b m) e,.b b ob::w,kn⟩
   |none=>none
  |_=>none
 |_=>none
theorem Re{ops:Array Oper}{k:List KI}{e':Env}{w:List Sg}{kn:Kn}{g:Bool}(h:ru n ⟨.ops ops (i::todo) k,e,w,kn⟩=some (g,p,e')):ops[i]?=some p∧e'=e∧(g=true→aD ops n e p.guard=true):=by
 simp only[ru] at h
 split at h<;>try (cases h;done)
 rename_i p1 ho
 split at h<;>try (cases h;done)
 rename_i g1 hg
 cases h
 refine⟨ho,rfl,fun hg'=>?_⟩
 subst hg'
 have:=oL hg []
 rwa[List.append_nil] at this
theorem jn(hj:∀b,J X (arP X.P X.n b o)):J X o:=by
 unfold arP at hj
 split at hj
 ·rename_i ops i todo k e w kn
  split at hj
  ·rename_i p e' hh
   obtain⟨ho,rfl,hw⟩:=Re hh
   have hw:=hw rfl
   intro bR
   rcases p with ⟨dst,op,ty,pos,dG,g⟩
   split at hj
   ·rename_i ob m hn
    have key:∀b,ak X.C X.fn X.aF ops todo (KQ X k) (A X.n (upd dst (aeb b m) e') X.D) ⟨X.ro,(b,ob)::den w⟩:=fun b=>by
     have:=hj b bR
     simp only[JP,jJ] at this
     exact this
    unfold azP at hn
    split at hn
    ·rename_i T av
     dsimp only at av;subst av
     split at hn<;>try (cases hn;done)
     rename_i ti dP
     cases hn
     obtain⟨bL,tf⟩:=aB dP
     exact aks X.hC ho hw tf fun b _=>key b
    ·rename_i T x av
     dsimp only at av;subst av
     split at hn<;>try (cases hn;done)
     rename_i v hx
     cases hn
     exact azJ X.hC ho hw hx (by rw[ny]) fun b _=>key b
    ·rename_i T m0 ps av
     dsimp only at av;subst av
     split at hn<;>try (cases hn;done)
     rename_i E _ _ _ dP
     split at hn<;>try (cases hn;done)
     rename_i te qx
     split at hn<;>try (cases hn;done)
     rename_i pv Jp
     split at hn<;>try (cases hn;done)
     rename_i l hl
     cases hc:(Nat.beq te.zero.length te.size&&Nat.ble (m0*te.size) 16777216) with
     |false=>rw[hc] at hn;cases hn
     |true=>
      rw[hc] at hn;simp only[cond_true,Option.some.injEq,Prod.mk.injEq] at hn
      obtain⟨rfl,rfl⟩:=hn
      simp only[Bool.and_eq_true] at hc
      obtain⟨bL,tf⟩:=aB dP
      obtain⟨A9,qY⟩:=aB qx
      exact MS X.hC ho hw tf qY hc.1 Jp hc.2 hl fun b _=>key b
    ·rename_i T x av
     dsimp only at av;subst av
     split at hn<;>try (cases hn;done)
     rename_i dP
     split at hn<;>try (cases hn;done)
     rename_i bs hx
     cases hn
     obtain⟨bL,tf⟩:=aB dP
     exact TW X.hC ho hw tf hx fun b _=>key b
    cases hn
   exact(hj 0).elim
  exact(hj 0).elim
 exact(hj 0).elim
def X9(n:Nat)(p:Oper)(e:Env):Option (FuncId×List Value):=match p.op with
 | .call ⟨.value x,xs,_⟩=>match bA n e x with
  |some (.func (.func f) ⟨fi⟩ ⟨ca⟩)=>match ze n e xs.toList with
   |some vs=>some (f,fi++vs++ca)
   |none=>none
  |_=>none
 |_=>none
def wJ(P:Program)(n:Nat)(p:Oper)(e:Env):Option (FuncId×List Value):=match X9 n p e with
 |some (f,vs)=>bif A8 P f then some (f,vs) else none
 |none=>none
theorem pZ{P:Program}(h:wJ P n p e=some (f,vs)):FF P f∧∃x xs at_ fi ca ws,p.op= .call ⟨.value x,xs,at_⟩∧bA n e x=some (.func (.func f) ⟨fi⟩ ⟨ca⟩)∧tP n e xs=some ws∧vs=fi++ws++ca:=by
 unfold wJ at h
 split at h<;>try (cases h;done)
 rename_i f' p7 hc
 cases hb:A8 P f' with
 |false=>rw[hb] at h;cases h
 |true=>
  rw[hb] at h;simp only[cond_true,Option.some.injEq,Prod.mk.injEq] at h
  obtain⟨rfl,rfl⟩:=h
  refine⟨jH hb,?_⟩
  unfold X9 at hc
  split at hc<;>try (cases hc;done)
  rename_i x xs at_ av
  split at hc<;>try (cases hc;done)
  rename_i f fi ca hx
  split at hc<;>try (cases hc;done)
  rename_i ws qS
  cases hc
  exact⟨x,xs,at_,fi,ca,ws,av,hx,qS,rfl⟩
theorem Oc(a b c:List Value):(⟨a⟩:Array Value)++⟨b⟩++⟨c⟩=⟨a++b++c⟩:=by simp
def ni(ps:List Nat)(v:Value)(Y:Cells):Option JS→Option JS
 |some ⟨.ops ops (i::todo) k,e,w,kn⟩=>match ops[i]? with
  |some p=>some ⟨.ops ops todo k,upd p.dst v e,.l Y::dw ps 0 w,kn⟩
  |none=>none
 |_=>none
def eJ(n:Nat)(f:Oper→Env→Option β):Option JS→Option β
 |some ⟨.ops a b c,e,w,kn⟩=>dB n f (some ⟨.ops a b c,e,w,kn⟩)
 |_=>none
theorem dD{f:Oper→Env→Option β}{r:β}(h:eJ n f o=some r):∃ops i todo k e w kn p,o=some ⟨.ops ops (i::todo) k,e,w,kn⟩∧ops[i]?=some p∧aD ops n e p.guard=true∧f p e=some r:=by
 unfold eJ at h
 split at h<;>try (cases h;done)
 rename_i ops todo k e w kn
 obtain⟨s,p,e',hs,hh,hf⟩:=tZ h
 cases hs
 cases todo with
 |nil=>cases hh
 |cons i todo=>
  obtain⟨ho,rfl,hw⟩:=Re hh
  exact⟨ops,i,todo,k,e',w,kn,p,rfl,ho,hw rfl,hf⟩
def aon(ps lp:List Nat):Option JS→Option Cells
 |some s=>dA lp (some {s with rw:=dw ps 0 s.rw})
 |none=>none
theorem nV{ops:Array Oper}{k:List KI}{w:List Sg}{kn:Kn}{Y:Cells}(ho:ops[i]?=some p):ni ps v Y (some ⟨.ops ops (i::todo) k,e,w,kn⟩)=some ⟨.ops ops todo k,upd p.dst v e,.l Y::dw ps 0 w,kn⟩:=by
 simp only[ni,ho]
theorem Uu{own:Cells}(ps lp:List Nat)(B:Cells)(hf:∀aV,Sub X.ro aV→Knows aV B→dX X.P f vs aV own Φ)(hj:∀v Y,Φ v Y→J X (ni ps v Y o))(h1:eJ X.n (wJ X.P X.n) o=some (f,vs):=by kernel_rfl)(h2:dA ps o=some own:=by kernel_rfl)(h3:aon ps lp o=some B:=by kernel_rfl):J X o:=by
 obtain⟨ops,i,todo,k,e,w,kn,p,rfl,ho,hw,hc⟩:=dD h1
 obtain⟨ff,x,xs,at_,fi,ca,ws,av,hx,qS,rfl⟩:=pZ hc
 intro bR
 rcases p with ⟨dst,op,ty,pos,dG,g⟩
 dsimp only at av;subst av
 have hp:=bK h2
 refine ad1 (own:=own) (B:=B) (Φ:=Φ) X.hC ho hw hx ff qS (Oc fi ws ca) hp (fun y hy=>(bK h3).mem_iff.2 (List.mem_append_left _ hy)) (fun aV hs hB=>hf aV hs hB) (fun v Y pO=>?_)
 have:=hj v Y pO
 simp only[ni,ho] at this
 have:=this bR
 simp only[JP,gA] at this
 exact this
theorem jc{own:Cells}(ps:List Nat)(hf:dX X.P f vs X.ro own Φ)(hj:∀v Y,Φ v Y→J X (ni ps v Y o))(h1:eJ X.n (wJ X.P X.n) o=some (f,vs):=by kernel_rfl)(h2:dA ps o=some own:=by kernel_rfl):J X o:=by
 obtain⟨ops,i,todo,k,e,w,kn,p,rfl,ho,hw,hc⟩:=dD h1
 obtain⟨ff,x,xs,at_,fi,ca,ws,av,hx,qS,rfl⟩:=pZ hc
 intro bR
 rcases p with ⟨dst,op,ty,pos,dG,g⟩
 dsimp only at av;subst av
 have hp:=bK h2
 refine su (fi:=⟨fi⟩) (ca:=⟨ca⟩) (ws:=fi++ws++ca) X.hC ho hw hx ff qS (Oc fi ws ca) (Fn.weaken X.hC (dX.aqG (s:=⟨X.ro,den w⟩) hp hf)) (fun v' s' hr=>?_) (fun ch s' hr=>by obtain⟨_,_,e,_⟩:=hr;cases e) (fun s' hr=>by obtain⟨_,_,e,_⟩:=hr;cases e)
 obtain⟨v,Y,hv,pO,hle⟩:=hr
 cases hv
 have:=hj _ Y pO
 simp only[ni,ho] at this
 have:=this bR
 simp only[JP,gA] at this
 exact this.more X.hC hle
theorem jp{V:Value}(lp:List Nat)(B:Cells)(hf:∀aV,Sub X.ro aV→Knows aV B→eR X.P f vs aV V)(hj:J X (Ja B V o))(h1:dB X.n (wJ X.P X.n) o=some (f,vs):=by kernel_rfl)(h3:dA lp o=some B:=by kernel_rfl):J X o:=by
 refine jGN h1 h3 (fun s p e ho hh hc=>?_) hj
 obtain⟨ff,x,xs,at_,fi,ca,ws,av,hx,qS,rfl⟩:=pZ hc
 rcases p with ⟨dst,op,ty,pos,dG,g⟩
 dsimp only at av;subst av
 refine⟨rfl,fun s0 De yF ops i uF rest hw s' hs todo Q hk=>?_⟩
 have hez:Ext ⟨X.ro,B⟩ s':=fun b ob hb=>hs _ _ (hb.elim (fun h=>De _ _ (.inl h)) fun h=>yF (b,ob) h)
 exact Qd X.hC uF hw (bD hx) ff (yK qS) (Oc fi ws ca) hez (fun aV h1=>hf aV (Gk h1) fun y hy=>h1 _ _ (.inr hy)) hk
end
attribute [irreducible] eJ Px J3 arP ni aon
def rB(P:Program)(f:FuncId):Func:=match P.funcs[f]? with
 |some fn=>fn
 |none=>default
abbrev RX(ro:Nat→Option Obj)(Φ:Value→Cells→Prop):Ending→St→Prop:=fun en s'=>∃v X,en= .returned v∧s'=⟨ro,X⟩∧Φ v X
def X0(P:Program)(hm:P.follows .mixedOrders=true)(f:FuncId)(ro:Nat→Option Obj)(R:Ending→St→Prop):Cx:=⟨P,CP P,e9,hm,f,none,(rB P f).ntmps,[],ro,sW P (rB P f) R⟩
def kE(P:Program)(f:FuncId)(args:List Value)(own:List Sg)(kn:Cells):Option JS:=match P.funcs[f]? with
 |some fn=>match fn.body with
  |some c=>bif Nat.ble args.length fn.ntmps then some ⟨.code c [],ig 0 args,own,⟨kn,[]⟩⟩ else none
  |none=>none
 |none=>none
theorem aMH{P:Program}{hm:P.follows .mixedOrders=true}(own:List Sg)(kn:Cells)(hk:Knows ro kn)(h:J (X0 P hm f ro R) (kE P f args own kn)):Fn (CP P) P f ⟨args⟩ ⟨ro,den own⟩ R:=by
 unfold kE at h
 split at h<;>try exact h.elim
 rename_i fn hf
 split at h<;>try exact h.elim
 rename_i c hc
 cases hl:Nat.ble args.length fn.ntmps with
 |false=>rw[hl] at h;exact h.elim
 |true=>
  rw[hl] at h
  have wY:rB P f=fn:=by simp only[rB,hf]
  have:=h hk
  simp only[JP,X0,KQ,wY] at this
  exact Rz e9 hf hc rfl hl this
theorem cd{P:Program}(hm:P.follows .mixedOrders=true){L:Cells}(own:List Sg)(kn:Cells)(hk:Knows ro kn)(h:J (X0 P hm f ro (RX ro Φ)) (kE P f args own kn))(hL:den own=L:=by rfl):dX P f args ro L Φ:=by
 subst hL;exact aMH own kn hk h
def CH(P:Program)(n:Nat)(e:Env)(w:List Sg)(kn:Cells):List Nat→List ResultVar→Option (List Value×List (Nat×Nat))
 |_,[]=>some ([],[])
 |hs,.tmp t::rs=>match bA n e (.tmp t) with
  |some v=>match CH P n e w kn hs rs with
   |some (vs,q)=>some (v::vs,q)
   |none=>none
  |none=>none
 |h::hs,.cell t T::rs=>match bA n e (.tmp t) with
  |some (.pointer (some ⟨b,off,none⟩))=>match B0 w kn h with
   |some (b',l)=>match ldv P T l off with
    |some v=>match CH P n e w kn hs rs with
     |some (vs,q)=>some (v::vs,(b',b)::q)
     |none=>none
    |none=>none
   |none=>none
  |_=>none
 | [],.cell _ _::_=>none
def g9(P:Program)(n:Nat)(f:FuncId)(hs:List Nat):Option JS→Option (Value×List (Nat×Nat))
 |some ⟨.fin _,e,w,kn⟩=>match CH P n e w kn.c hs (rB P f).results.toList with
  |some (vs,q)=>some (xv vs,q)
  |none=>none
 |_=>none
def rA:Option (Value×List (Nat×Nat))→Option Value
 |some (v,_)=>some v
 |none=>none
def NP:Option (Value×List (Nat×Nat))→List Nat
 |some (_,q)=>Vj q
 |none=>[0]
def NO:Option (Value×List (Nat×Nat))→List Nat
 |some (_,q)=>Tg q
 |none=>[1]
theorem ve{X:Cx}{w:List Sg}{kn:Cells}(bR:Knows X.ro kn):∀ {hs:List Nat} {rs:List ResultVar} {vs:List Value} {q:List (Nat×Nat)},CH X.P X.n e w kn hs rs=some (vs,q)→(∀p∈q,p.1=p.2)→Fy X.P ⟨X.ro,den w⟩ X.n e rs vs
 |_,[],vs,q,h,_=>by simp only[CH,Option.some.injEq,Prod.mk.injEq] at h;obtain⟨rfl,rfl⟩:=h;exact .nil
 |hs,.tmp t::rs,vs,q,h,hq=>by
  simp only[CH] at h
  split at h<;>try (cases h;done)
  rename_i v hv
  split at h<;>try (cases h;done)
  rename_i p7 q' hr
  simp only[Option.some.injEq,Prod.mk.injEq] at h;obtain⟨rfl,rfl⟩:=h
  exact .tmp hv (ve bR hr hq)
 | [],.cell _ _::_,vs,q,h,_=>by simp only[CH] at h;cases h
 |h0::hs,.cell t T::rs,vs,q,h,hq=>by
  simp only[CH] at h
  split at h<;>try (cases h;done)
  rename_i b off hv
  split at h<;>try (cases h;done)
  rename_i b' l hc
  split at h<;>try (cases h;done)
  rename_i v hld
  split at h<;>try (cases h;done)
  rename_i p7 q' hr
  simp only[Option.some.injEq,Prod.mk.injEq] at h;obtain⟨rfl,rfl⟩:=h
  have hb:b'=b:=hq _ List.mem_cons_self
  subst hb
  obtain⟨t',fz,hh⟩:=AY (X:=X) bR hc
  have ih:=ve bR hr fun p hp=>hq p (List.mem_cons_of_mem _ hp)
  unfold ldv at hld
  split at hld<;>try (cases hld;done)
  rename_i ti dP
  obtain⟨bL,tf⟩:=aB dP
  cases ha:ti.agg with
  |true=>
   rw[ha] at hld tf;simp only[cond_true] at hld
   split at hld<;>try (cases hld;done)
   rename_i vs2 hvs
   cases hld
   exact .agg tf hv ⟨_,_,_,hh,hvs⟩ ih
  |false=>
   rw[ha] at hld tf;simp only[cond_false] at hld
   exact .cell tf hv ⟨_,_,_,hh,hld⟩ ih
def zd:Option JS→Bool
 |some ⟨.fin .ret,_,_,_⟩=>true
 |some ⟨.fin .normal,_,_,_⟩=>true
 |_=>false
theorem uK(h:zd o=true):∃ex e w kn,o=some ⟨.fin ex,e,w,kn⟩∧(ex= .ret∨ex= .normal):=by
 unfold zd at h
 split at h
 ·exact⟨_,_,_,_,rfl,.inl rfl⟩
 ·exact⟨_,_,_,_,rfl,.inr rfl⟩
 cases h
def aeB:Option JS→Bool
 |some ⟨.ops ..,_,_,_⟩=>true
 |some ⟨.code ..,_,_,_⟩=>true
 |_=>false
structure QR(X:Cx)(R:Ending→St→Prop):Prop where
 q:X.Q=sW X.P (rB X.P X.fn) R
 d:X.D=[]
theorem q0{P:Program}{hm:P.follows .mixedOrders=true}:QR (X0 P hm f ro R) R:=⟨rfl,rfl⟩
theorem QR.a{X:Cx}(h:QR X R):QR (X.at ro) R:=⟨h.q,h.d⟩
theorem bJ:Knows ro []:=fun _ h=>by cases h
section
variable {X:Cx} {o:Option JS}
theorem aS(hq:QR X R)(v:Value)(hs ps:List Nat)(Y:Cells)(ib:Sub pE X.ro)(hR:R (.returned v) ⟨pE,Y⟩)(h1:rA (g9 X.P X.n X.fn hs o)=some v:=by kernel_rfl)(h2:NP (g9 X.P X.n X.fn hs o)=NO (g9 X.P X.n X.fn hs o):=by kernel_rfl)(h3:dA ps o=some Y:=by kernel_rfl)(h4:zd o=true:=by kernel_rfl):J X o:=by
 obtain⟨ex,e,w,kn,rfl,hex⟩:=uK h4
 simp only[g9] at h1 h2
 cases hr:CH X.P X.n e w kn.c hs (rB X.P X.fn).results.toList with
 |none=>rw[hr] at h1;cases h1
 |some x=>
  rcases x with ⟨vs,q⟩
  simp only[hr,rA,Option.some.injEq,NP,NO] at h1 h2
  intro bR
  have tK:=ve bR hr (nv h2)
  have hp:=bK h3
  show X.Q ex (A X.n e X.D) ⟨X.ro,den w⟩
  rw[hq.q,hq.d]
  exact PB (s0:=⟨pE,Y⟩) hex tK h1 (dF hp ib) hR
def rM(X:Cx)(K:Act→St→Prop)(ef:ι→Env)(wf:ι→List Sg)(Inv:ι→Prop)(μ:ι→Nat)(m:Nat):Prop:=
 ∀j,Inv j→μ j <m→∀(e:Env) (s:St),mb e (ef j)→(⟨X.ro,den (wf j)⟩:St).le s→K (A X.n e X.D) s
def zg:List Nat→List (Act→St→Prop)→Code→List KI→Option (Code×List KI)
 | [],_,c,k=>some (c,k)
 |0::p,Ks,.seq a b,k=>zg p Ks a (.seq b::k)
 |1::p,Ks,.seq _ b,k=>zg p Ks b k
 |2::p,K::Ks,.seq a _,k=>zg p Ks a (.next K::k)
 |_::p,Ks,.block id c,k=>zg p Ks c (.block id::k)
 |_::p,Ks,.scope c,k=>zg p Ks c k
 |0::p,Ks,.cond _ a _,k=>zg p Ks a k
 |_::p,Ks,.cond _ _ b,k=>zg p Ks b k
 |_::p,K::Ks,.loop c,k=>zg p Ks c (.next K::k)
 |_::p,Ks,.rangeFunc _ _ _ b,_=>zg p Ks b []
 |_,_,_,_=>none
def JU(P:Program)(f:FuncId)(p:List Nat)(Ks:List (Act→St→Prop)):Option (Code×List KI):=match (rB P f).body with
 |some c=>zg p Ks c []
 |none=>none
def stC(e:Env)(w:List Sg):Option (Code×List KI)→Option JS
 |some (c,k)=>some ⟨.code c k,e,w,⟨[],[]⟩⟩
 |none=>none
def stW(P:Program)(f:FuncId)(p:List Nat)(Ks:List (Act→St→Prop))(e:Env)(w:List Sg):Option JS:=stC e w (JU P f p Ks)
def zy:Option JS→Option (Code×List KI)
 |some ⟨.code c k,_,_,_⟩=>some (c,k)
 |_=>none
def lpB(K:Act→St→Prop):Option (Code×List KI)→Option (Code×List KI)
 |some (.loop c,k)=>some (c,.next K::k)
 |_=>none
theorem fX(p:List Nat)(Ks:List (Act→St→Prop))(ef:ι→Env)(wf:ι→List Sg)(Inv:ι→Prop)(μ:ι→Nat)(i0:ι)(h0:Inv i0)(ps:List Nat)(hb:∀i,Inv i→∀K,rM X K ef wf Inv μ (μ i)→∀rest,J X (stW X.P X.fn p (Ks++[K]) (ef i++rest) (wf i)))
 (h1:pM (mH (ef i0)) o=some (ef i0):=by kernel_rfl)(hd:∀i,lkE (mH (ef i)) (ef i)=some (ef i):=by intro _;kernel_rfl)(h2:qk ps o=some (wf i0):=by kernel_rfl)(hp:∀K,JU X.P X.fn p (Ks++[K])=lpB K (zy o):=by intro _;kernel_rfl):J X o:=by
 have hT:∀i,rM X (fun _ _=>True) ef wf Inv μ (μ i):=fun _ _ _ _ _ _ _ _=>trivial
 have bad:∀(K:Act→St→Prop),lpB K (zy o)=none→(∀i,rM X K ef wf Inv μ (μ i))→J X o:=fun K h hK=>by
  have:=hb i0 h0 K (hK i0) []
  simp only[stW,hp,h,stC] at this
  exact this.elim
 cases o with
 |none=>exact bad _ rfl hT
 |some s=>
  rcases s with ⟨q,e,w,kn⟩
  cases q with
  |code c k=>
   cases c with
   |loop c=>
    intro bR
    refine abD X.hC ef (fun i=>⟨X.ro,den (wf i)⟩) Inv μ i0 h0 (lU (by rw[uB] at h1;exact h1)) (lU (hd i0)) (dF (mV h2) (Sub.refl _)) fun i hi rest=>?_
    have:=hb i hi _ (fun j hj hm e s hc hle=>aky j hj hm hc (lU (hd j)) hle) rest
    simp only[stW,hp,zy,lpB,stC] at this
    exact this fun _ h=>(List.not_mem_nil h).elim
   |_=>exact bad _ rfl hT
  |_=>exact bad _ rfl hT
def MT:Option JS→Option (Act→St→Prop)
 |some ⟨.nxt K,_,_,_⟩=>some K
 |_=>none
theorem eW{K:Act→St→Prop}{ef:ι→Env}{wf:ι→List Sg}{Inv:ι→Prop}{μ:ι→Nat}{m:Nat}(hK:rM X1 K ef wf Inv μ m)(j:ι)(h:Inv j)(hm:μ j <m)(ps:List Nat)(hs:Sub X1.ro X.ro)
 (h0:MT o=some K:=by kernel_rfl)(h1:pM (mH (ef j)) o=some (ef j):=by kernel_rfl)(h2:qk ps o=some (wf j):=by kernel_rfl)(hn:X1.n=X.n:=by rfl)(hD:X1.D=X.D:=by rfl):J X o:=by
 unfold MT at h0
 split at h0<;>try (cases h0;done)
 rename_i K' e w kn
 cases h0
 intro _
 rw[uB] at h1
 have:=hK j h hm e ⟨X.ro,den w⟩ (lU h1) (dF (mV h2) hs)
 rw[hn,hD] at this
 exact this
def gS:List (List Nat)→List Sg→Option (List Cells)
 | [],_=>some []
 |p::r,w=>match PU p w with
  |some x=>match gS r w with
   |some y=>some (den x::y)
   |none=>none
  |none=>none
def gO(ps:List (List Nat)):Option JS→Option (List Cells)
 |some s=>bif GO ps.flatten then gS ps s.rw else none
 |none=>none
def Tn:List Sg→List Cells
 | []=>[]
 |x::w=>den [x]::Tn w
theorem Gq:∀(w:List Sg),(Tn w).flatten=den w
 | []=>rfl
 | .b i o::w=>by simp[Tn,jJ,Gq w];rfl
 | .l L::w=>by simp[Tn,gA,Gq w];rfl
theorem WG:∀ {a b:List Nat} {w x y:List Sg},PU a w=some x→PU b w=some y→PU (a++b) w=some (x++y)
 | [],b,w,x,y,h,h2=>by simp only[PU,Option.some.injEq] at h;subst h;exact h2
 |i::a,b,w,x,y,h,h2=>by
  simp only[PU] at h
  split at h<;>try (cases h;done)
  rename_i z hz
  split at h<;>try (cases h;done)
  rename_i r hr
  cases h
  simp only[List.cons_append,PU,hz,WG hr h2]
theorem apf:∀ {ps:List (List Nat)} {w:List Sg} {l:List Cells},gS ps w=some l→∃z,PU ps.flatten w=some z∧den z=l.flatten
 | [],w,l,h=>by simp only[gS,Option.some.injEq] at h;subst h;exact⟨[],rfl,rfl⟩
 |p::r,w,l,h=>by
  simp only[gS] at h
  split at h<;>try (cases h;done)
  rename_i x hx
  split at h<;>try (cases h;done)
  rename_i y hy
  cases h
  obtain⟨z,h1,h2⟩:=apf hy
  exact⟨x++z,by simpa using WG hx h1,by simp[mO,h2]⟩
theorem Us{K:Act→St→Prop}{ef:ι→Env}{wf:ι→List Sg}{Inv:ι→Prop}{μ:ι→Nat}{m:Nat}(hK:rM X1 K ef wf Inv μ m)(j:ι)(h:Inv j)(hm:μ j <m)(ps:List (List Nat))(hs:Sub X1.ro X.ro)
 (h0:MT o=some K:=by kernel_rfl)(h1:pM (mH (ef j)) o=some (ef j):=by kernel_rfl)(h2:gO ps o=some (Tn (wf j)):=by kernel_rfl)(hn:X1.n=X.n:=by rfl)(hD:X1.D=X.D:=by rfl):J X o:=by
 unfold MT at h0
 split at h0<;>try (cases h0;done)
 rename_i K' e w kn
 cases h0
 intro _
 rw[uB] at h1
 have hp:(den w).Perm (den (wf j)++den (dw ps.flatten 0 w)):=by
  simp only[gO] at h2
  cases ho:GO ps.flatten with
  |false=>rw[ho] at h2;cases h2
  |true=>
   rw[ho] at h2
   obtain⟨z,h3,h4⟩:=apf h2
   rw[Gq] at h4
   rw[←h4]
   exact yt h3 ho
 have:=hK j h hm e ⟨X.ro,den w⟩ (lU h1) (dF hp hs)
 rw[hn,hD] at this
 exact this
def aFX:Option (Code×List KI)→Option (Code×List KI)
 |some (_,.seq y::k)=>some (y,k)
 |_=>none
def avp(K:Act→St→Prop):Option JS→Option JS
 |some ⟨.code x (.seq _::k),e,w,kn⟩=>some ⟨.code x (.next K::k),e,w,kn⟩
 |_=>none
theorem jct(p:List Nat)(Ks:List (Act→St→Prop))(ef:ι→Env)(wf:ι→List Sg)(Inv:ι→Prop)(hj:∀i,Inv i→∀rest,J X (stW X.P X.fn p Ks (ef i++rest) (wf i)))(h:∀K,rM X K ef wf Inv (fun _=>0) 1→J X (avp K o))(hd:∀i,lkE (mH (ef i)) (ef i)=some (ef i):=by intro _;kernel_rfl)(hp:JU X.P X.fn p Ks=aFX (zy o):=by kernel_rfl):J X o:=by
 unfold avp at h
 split at h
 ·rename_i x y k e w kn
  intro bR
  refine h (fun a s=>Wp X.C X.fn X.aF y (KQ X k) a s) (fun j hI _ e s hc hle=>?_) bR
  obtain⟨r,hr⟩:=gE (n:=X.n) (D:=X.D) hc (lU (hd j))
  rw[hr]
  have:=hj j hI r
  simp only[stW,hp,zy,aFX,stC] at this
  exact(this fun _ h=>(List.not_mem_nil h).elim).more X.hC hle
 exact(h (fun _ _=>True) fun _ _ _ _ _ _ _=>trivial).elim
def expand:Cells→List Sg
 | []=>[]
 |x::l=> .b x.1 x.2::expand l
def Vr:Nat→List Sg→List Sg
 |_,[]=>[]
 |0,.l L::w=>expand L++w
 |0,x::w=>x::w
 |i+1,x::w=>x::Vr i w
theorem VU{kn:Kn}{w w':List Sg}{p:Pos}(h:den w'=den w)(hj:JP X kn e w' p):JP X kn e w p:=by
 cases p<;>simp only[JP,h] at hj ⊢ <;>exact hj
def aEn(i:Nat):Option JS→Option JS
 |some s=>some {s with rw:=Vr i s.rw}
 |none=>none
def Yf:List Sg→Cells
 | []=>[]
 | .b i o::w=>(i,o)::Yf w
 | .l _::w=>Yf w
theorem yO:∀ {w:List Sg} {x:Nat×Obj},x∈Yf w→x∈den w
 | .b i o::w,x,h=>by
  rw[jJ]
  rcases List.mem_cons.1 h with rfl|h
  ·exact List.mem_cons_self
  exact List.mem_cons_of_mem _ (yO h)
 | .l L::w,x,h=>by rw[gA];exact List.mem_append_right _ (yO (w:=w) h)
def ams(ps:List Nat):Option JS→Option JS
 |some s=>match PU ps s.rw with
  |some w=>some {s with rw:=dw ps 0 s.rw,kn:=⟨Yf w++s.kn.c,s.kn.nd⟩}
  |none=>none
 |none=>none
theorem z9{X:Cx}{aR:Nat→Option Obj}:∀(k:List KI),KQ (X.at aR) k=KQ X k
 | []=>rfl
 | .seq _::k=>by simp only[KQ,z9 k];rfl
 | .block _::k=>by simp only[KQ,z9 k]
 | .next _::k=>by simp only[KQ,z9 k]
theorem jf(ps:List Nat)(L:Cells)(h:∀aR,Sub X.ro aR→Knows aR L→J (X.at aR) (ams ps o))(h2:dA ps o=some L:=by kernel_rfl)(hp:aeB o=true:=by kernel_rfl):J X o:=by
 have hpk:∀ {s:JS},dA ps (some s)=some L→∃w,PU ps s.rw=some w∧den w=L:=by
  intro s hs
  simp only[dA,qk] at hs
  cases hk:GO ps with
  |false=>rw[hk] at hs;cases hs
  |true=>
   rw[hk] at hs;simp only[cond_true] at hs
   split at hs<;>try (cases hs;done)
   rename_i w hw
   cases hs
   exact⟨w,hw,rfl⟩
 unfold aeB at hp
 split at hp
 ·rename_i ops todo k e w kn
  intro bR
  obtain⟨w1,hw1,rfl⟩:=hpk h2
  refine TR X.hC (bK h2) fun aR hs hk=>?_
  have:=h aR hs hk
  simp only[ams,hw1] at this
  have:=this (fun x hx=>(List.mem_append.1 hx).elim (fun hx=>hk x (yO hx)) fun hx=>hs _ _ (bR x hx))
  simp only[JP,z9] at this
  exact this
 ·rename_i c k e w kn
  intro bR
  obtain⟨w1,hw1,rfl⟩:=hpk h2
  refine YB X.hC (bK h2) fun aR hs hk=>?_
  have:=h aR hs hk
  simp only[ams,hw1] at this
  have:=this (fun x hx=>(List.mem_append.1 hx).elim (fun hx=>hk x (yO hx)) fun hx=>hs _ _ (bR x hx))
  simp only[JP,z9] at this
  exact this
 cases hp
def geO:Option JS→Option JS
 |some s=>some {s with rw:= .l []::s.rw}
 |none=>none
theorem BD(h:J X (geO o)):J X o:=by
 cases o with
 |none=>exact h
 |some s=>exact fun bR=>VU (by simp[gA]) (h bR)
def sgS:Nat→List Sg→List Sg→List Sg
 |_,_,[]=>[]
 |0,l,_::w=>l++w
 |i+1,l,x::w=>x::sgS i l w
theorem Wt{l:List Sg}:∀ {i:Nat} {w:List Sg} {x:Sg},Ao w i=some x→den [x]=den l→den (sgS i l w)=den w
 |_,[],_,h,_=>by cases h
 |0,y::w,x,h,hd=>by
  simp only[Ao,Option.some.injEq] at h;subst h
  have:den (y::w)=den [y]++den w:=by rw[←mO];rfl
  rw[this,hd,←mO];rfl
 |i+1,y::w,x,h,hd=>by
  have:=Wt (w:=w) (i:=i) h hd
  cases y<;>simp[sgS,jJ,gA,this]
def sgO(i:Nat)(l:List Sg):Option JS→Option JS
 |some s=>some {s with rw:=sgS i l s.rw}
 |none=>none
theorem jg(i:Nat)(l:List Sg)(h:J X (sgO i l o))(h2:dA [i] o=some (den l):=by kernel_rfl):J X o:=by
 cases o with
 |none=>exact h
 |some s=>
  have hn:∃x,Ao s.rw i=some x∧den [x]=den l:=by
   simp only[dA,qk,GO,bC,PU,Bool.not_false,Bool.true_and,cond_true] at h2
   cases hx:Ao s.rw i with
   |none=>rw[hx] at h2;cases h2
   |some x=>rw[hx] at h2;simp only[Option.some.injEq] at h2;exact⟨x,rfl,h2⟩
  obtain⟨x,hx,hd⟩:=hn
  exact fun bR=>VU (Wt hx hd) (h bR)
theorem jmw(i:Nat)(l:List Sg){L:Cells}(h:L=den l)(hj:J X (sgO i l o))(h2:dA [i] o=some L:=by kernel_rfl):J X o:=by
 subst h;exact jg i l hj h2
end
def Cx.wd(X:Cx)(D:List Deferred):Cx:={X with D:=D}
theorem Sv{X:Cx}:∀(k:List KI),KQ (X.wd D) k=KQ X k
 | []=>rfl
 | .seq _::k=>by simp only[KQ,Sv k];rfl
 | .block _::k=>by simp only[KQ,Sv k]
 | .next _::k=>by simp only[KQ,Sv k]
def FZ(X:Cx)(K:Act→St→Prop)(ef:ι→Env)(wf:ι→List Sg)(df:ι→List Deferred)(Inv:ι→Prop)(μ:ι→Nat)(m:Nat):Prop:=
 ∀j,Inv j→μ j <m→∀(e:Env) (s:St),mb e (ef j)→(⟨X.ro,den (wf j)⟩:St).le s→K (A X.n e (df j)) s
section
variable {X:Cx} {o:Option JS}
theorem abE{fn:FuncId}{Q:Post}{env:Env}(hC:∀main T,C main T→Closed X.P main T)(qD:ι→Env)(sf:ι→St)(df:ι→List Deferred)(Inv:ι→Prop)(μ:ι→Nat){c:Code}(i0:ι)(h0:Inv i0)(hc:mb env (qD i0))(hd:∀i,mb (qD i) (qD i))(hs:(sf i0).le s)
 (round:∀i,Inv i→∀rest,Wp C fn aF c (nj (fun a s=>∃j,Inv j∧μ j <μ i∧(∃e,mb e (qD j)∧a=A n e (df j))∧(sf j).le s) Q) (A n (qD i++rest) (df i)) (sf i)):Wp C fn aF (.loop c) Q (A n env (df i0)) s:=by
 obtain⟨r0,p6⟩:=gE (n:=n) (D:=df i0) hc (hd i0)
 rw[p6]
 intro main T hT b k cs h1 h2 h3 h4
 have key:∀m i rest s,μ i=m→Inv i→(sf i).le s→T (G (aW b (A n (qD i++rest) (df i)) (.code c:: .inLoop c::k)) cs) s:=by
  intro m
  induction m using Nat.strongRecOn with
  |_ m ih=>
   intro i rest s hm hI hle
   refine(hC main T hT).mono _ _ _ hle ?_
   refine round i hI rest main T hT b (.inLoop c::k) cs h1 h2 h3 fun e a' s' q=>?_
   cases e with
   |normal=>
    obtain⟨j,vJ,bO,⟨e,he,rfl⟩,y5⟩:=q
    obtain⟨acN,hr⟩:=gE (n:=n) (D:=df j) he (hd j)
    rw[hr]
    exact(hC main T hT).go rfl rfl (g':=G (aW b _ (.code c:: .inLoop c::k)) cs) (fun w=>by simp[G,stepG,stepG.exec,aW]) (ih _ (hm▸bO) j acN s' rfl vJ y5)
   |exit id=>exact(h4 _ _ _ q).push rfl (by simp)
   |ret=>exact(h4 _ _ _ q).push (x:= .inLoop c) rfl (by simp)
   |panic ch=>exact(h4 _ _ _ q).push (x:= .inLoop c) rfl (by simp)
   |goto l=>exact(h4 _ _ _ q).elim
   |outgrown=>exact(h4 _ _ _ q).elim
 exact(hC main T hT).go rfl rfl (g':=G (aW b (A n (qD i0++r0) (df i0)) (.code c:: .inLoop c::k)) cs) (fun w=>by simp[G,stepG,stepG.exec,aW]) (key _ i0 r0 s rfl h0 hs)
theorem aBo(p:List Nat)(Ks:List (Act→St→Prop))(ef:ι→Env)(wf:ι→List Sg)(df:ι→List Deferred)(Inv:ι→Prop)(μ:ι→Nat)(i0:ι)(h0:Inv i0)(ps:List Nat)(hb:∀i,Inv i→∀K,FZ X K ef wf df Inv μ (μ i)→∀rest,J (X.wd (df i)) (stW X.P X.fn p (Ks++[K]) (ef i++rest) (wf i)))
 (h1:pM (mH (ef i0)) o=some (ef i0):=by kernel_rfl)(hd:∀i,lkE (mH (ef i)) (ef i)=some (ef i):=by intro _;kernel_rfl)(h2:qk ps o=some (wf i0):=by kernel_rfl)(hp:∀K,JU X.P X.fn p (Ks++[K])=lpB K (zy o):=by intro _;kernel_rfl)(hD:X.D=df i0:=by rfl):J X o:=by
 have hT:∀i,FZ X (fun _ _=>True) ef wf df Inv μ (μ i):=fun _ _ _ _ _ _ _ _=>trivial
 have bad:∀(K:Act→St→Prop),lpB K (zy o)=none→(∀i,FZ X K ef wf df Inv μ (μ i))→J X o:=fun K h hK=>by
  have:=hb i0 h0 K (hK i0) []
  simp only[stW,hp,h,stC] at this
  exact this.elim
 cases o with
 |none=>exact bad _ rfl hT
 |some s=>
  rcases s with ⟨q,e,w,kn⟩
  cases q with
  |code c k=>
   cases c with
   |loop c=>
    intro bR
    show Wp X.C X.fn X.aF (.loop c) (KQ X k) (A X.n e X.D) ⟨X.ro,den w⟩
    rw[hD]
    refine abE (X:=X) X.hC ef (fun i=>(⟨X.ro,den (wf i)⟩:St)) df Inv μ i0 h0 (lU (by rw[uB] at h1;exact h1)) (fun i=>lU (hd i)) (dF (mV h2) (Sub.refl _)) fun i hi rest=>?_
    have:=hb i hi (fun a s=>∃j,Inv j∧μ j <μ i∧(∃e,mb e (ef j)∧a=A X.n e (df j))∧(⟨X.ro,den (wf j)⟩:St).le s) (fun j hj hm e s hc hle=>⟨j,hj,hm,⟨e,hc,rfl⟩,hle⟩) rest
    simp only[stW,hp,zy,lpB,stC] at this
    have:=this fun _ h=>(List.not_mem_nil h).elim
    simp only[JP,KQ,Sv] at this
    exact this
   |_=>exact bad _ rfl hT
  |_=>exact bad _ rfl hT
theorem jnD{K:Act→St→Prop}{ef:ι→Env}{wf:ι→List Sg}{df:ι→List Deferred}{Inv:ι→Prop}{μ:ι→Nat}{m:Nat}(hK:FZ X1 K ef wf df Inv μ m)(j:ι)(h:Inv j)(hm:μ j <m)(ps:List (List Nat))(hs:Sub X1.ro X.ro)
 (h0:MT o=some K:=by kernel_rfl)(h1:pM (mH (ef j)) o=some (ef j):=by kernel_rfl)(h2:gO ps o=some (Tn (wf j)):=by kernel_rfl)(hn:X1.n=X.n:=by rfl)(hD:X.D=df j:=by rfl):J X o:=by
 have hK':rM (X1.wd (df j)) K ef wf (fun i=>i=j) μ m:=fun i hi hm e s hc hle=>by subst hi;exact hK _ h hm e s hc hle
 exact Us hK' j rfl hm ps hs h0 h1 h2 hn hD.symm
end
attribute [irreducible] gO geO rB kE avp stW zy JU aEn ams sgO zd aeB g9 NP NO rA MT
section
variable {X:Cx} {o:Option JS}
def N6(n:Nat)(p:Oper)(e:Env):Option (BinOp×TypeId×Value×Value):=match p.op with
 | .binOp op T x y _=>match bA n e x with
  |some v=>match bA n e y with
   |some w=>some (op,T,v,w)
   |none=>none
  |none=>none
 |_=>none
theorem vY{op:BinOp}{w:Value}(h:N6 n p e=some (op,T,v,w)):∃x y T',p.op= .binOp op T x y T'∧bA n e x=some v∧bA n e y=some w:=by
 unfold N6 at h
 split at h<;>try (cases h;done)
 rename_i av
 split at h<;>try (cases h;done)
 rename_i hx
 split at h<;>try (cases h;done)
 rename_i hy
 cases h
 exact⟨_,_,_,av,hx,hy⟩
theorem jsa{a:ByteArray}(T:TypeId)(hb:(a.size:Int)+b.size≤9223372036854775807)(hj:J X (ku (.string (a++b)) o))(hv:dB X.n (N6 X.n) o=some (.add,T,.string a,.string b):=by kernel_rfl):J X o:=by
 refine SF hv (fun s p e _ hf=>?_) hj
 obtain⟨x,y,T',av,hx,hy⟩:=vY hf
 rcases p with ⟨dst,op,ty,pos,dG,g⟩
 dsimp only at av;subst av
 exact fun s0 ops i uF rest hw s' hs todo Q hk=>arH X.hC uF hw (bD hx) (bD hy) hb hk
theorem jsr{k k':IntKind}{a b:Int}(T:TypeId)(hb:0≤b)(hj:J X (ku (.int k (iL k a b)) o))(hv:dB X.n (N6 X.n) o=some (.shr,T,.int k a,.int k' b):=by kernel_rfl):J X o:=by
 refine SF hv (fun s p e _ hf=>?_) hj
 obtain⟨x,y,T',av,hx,hy⟩:=vY hf
 rcases p with ⟨dst,op,ty,pos,dG,g⟩
 dsimp only at av;subst av
 exact fun s0 ops i uF rest hw s' hs todo Q hk=>azA X.hC uF hw (bD hx) (bD hy) hb hk
theorem jsh{k k':IntKind}{a b:Int}(T:TypeId)(hb:0≤b)(hj:J X (ku (.int k (eC k a b)) o))(hv:dB X.n (N6 X.n) o=some (.shl,T,.int k a,.int k' b):=by kernel_rfl):J X o:=by
 refine SF hv (fun s p e _ hf=>?_) hj
 obtain⟨x,y,T',av,hx,hy⟩:=vY hf
 rcases p with ⟨dst,op,ty,pos,dG,g⟩
 dsimp only at av;subst av
 exact fun s0 ops i uF rest hw s' hs todo Q hk=>azB X.hC uF hw (bD hx) (bD hy) hb hk
theorem jeq{m:List Value}{r:Bool}(hg:n6 X.P T)(he:EqV X.P T (.agg ⟨l⟩) (.agg ⟨m⟩) r)(hj:J X (ku (.bool r) o))(hv:dB X.n (N6 X.n) o=some (.eql,T,.agg ⟨l⟩,.agg ⟨m⟩):=by kernel_rfl):J X o:=by
 refine SF hv (fun s p e _ hf=>?_) hj
 obtain⟨x,y,T',av,hx,hy⟩:=vY hf
 rcases p with ⟨dst,op,ty,pos,dG,g⟩
 dsimp only at av;subst av
 exact fun s0 ops i uF rest hw s' hs todo Q hk=>akq X.hC uF hw (bD hx) (bD hy) hg he hk
theorem jne{m:List Value}{r:Bool}(hg:n6 X.P T)(he:EqV X.P T (.agg ⟨l⟩) (.agg ⟨m⟩) r)(hj:J X (ku (.bool !r) o))(hv:dB X.n (N6 X.n) o=some (.neq,T,.agg ⟨l⟩,.agg ⟨m⟩):=by kernel_rfl):J X o:=by
 refine SF hv (fun s p e _ hf=>?_) hj
 obtain⟨x,y,T',av,hx,hy⟩:=vY hf
 rcases p with ⟨dst,op,ty,pos,dG,g⟩
 dsimp only at av;subst av
 exact fun s0 ops i uF rest hw s' hs todo Q hk=>adW X.hC uF hw (bD hx) (bD hy) hg he hk
def G9(P:Program)(T:TypeId):Bool:=match aY P T with
 |some ⟨.slice _,_,_,_⟩=>true
 |_=>false
theorem G8{P:Program}(h:G9 P T=true):∃E sz bL z ag,TF P T (.slice E) sz bL z ag:=by
 unfold G9 at h
 split at h<;>try (cases h;done)
 rename_i dP
 obtain⟨bL,tf⟩:=aB dP
 exact⟨_,_,_,_,_,tf⟩
theorem jsn{a:Option Addr}{l c:Nat}(T:TypeId)(hj:J X (ku (.bool a.isNone) o))(hv:dB X.n (N6 X.n) o=some (.eql,T,.slice a l c,.slice none 0 0):=by kernel_rfl)(hT:G9 X.P T=true:=by kernel_rfl):J X o:=by
 refine SF hv (fun s p e _ hf=>?_) hj
 obtain⟨x,y,T',av,hx,hy⟩:=vY hf
 obtain⟨E,sz,bL,z,ag,tf⟩:=G8 hT
 rcases p with ⟨dst,op,ty,pos,dG,g⟩
 dsimp only at av;subst av
 exact fun s0 ops i uF rest hw s' hs todo Q hk=>akl X.hC uF hw tf (bD hx) (bD hy) hk
def E7(n:Nat)(e:Env):Option Operand→Option (Option Int)
 |none=>some none
 |some x=>match bA n e x with
  |some (.int _ a)=>some (some a)
  |_=>none
def ack(P:Program)(n:Nat)(p:Oper)(e:Env):Option (ByteArray×Option Int×Option Int):=match p.op with
 | .slice T x y z none=>match aY P T with
  |some ⟨.string,_,_,_⟩=>match bA n e x with
   |some (.string b)=>match E7 n e y with
    |some lo=>match E7 n e z with
     |some hi=>some (b,lo,hi)
     |none=>none
    |none=>none
   |_=>none
  |_=>none
 |_=>none
theorem oI{x:Option Operand}{a:Int}(h:E7 n e x=some (some a)):∃y k,x=some y∧bA n e y=some (.int k a):=by
 unfold E7 at h
 split at h
 ·cases h
 split at h<;>try (cases h;done)
 rename_i hx
 cases h
 exact⟨_,_,rfl,hx⟩
theorem CZ{x:Option Operand}(h:E7 n e x=some none):x=none:=by
 unfold E7 at h
 split at h
 ·rfl
 split at h<;>cases h
theorem Mv{P:Program}{lo hi:Option Int}(h:ack P n p e=some (b,lo,hi)):∃T x y z sz bL zz ag,p.op= .slice T x y z none∧TF P T .string sz bL zz ag∧bA n e x=some (.string b)∧E7 n e y=some lo∧E7 n e z=some hi:=by
 unfold ack at h
 split at h<;>try (cases h;done)
 rename_i av
 split at h<;>try (cases h;done)
 rename_i dP
 obtain⟨bL,tf⟩:=aB dP
 split at h<;>try (cases h;done)
 rename_i hx
 split at h<;>try (cases h;done)
 rename_i hy
 split at h<;>try (cases h;done)
 rename_i hz
 cases h
 exact⟨_,_,_,_,_,_,_,_,av,tf,hx,hy,hz⟩
theorem jtH{hi:Int}(hl:0≤hi∧hi≤b.size)(hj:J X (ku (.string (b.extract 0 hi.toNat)) o))(hv:dB X.n (ack X.P X.n) o=some (b,none,some hi):=by kernel_rfl):J X o:=by
 refine SF hv (fun s p e _ hf=>?_) hj
 obtain⟨T,x,y,z,sz,bL,zz,ag,av,tf,hx,hy,hz⟩:=Mv hf
 have hy:=CZ hy;subst hy
 obtain⟨z,k',rfl,ZO⟩:=oI hz
 rcases p with ⟨dst,op,ty,pos,dG,g⟩
 dsimp only at av;subst av
 exact fun s0 ops i uF rest hw s' hs todo Q hk=>Qa X.hC uF hw tf (bD hx) (bD ZO) hl hk
theorem jtL{lo:Int}(hl:0≤lo∧lo≤b.size)(hj:J X (ku (.string (b.extract lo.toNat b.size)) o))(hv:dB X.n (ack X.P X.n) o=some (b,some lo,none):=by kernel_rfl):J X o:=by
 refine SF hv (fun s p e _ hf=>?_) hj
 obtain⟨T,x,y,z,sz,bL,zz,ag,av,tf,hx,hy,hz⟩:=Mv hf
 have hz:=CZ hz;subst hz
 obtain⟨y,k,rfl,OF⟩:=oI hy
 rcases p with ⟨dst,op,ty,pos,dG,g⟩
 dsimp only at av;subst av
 exact fun s0 ops i uF rest hw s' hs todo Q hk=>P9 X.hC uF hw tf (bD hx) (bD OF) hl hk
def lnV(P:Program)(n:Nat)(p:Oper)(e:Env):Option Value:=match p.op with
 | .call ⟨.builtin .len,⟨[x]⟩,⟨[T]⟩⟩=>bif G9 P T then bA n e x else none
 |_=>none
theorem jol{T2:TypeId}{enc:α→List Value}{ps:List α}{L:Cells}(gK:aK v sz T2 enc ps L)(hj:J X (ku (.int .i64 ps.length) o))(hv:dB X.n (lnV X.P X.n) o=some v:=by kernel_rfl):J X o:=by
 refine SF hv (fun s p e _ hf=>?_) hj
 unfold lnV at hf
 split at hf<;>try (cases hf;done)
 rename_i x T av
 cases hT:G9 X.P T with
 |false=>rw[hT] at hf;cases hf
 |true=>
  rw[hT] at hf;simp only[cond_true] at hf
  obtain⟨E,s1,bL,z,ag,tf⟩:=G8 hT
  rcases p with ⟨dst,op,ty,pos,dG,g⟩
  dsimp only at av;subst av
  exact fun s0 ops i uF rest hw s' hs todo Q hk=>adX X.hC uF hw tf (bD hf) gK hk
def T3(ps:List Nat)(v:Value)(L':Cells):Option JS→Option JS:=ni ps v L'
theorem WO{ops:Array Oper}{k:List KI}{w:List Sg}{kn:Kn}{L':Cells}(ho:ops[i]?=some p):T3 ps v L' (some ⟨.ops ops (i::todo) k,e,w,kn⟩)=some ⟨.ops ops todo k,upd p.dst v e,.l L'::dw ps 0 w,kn⟩:=by
 unfold T3
 simp only[nV ho]
def ajw(P:Program)(n:Nat)(p:Oper)(e:Env):Option (Addr×List Value×Nat):=match p.op with
 | .store T x y=>match aY P T with
  |some ti=>match bA n e x with
   |some (.pointer (some a))=>match bA n e y with
    |some v=>some (a,eA v,ti.size)
    |none=>none
   |_=>none
  |none=>none
 |_=>none
theorem Wm{P:Program}{a:Addr}(h:ajw P n p e=some (a,l,sz)):∃T x y d bL z ag v,p.op= .store T x y∧TF P T d sz bL z ag∧bA n e x=some (.pointer (some a))∧bA n e y=some v∧v.cells=⟨l⟩:=by
 unfold ajw at h
 split at h<;>try (cases h;done)
 rename_i av
 split at h<;>try (cases h;done)
 rename_i ti dP
 obtain⟨bL,tf⟩:=aB dP
 split at h<;>try (cases h;done)
 rename_i hx
 split at h<;>try (cases h;done)
 rename_i hy
 cases h
 exact⟨_,_,_,_,_,_,_,_,av,tf,hx,hy,by rw[ny]⟩
theorem jso{enc:α→List Value}{ps:List α}{L:Cells}{b k:Nat}{a:α}(i f:Nat)(c:List Value)(e:α)(gK:aK v sz E enc ps L)(hb:JL v b)(hk:ps[k]?=some a) (he:enc e=dI (enc a) f c) (h1:c.all single=true) (hf:f+c.length≤sz) (hj:∀L',aK v sz E enc (ps.set k e) L'→J X (T3 [i] undef L' o)) (hv:eJ X.n (ajw X.P X.n) o=some (⟨b,k*sz+f,none⟩,c,c.length):=by kernel_rfl) (h2:dA [i] o=some L:=by kernel_rfl):J X o:=by
 obtain⟨ops,i0,todo,kk,ev,w,kn,p,rfl,ho,hw,hc⟩:=dD hv
 obtain⟨T,x,y,d,bL,z,ag,u,av,tf,hx,hy,hu⟩:=Wm hc
 intro bR
 rcases p with ⟨dst,op,ty,pos,dG,g⟩
 dsimp only at av;subst av
 refine xw X.hC (bK h2)<|azw X.hC ho hw tf hx hy hu rfl (List.all_eq_true.1 h1) gK hb hk he hf fun L' hL'=>?_
 have:=hj L' hL'
 rw[WO ho] at this
 have:=this bR
 simp only[JP,gA] at this
 exact this
def apV(P:Program)(n:Nat)(p:Oper)(e:Env):Option (Value×Value×TypeId×Nat):=match p.op with
 | .call ⟨.builtin .append,⟨[x,y]⟩,⟨[T,U]⟩⟩=>match aY P T with
  |some ⟨.slice E,_,_,_⟩=>bif G9 P U then (match aY P E with
   |some te=>match P.info? E with
    |some ie=>bif Nat.beq te.zero.length te.size&&Nat.ble ie.bytes 65536 then (match bA n e x with
     |some v=>match bA n e y with
      |some w=>some (v,w,E,te.size)
      |none=>none
     |none=>none) else none
    |none=>none
   |none=>none) else none
  |_=>none
 |_=>none
theorem avK{P:Program}{w:Value}(h:apV P n p e=some (v,w,E,sz)):∃x y T U s1 b1 z1 a1 E2 s2 b2 z2 a2 d bL z ag,p.op= .call ⟨.builtin .append,#[x,y],#[T,U]⟩∧TF P T (.slice E) s1 b1 z1 a1∧TF P U (.slice E2) s2 b2 z2 a2∧TF P E d sz bL z ag∧z.length=sz∧bL≤65536∧bA n e x=some v∧bA n e y=some w:=by
 unfold apV at h
 split at h<;>try (cases h;done)
 rename_i x y T U av
 split at h<;>try (cases h;done)
 rename_i E' _ _ _ dP
 obtain⟨b1,tf1⟩:=aB dP
 cases hU:G9 P U with
 |false=>rw[hU] at h;cases h
 |true=>
  rw[hU] at h;simp only[cond_true] at h
  obtain⟨E2,s2,b2,z2,a2,qY⟩:=G8 hU
  split at h<;>try (cases h;done)
  rename_i te qx
  obtain⟨b3,tf3⟩:=aB qx
  split at h<;>try (cases h;done)
  rename_i ie hie
  cases hb:(Nat.beq te.zero.length te.size&&Nat.ble ie.bytes 65536) with
  |false=>rw[hb] at h;cases h
  |true=>
   rw[hb] at h;simp only[cond_true] at h
   split at h<;>try (cases h;done)
   rename_i hx
   split at h<;>try (cases h;done)
   rename_i hy
   simp only[Option.some.injEq,Prod.mk.injEq] at h
   obtain⟨rfl,rfl,rfl,rfl⟩:=h
   simp only[Bool.and_eq_true,Nat.ble_eq] at hb
   obtain⟨i2,g1,_,g3,_⟩:=tf3.info
   rw[hie] at g1;cases g1
   exact⟨x,y,T,U,_,b1,_,_,E2,s2,b2,z2,a2,_,b3,_,_,av,tf1,qY,tf3,Nat.eq_of_beq_eq_true hb.1,by omega,hx,hy⟩
theorem wD{w:Value}{enc:α→List Value}{ps qs:List α}{L:Cells}(is lp:List Nat)(B:Cells)(gK:aK v sz E enc ps L)(IK:∀s:St,Ext ⟨X.ro,[]⟩ s→(∀x∈B,s.has x.1 x.2)→Sl s w sz enc qs)(hq:∀p∈qs,∀c∈enc p,single c=true)(hb:ps.length+qs.length≤1048576)(hj:∀v' L',aK v' sz E enc (ps++qs) L'→J X (T3 is v' L' o))
 (hv:eJ X.n (apV X.P X.n) o=some (v,w,E,sz):=by kernel_rfl)(h2:dA is o=some L:=by kernel_rfl)(h3:dA lp o=some B:=by kernel_rfl):J X o:=by
 obtain⟨ops,i0,todo,kk,ev,w0,kn,p,rfl,ho,hw,hc⟩:=dD hv
 obtain⟨x,y,T,U,s1,b1,z1,a1,E2,s2,b2,z2,a2,d,bL,z,ag,av,tf1,qY,tf3,hz,hby,hx,hy⟩:=avK hc
 intro bR
 rcases p with ⟨dst,op,ty,pos,dG,g⟩
 dsimp only at av;subst av
 have hp:=bK h2
 refine xw X.hC hp<|oap X.hC ho hw tf1 qY tf3 hz hx hy gK (IK _ NJ fun u hu=>?_) hq ⟨hb,hby⟩ fun v' L' hL'=>?_
 ·rcases RU (X:=X) h3 u hu with h|h
  ·exact .inl h
  exact .inr (hp.mem_iff.1 h)
 have:=hj v' L' hL'
 rw[WO ho] at this
 have:=this bR
 simp only[JP,gA] at this
 exact this
end
attribute [irreducible] T3
section
variable {X:Cx} {o:Option JS}
def nxV(n:Nat)(p:Oper)(e:Env):Option Nat:=match p.op with
 | .next x true=>match bA n e x with
  |some (.pointer (some ⟨r,0,none⟩))=>some r
  |_=>none
 |_=>none
theorem ad3(h:nxV n p e=some r):∃x,p.op= .next x true∧bA n e x=some (.pointer (some ⟨r,0,none⟩)):=by
 unfold nxV at h
 split at h<;>try (cases h;done)
 rename_i av
 split at h<;>try (cases h;done)
 rename_i hx
 cases h
 exact⟨_,av,hx⟩
def Tm(i:Nat)(v:Value)(b:Nat)(ob:Obj):Option JS→Option JS
 |some ⟨.ops ops (j::todo) k,e,w,kn⟩=>match ops[j]? with
  |some p=>some ⟨.ops ops todo k,upd p.dst v e,.b b ob::dw [i] 0 w,kn⟩
  |none=>none
 |_=>none
theorem jnA{p:Nat}{c:UInt8}(r i:Nat)(hp:b.data.toList[p]?=some c) (ha:c.toNat <128) (hj:J X (Tm i (.tuple ⟨[.bool true,.int .i64 p,.int .i32 c.toNat]⟩) r (.stringIter b (p+1)) o))
 (hv:eJ X.n (nxV X.n) o=some r:=by kernel_rfl) (hB:dA [i] o=some [(r,.stringIter b p)]:=by kernel_rfl):J X o:=by
 obtain⟨ops,i0,todo,kk,ev,w0,kn,q,rfl,ho,hw,hc⟩:=dD hv
 obtain⟨x,av,hx⟩:=ad3 hc
 intro bR
 rcases q with ⟨dst,op,ty,pos,dG,g⟩
 dsimp only at av;subst av
 refine xw X.hC (bK hB) (akp X.hC ho hw hx hp ha ?_)
 simp only[Tm,ho] at hj
 have:=hj bR
 simp only[JP,jJ] at this
 exact this
theorem jnZ{p:Nat}(r i:Nat)(hp:b.data.toList[p]?=none) (hj:J X (Tm i (.tuple ⟨[.bool false]⟩) r (.stringIter b p) o))
 (hv:eJ X.n (nxV X.n) o=some r:=by kernel_rfl) (hB:dA [i] o=some [(r,.stringIter b p)]:=by kernel_rfl):J X o:=by
 obtain⟨ops,i0,todo,kk,ev,w0,kn,q,rfl,ho,hw,hc⟩:=dD hv
 obtain⟨x,av,hx⟩:=ad3 hc
 intro bR
 rcases q with ⟨dst,op,ty,pos,dG,g⟩
 dsimp only at av;subst av
 refine xw X.hC (bK hB) (ako X.hC ho hw hx hp ?_)
 simp only[Tm,ho] at hj
 have:=hj bR
 simp only[JP,jJ] at this
 exact this
theorem jcG{own:Cells}{Φ:Value→(Nat→Option Obj)→Cells→Prop}(ps:List Nat)(hf:FnG X.P f vs X.ro own Φ)(hj:∀v aR Y,Sub X.ro aR→Φ v aR Y→J (X.at aR) (ni ps v Y o))(h1:eJ X.n (wJ X.P X.n) o=some (f,vs):=by kernel_rfl)(h2:dA ps o=some own:=by kernel_rfl):J X o:=by
 obtain⟨ops,i,todo,k,e,w,kn,p,rfl,ho,hw,hc⟩:=dD h1
 obtain⟨ff,x,xs,at_,fi,ca,ws,av,hx,qS,rfl⟩:=pZ hc
 intro bR
 rcases p with ⟨dst,op,ty,pos,dG,g⟩
 dsimp only at av;subst av
 have hp:=bK h2
 refine su (fi:=⟨fi⟩) (ca:=⟨ca⟩) (ws:=fi++ws++ca) X.hC ho hw hx ff qS (Oc fi ws ca) (Fn.weaken X.hC (FnG.use (s:=⟨X.ro,den w⟩) hp hf)) (fun v' s' hr=>?_) (fun ch s' hr=>by obtain⟨_,_,_,e,_⟩:=hr;cases e) (fun s' hr=>by obtain⟨_,_,_,e,_⟩:=hr;cases e)
 obtain⟨v,aR,Y,hv,hs,pO,hle⟩:=hr
 cases hv
 have:=hj _ aR Y hs pO
 rw[nV ho] at this
 have:=this (bR.up hs)
 simp only[JP,gA,z9] at this
 exact this.more X.hC hle
def ag0(n:Nat)(p:Oper)(e:Env):Option (FuncId×List Value):=match p.op with
 | .call ⟨.value (.func f),xs,_⟩=>match ze n e xs.toList with
  |some vs=>some (f,vs)
  |none=>none
 |_=>none
theorem NK(h:ag0 n p e=some (f,vs)):∃xs at_,p.op= .call ⟨.value (.func f),xs,at_⟩∧ze n e xs.toList=some vs:=by
 unfold ag0 at h
 split at h<;>try (cases h;done)
 rename_i av
 split at h<;>try (cases h;done)
 rename_i hx
 cases h
 exact⟨_,_,av,hx⟩
theorem jib{a:ByteArray}{b:Int}(ef:EF X.P f Extern.BytealgIndexByte.indexByte)(hj:J X (ku (.int .i64 (QE a b.toNat.toUInt8)) o))(hv:dB X.n (ag0 X.n) o=some (f,[.string a,.int .u8 b]):=by kernel_rfl):J X o:=by
 refine jGS hv (fun s p e _ hf=>?_) hj
 obtain⟨xs,at_,av,hx⟩:=NK hf
 rcases p with ⟨dst,op,ty,pos,dG,g⟩
 dsimp only at av;subst av
 exact⟨fun ops i uF rest hw s' hs todo Q hk=>adY X.hC uF hw ef (yK hx) hk,fun hk=>by cases hk⟩
theorem aMJ(ef:EF X.P f Extern.AbiNoEscape.same)(hj:J X (ku v o))(hv:dB X.n (ag0 X.n) o=some (f,[v]):=by kernel_rfl):J X o:=by
 refine jGS hv (fun s p e _ hf=>?_) hj
 obtain⟨xs,at_,av,hx⟩:=NK hf
 rcases p with ⟨dst,op,ty,pos,dG,g⟩
 dsimp only at av;subst av
 exact⟨fun ops i uF rest hw s' hs todo Q hk=>akn X.hC uF hw ef (yK hx) hk,fun hk=>by cases hk⟩
def mmV(n:Nat)(p:Oper)(e:Env):Option (Bool×Value×Value):=match p.op with
 | .call ⟨.builtin .min,⟨[x,y]⟩,⟨[_,_]⟩⟩=>match bA n e x with
  |some v=>match bA n e y with
   |some w=>some (true,v,w)
   |none=>none
  |none=>none
 | .call ⟨.builtin .max,⟨[x,y]⟩,⟨[_,_]⟩⟩=>match bA n e x with
  |some v=>match bA n e y with
   |some w=>some (false,v,w)
   |none=>none
  |none=>none
 |_=>none
theorem jmn{k:IntKind}{a b:Int}(hj:J X (ku (.int k (min a b)) o))(hv:dB X.n (mmV X.n) o=some (true,.int k a,.int k b):=by kernel_rfl):J X o:=by
 refine SF hv (fun s p e _ hf=>?_) hj
 unfold mmV at hf
 split at hf<;>try (cases hf;done)
 ·rename_i av
  split at hf<;>try (cases hf;done)
  rename_i hx
  split at hf<;>try (cases hf;done)
  rename_i hy
  cases hf
  rcases p with ⟨dst,op,ty,pos,dG,g⟩
  dsimp only at av;subst av
  exact fun s0 ops i uF rest hw s' hs todo Q hk=>arK X.hC uF hw (bD hx) (bD hy) hk
 split at hf<;>try (cases hf;done)
 split at hf<;>cases hf
theorem jmx{k:IntKind}{a b:Int}(hj:J X (ku (.int k (max a b)) o))(hv:dB X.n (mmV X.n) o=some (false,.int k a,.int k b):=by kernel_rfl):J X o:=by
 refine SF hv (fun s p e _ hf=>?_) hj
 unfold mmV at hf
 split at hf<;>try (cases hf;done)
 ·split at hf<;>try (cases hf;done)
  split at hf<;>cases hf
 rename_i av
 split at hf<;>try (cases hf;done)
 rename_i hx
 split at hf<;>try (cases hf;done)
 rename_i hy
 cases hf
 rcases p with ⟨dst,op,ty,pos,dG,g⟩
 dsimp only at av;subst av
 exact fun s0 ops i uF rest hw s' hs todo Q hk=>arL X.hC uF hw (bD hx) (bD hy) hk
theorem jsx(i b off:Nat)(c l:List Value)(t:TypeId)(h1:∀v∈l,single v=true)(hb:Nat.ble (off+l.length) c.length=true)(hj:J X (Tm i undef b (.cells ⟨dI c off l⟩ t (0,0)) o))(hv:eJ X.n (ajw X.P X.n) o=some (⟨b,off,none⟩,l,l.length):=by kernel_rfl)(h2:dA [i] o=some [(b,.cells ⟨c⟩ t (0,0))]:=by kernel_rfl):J X o:=by
 obtain⟨ops,i0,todo,kk,ev,w,kn,p,rfl,ho,hw,hc⟩:=dD hv
 obtain⟨T,x,y,d,bL,z,ag,u,av,tf,hx,hy,hu⟩:=Wm hc
 intro bR
 rcases p with ⟨dst,op,ty,pos,dG,g⟩
 dsimp only at av;subst av
 refine xw X.hC (bK h2)<|ost X.hC ho hw tf hx hy hu rfl h1 (Nat.le_of_ble_eq_true hb) ?_
 simp only[Tm,ho] at hj
 have:=hj bR
 simp only[JP,jJ] at this
 exact this
def uM(m:Nat)(e:Env):Option JS→Option JS
 |some ⟨.ops ops todo k,_,w,kn⟩=>some ⟨.ops ops (todo.drop m) k,e,w,kn⟩
 |_=>none
theorem jj(m:Nat)(e:Env)(hj:∀rest,J X (uM m (e++rest) o))(h:(∀o',uM 0 [] o'=uM m [] o→pM (mH e) o'=some e→J X o')→J X o)(hd:lkE (mH e) e=some e:=by kernel_rfl):J X o:=by
 refine h fun o' h1 h2=>?_
 cases o' with
 |none=>simp[pM] at h2
 |some s'=>
  rcases s' with ⟨p',e',w',kn'⟩
  cases o with
  |none=>exact(hj []).elim
  |some s=>
   rcases s with ⟨p,e0,w,kn⟩
   cases p' with
   |ops aYx ab3 k'=>
    cases p with
    |ops ops todo k=>
     simp only[uM,Option.some.injEq,JS.mk.injEq,Pos.ops.injEq,List.drop_zero,true_and] at h1
     obtain⟨⟨rfl,rfl,rfl⟩,rfl,rfl⟩:=h1
     rw[uB] at h2
     obtain⟨r,hr⟩:=gE (n:=X.n) (D:=X.D) (lU h2) (lU hd)
     intro bR
     have:=hj r bR
     show ak _ _ _ _ _ _ (A X.n e' X.D) _
     rw[hr]
     exact this
    |_=>simp[uM] at h1
   |_=>cases p<;>simp[uM] at h1<;>exact(hj []).elim
end
attribute [irreducible] uM Tm
section
variable {X:Cx} {o:Option JS}
def aex(i:Nat)(rest:Env)(todo:List Nat):Option JS→Option JS
 |some ⟨.DC ops base Pl _ k,_,w,kn⟩=>some ⟨.ops ops (i::todo) k,bX ops base i Pl++rest,w,kn⟩
 |_=>none
def LK(X:Cx)(i:Nat)(o:Option JS)(rest:Env)(todo:List Nat):Prop:=match o with
 |some ⟨.DC ops base Pl Sl k,_,w,kn⟩=>∀v s',(∀j u,(j,u)∈pending ops i Sl→q7 ops X.n base Pl j=false→(∀B,(j,B)∈kn.nd→Ext ⟨X.ro,[]⟩ s'→(∀x∈B,s'.has x.1 x.2)→eY X.C X.fn X.aF ops X.n X.D j u (bX ops base j Pl) s')→eY X.C X.fn X.aF ops X.n X.D j u (bX ops base j Pl) ⟨X.ro,den w⟩→eY X.C X.fn X.aF ops X.n X.D j u (bX ops base j Pl) s')→
  (PF X kn.nd ops base ((i,v)::Pl) (pending ops i Sl)→uU X.C X.fn X.aF ops X.n X.D base ((i,v)::Pl) (pending ops i Sl) (KQ X k) s')→ak X.C X.fn X.aF ops todo (KQ X k) (A X.n (upd (aQ ops i) v (bX ops base i Pl++rest)) X.D) s'
 |_=>True
def WY(is:List Nat):Option JS→Bool
 |some ⟨.DC ops _ Pl Sl _,_,_,_⟩=>fU ops&&((is.all fun i=>Nat.blt i ops.size&& !bC i (ay Pl))&&(nodupB (ay Pl)&&(qd ops (ay Pl)&&(fV (ay Sl) (ay Pl)&&(adQ ops (ay Pl) is&& !is.isEmpty)))))
 |_=>false
def aii(X:Cx)(o:Option JS):List Nat→Prop
 | []=>True
 |i::is=>(∀rest todo,LK X i o rest todo→J X (aex i rest todo o))∧aii X o is
theorem jls(is:List Nat)(h:aii X o is)(hb:WY is o=true:=by kernel_rfl):J X o:=by
 unfold WY at hb
 split at hb<;>try (cases hb;done)
 rename_i ops base Pl Sl k e w kn
 simp only[Bool.and_eq_true,Bool.not_eq_true'] at hb
 obtain⟨h1,h2,h3,h4,h5,h6,h7⟩:=hb
 intro bR hpf
 refine aaZ is h1 h2 h3 h4 h5 h6 ?_ h7
 clear h6 h7
 induction is with
 |nil=>trivial
 |cons i is ih=>
  simp only[List.all_cons,Bool.and_eq_true,Bool.not_eq_true'] at h2
  refine⟨fun rest todo hk=>h.1 rest todo (fun v s' hp ha=>?_) bR,ih h.2 h2.2⟩
  have fM:∀x,x∈pending ops i Sl→x∈Sl:=fun x hx=>(List.mem_filter.1 hx).1
  refine hk v s' (fun j u A6 bE=>?_) (ha ⟨fun j u A6 Xt s0=>?_,fun j u B A6 hB s0 De yF=>?_⟩)
  ·cases Xt:q7 ops X.n base Pl j with
   |true=>exact hpf.1 j u (fM _ A6) Xt s'
   |false=>exact hp j u A6 Xt (fun B hB hx hb=>hpf.2 j u B (fM _ A6) hB s' hx hb) bE
  ·have Cm:j∈ay Sl:=aT.2 ⟨u,fM _ A6⟩
   have rT:i∉bG ops j:=fun hd=>by
    have h8:=cg.1 h5 j Cm
    have h9:=cg.1 (List.all_eq_true.1 h4 j h8) i hd
    rw[aM.2 h9] at h2;exact absurd h2.1.2 (by simp)
   rw[di rT]
   exact hpf.1 j u (fM _ A6) (by simp only[q7,di rT] at Xt;exact Xt) s0
  have Cm:j∈ay Sl:=aT.2 ⟨u,fM _ A6⟩
  have rT:i∉bG ops j:=fun hd=>by
   have h8:=cg.1 h5 j Cm
   have h9:=cg.1 (List.all_eq_true.1 h4 j h8) i hd
   rw[aM.2 h9] at h2;exact absurd h2.1.2 (by simp)
  rw[di rT]
  exact hpf.2 j u B (fM _ A6) hB s0 De yF
theorem dV(i:Nat)(h:∀rest todo,LK X i o rest todo→J X (aex i rest todo o))(hb:WY [i] o=true:=by kernel_rfl):J X o:=jls [i] ⟨h,trivial⟩ hb
def JH(i:Nat):Option JS→Option JS→Option JS
 |some ⟨.DC ops base Pl Sl k,e,_,kn⟩,some ⟨.ops _ _ _,e',w',kn'⟩=>some ⟨.DC ops base ((i,match aQ ops i with
  |some d=>(gM e' d).getD undef
  |none=>undef)::Pl) (pending ops i Sl) k,e,w',⟨kn'.c,kn.nd⟩⟩
 |_,_=>none
def bkL(i:Nat)(rest:Env)(todo:List Nat):Option JS→Option JS→Option JS
 |some ⟨.DC ops base Pl _ k,_,_,_⟩,some ⟨_,e',w',kn'⟩=>some ⟨.ops ops todo k,upd (aQ ops i) (match aQ ops i with
  |some d=>(gM e' d).getD undef
  |none=>undef) (bX ops base i Pl++rest),w',kn'⟩
 |_,_=>none
theorem N5{rest:Env}(h:bkL i rest todo o o1=o1)(h1:o1≠none):∃ops base Pl Sl k e w kn v w' kn',o=some ⟨.DC ops base Pl Sl k,e,w,kn⟩∧o1=some ⟨.ops ops todo k,upd (aQ ops i) v (bX ops base i Pl++rest),w',kn'⟩:=by
 unfold bkL at h
 split at h
 ·simp only[Option.some.injEq,JS.mk.injEq] at h
  obtain⟨rfl,h,_⟩:=h
  exact⟨_,_,_,_,_,_,_,_,_,_,_,rfl,by rw[h]⟩
 exact(h1 h.symm).elim
def rwO:Option JS→List Sg
 |some s=>s.rw
 |none=>[]
theorem iv{rest:Env}(hK:LK X i o rest todo)(is:List Nat)(hj:J X (JH i o o1))(hc:bkL i rest todo o o1=o1:=by kernel_rfl)(h2:qk is o1=some (rwO o):=by kernel_rfl):J X o1:=by
 by_cases cF:o1=none
 ·subst cF
  cases o with
  |none=>exact hj
  |some s=>rcases s with ⟨p,e,w,kn⟩;cases p<;>exact hj
 obtain⟨ia,base,Pl,Sl,k,e,w,kn,v,w',kn',rfl,rfl⟩:=N5 hc cF
 intro bR
 have hp:=mV h2
 have hv:(match aQ ia i with
  |some d=>(gM (upd (aQ ia i) v (bX ia base i Pl++rest)) d).getD undef
  |none=>undef)=v∨aQ ia i=none:=by
  cases hd:aQ ia i with
  |none=>exact .inr rfl
  |some d=>left;simp[upd,gM]
 have hj:=hj bR
 simp only[JH,JP] at hj
 have key:=hK (match aQ ia i with
  |some d=>(gM (upd (aQ ia i) v (bX ia base i Pl++rest)) d).getD undef
  |none=>undef) ⟨X.ro,den w'⟩ (fun j u _ _ _ hs=>hs.ext fun b ob hb=>?_) hj
 ·show ak _ _ _ _ _ _ _ _
  rcases hv with hv|hv
  ·rw[hv] at key;exact key
  rw[hv] at key ⊢;exact key
 rcases hb with hb|hb
 ·exact .inl hb
 exact .inr (hp.mem_iff.2 (List.mem_append_left _ hb))
def PV(i:Nat):Option JS→Bool
 |some ⟨.DC ops _ _ Sl _,_,_,_⟩=>(pending ops i Sl).isEmpty
 |_=>false
theorem IJ{rest:Env}(hK:LK X i o rest todo)(hj:J X (JH i o o1))(hc:bkL i rest todo o o1=o1:=by kernel_rfl)(h2:PV i o=true:=by kernel_rfl):J X o1:=by
 by_cases cF:o1=none
 ·subst cF
  cases o with
  |none=>exact hj
  |some s=>rcases s with ⟨p,e,w,kn⟩;cases p<;>exact hj
 obtain⟨ia,base,Pl,Sl,k,e,w,kn,v,w',kn',rfl,rfl⟩:=N5 hc cF
 intro bR
 have hv:(match aQ ia i with
  |some d=>(gM (upd (aQ ia i) v (bX ia base i Pl++rest)) d).getD undef
  |none=>undef)=v∨aQ ia i=none:=by
  cases hd:aQ ia i with
  |none=>exact .inr rfl
  |some d=>left;simp[upd,gM]
 have hj:=hj bR
 simp only[JH,JP] at hj
 have qT:pending ia i Sl=[]:=by simpa [PV] using h2
 have key:=hK (match aQ ia i with
  |some d=>(gM (upd (aQ ia i) v (bX ia base i Pl++rest)) d).getD undef
  |none=>undef) ⟨X.ro,den w'⟩ (fun j u A6=>by rw[qT] at A6;cases A6) hj
 show ak _ _ _ _ _ _ _ _
 rcases hv with hv|hv
 ·rw[hv] at key;exact key
 rw[hv] at key ⊢;exact key
def ndG:List (Nat×Cells)→Nat→Option Cells
 | [],_=>none
 | (i,B)::l,j=>bif Nat.beq i j then some B else ndG l j
theorem WQ{j:Nat}{B:Cells}:∀ {l:List (Nat×Cells)},ndG l j=some B→(j,B)∈l
 | (i,C)::l,h=>by
  simp only[ndG] at h
  cases hb:Nat.beq i j with
  |true=>
   rw[hb] at h;simp only[cond_true,Option.some.injEq] at h;subst h
   have:=Nat.eq_of_beq_eq_true hb;subst this
   exact List.mem_cons_self
  |false=>rw[hb] at h;simp only[cond_false] at h;exact List.mem_cons_of_mem _ (WQ h)
structure Rk where
 a:List Value
 b:List Value
 c:List (Option Cells)
 d:List (Option Cells)
def aE7(ps:List Nat)(w:List Sg):Option Cells:=bif GO ps then (match PU ps w with
 |some x=>some (den x)
 |none=>none) else none
def rkL(P:Program)(n:Nat)(ops:Array Oper)(base:Env)(Pl:List (Nat×Value))(nd:List (Nat×Cells))(w:List Sg)(kn:Cells):List (List Nat)→List (Nat×Value)→Option Rk
 |_,[]=>some ⟨[],[],[],[]⟩
 |hs,(j,u)::r=>bif q7 ops n base Pl j then rkL P n ops base Pl nd w kn hs r else (match hs with
  |h::hs=>match ndG nd j with
   |some B=>match rkL P n ops base Pl nd w kn hs r with
    |some ⟨a,b,c,d⟩=>some ⟨a,b,aE7 h w::c,some B::d⟩
    |none=>none
   |none=>match ops[j]? with
    |some p=>match xK ops n (bX ops base j Pl) p.guard with
     |some true=>match p.op with
      | .load T x=>match bA n (bX ops base j Pl) x with
       |some (.pointer (some ⟨b,off,none⟩))=>match B0 w kn (h.headD 0) with
        |some (b',l)=>match ldv P T l off with
         |some v=>match rkL P n ops base Pl nd w kn hs r with
          |some ⟨a1,b1,c,d⟩=>some ⟨v:: .int .i64 b'::a1,u:: .int .i64 b::b1,c,d⟩
          |none=>none
         |none=>none
        |none=>none
       |_=>none
      |_=>none
     |_=>none
    |none=>none
  | []=>none)
theorem MD{ops:Array Oper}{base:Env}{Pl:List (Nat×Value)}{nd:List (Nat×Cells)}{w:List Sg}{kn:Cells}(bR:Knows X.ro kn):∀ {l:List (Nat×Value)} {hs:List (List Nat)} {k:Rk},rkL X.P X.n ops base Pl nd w kn hs l=some k→k.a=k.b→k.c=k.d→∀j u,(j,u)∈l→q7 ops X.n base Pl j=false→
 (∀B,(j,B)∈nd→Ext ⟨X.ro,[]⟩ ⟨X.ro,den w⟩→(∀x∈B,(⟨X.ro,den w⟩:St).has x.1 x.2)→eY X.C X.fn X.aF ops X.n X.D j u (bX ops base j Pl) ⟨X.ro,den w⟩)→eY X.C X.fn X.aF ops X.n X.D j u (bX ops base j Pl) ⟨X.ro,den w⟩
 | [],_,_,_,_,_,j,u,h,_,_=>by cases h
 | (j0,u0)::r,hs,k,h,KX,hcd,j,u,hm,hpj,gX=>by
  simp only[rkL] at h
  cases Xt:q7 ops X.n base Pl j0 with
  |true=>
   rw[Xt] at h;simp only[cond_true] at h
   rcases List.mem_cons.1 hm with h1|h1
   ·cases h1;rw[Xt] at hpj;cases hpj
   exact MD bR h KX hcd j u h1 hpj gX
  |false=>
   rw[Xt] at h;simp only[cond_false] at h
   split at h<;>try (cases h;done)
   rename_i h0 cR
   split at h
   ·rename_i B hB
    split at h<;>try (cases h;done)
    rename_i a b c d hr
    cases h
    simp only[List.cons.injEq] at hcd
    rcases List.mem_cons.1 hm with h1|h1
    ·cases h1
     refine gX B (WQ hB) NJ fun x hx=> .inr ?_
     have hw:=hcd.1
     unfold aE7 at hw
     cases ho:GO h0 with
     |false=>rw[ho] at hw;cases hw
     |true=>
      rw[ho] at hw;simp only[cond_true] at hw
      split at hw<;>try (cases hw;done)
      rename_i y hy
      simp only[Option.some.injEq] at hw;subst hw
      exact(yt hy ho).mem_iff.2 (List.mem_append_left _ hx)
    exact MD bR hr KX hcd.2 j u h1 hpj gX
   split at h<;>try (cases h;done)
   rename_i p hp
   have Fh:aQ ops j0=p.dst:=by simp only[aQ,hp,Option.bind_some]
   split at h<;>try (cases h;done)
   rename_i hg
   split at h<;>try (cases h;done)
   rename_i T x av
   split at h<;>try (cases h;done)
   rename_i b0 off hx
   split at h<;>try (cases h;done)
   rename_i b' l hc
   split at h<;>try (cases h;done)
   rename_i v hv
   split at h<;>try (cases h;done)
   rename_i a1 b1 c d hr
   cases h
   simp only[List.cons.injEq,Value.int.injEq,true_and] at KX
   obtain⟨rfl,hb,KX⟩:=KX
   have hb:b'=b0:=by omega
   subst hb
   rcases List.mem_cons.1 hm with h1|h1
   ·cases h1
    obtain⟨t,fz,hh⟩:=AY (X:=X) bR hc
    intro s1 hx1 rest todo Q hk
    rw[Fh] at hk
    exact lu X.hC hp rest (oL hg rest) (by rw[av];rfl) (Um av hx hh hv) hx1 hk
   exact MD bR hr KX hcd j u h1 hpj gX
def rkO(P:Program)(n i:Nat)(hs:List (List Nat)):Option JS→Option JS→Option Rk
 |some ⟨.DC ops base Pl Sl _,_,_,kn⟩,some s1=>rkL P n ops base Pl kn.nd s1.rw s1.kn.c hs (pending ops i Sl)
 |_,_=>none
def rkA:Option Rk→Option (List Value×List (Option Cells))
 |some k=>some (k.a,k.c)
 |none=>some ([],[])
def rkB:Option Rk→Option (List Value×List (Option Cells))
 |some k=>some (k.b,k.d)
 |none=>none
theorem wC{rest:Env}(hK:LK X i o rest todo)(hs:List (List Nat))(hj:J X (JH i o o1))(hc:bkL i rest todo o o1=o1:=by kernel_rfl)(h2:rkA (rkO X.P X.n i hs o o1)=rkB (rkO X.P X.n i hs o o1):=by kernel_rfl):J X o1:=by
 by_cases cF:o1=none
 ·subst cF
  cases o with
  |none=>exact hj
  |some s=>rcases s with ⟨p,e,w,kn⟩;cases p<;>exact hj
 obtain⟨ia,base,Pl,Sl,k,e,w,kn,v,w',kn',rfl,rfl⟩:=N5 hc cF
 intro bR
 have hv:(match aQ ia i with
  |some d=>(gM (upd (aQ ia i) v (bX ia base i Pl++rest)) d).getD undef
  |none=>undef)=v∨aQ ia i=none:=by
  cases hd:aQ ia i with
  |none=>exact .inr rfl
  |some d=>left;simp[upd,gM]
 have hj:=hj bR
 simp only[JH,JP] at hj
 have bE:∀j u,(j,u)∈pending ia i Sl→q7 ia X.n base Pl j=false→(∀B,(j,B)∈kn.nd→Ext ⟨X.ro,[]⟩ ⟨X.ro,den w'⟩→(∀x∈B,(⟨X.ro,den w'⟩:St).has x.1 x.2)→eY X.C X.fn X.aF ia X.n X.D j u (bX ia base j Pl) ⟨X.ro,den w'⟩)→eY X.C X.fn X.aF ia X.n X.D j u (bX ia base j Pl) ⟨X.ro,den w'⟩:=by
  simp only[rkO] at h2
  cases hr:rkL X.P X.n ia base Pl kn.nd w' kn'.c hs (pending ia i Sl) with
  |none=>rw[hr] at h2;cases h2
  |some x=>
   rw[hr] at h2
   simp only[rkA,rkB,Option.some.injEq,Prod.mk.injEq] at h2
   exact MD bR hr h2.1 h2.2
 have key:=hK (match aQ ia i with
  |some d=>(gM (upd (aQ ia i) v (bX ia base i Pl++rest)) d).getD undef
  |none=>undef) ⟨X.ro,den w'⟩ (fun j u A6 Xt hn _=>bE j u A6 Xt hn) hj
 show ak _ _ _ _ _ _ _ _
 rcases hv with hv|hv
 ·rw[hv] at key;exact key
 rw[hv] at key ⊢;exact key
end
attribute [irreducible] rkO rkA rkB aex WY JH bkL rwO PV
abbrev RY(ro:Nat→Option Obj)(Φ:Value→Cells→Prop):Ending→St→Prop:=fun en s'=>∃v X,en= .returned v∧(⟨ro,X⟩:St).le s'∧Φ v X
theorem Round.mono{C:Class}{l:Nat}{f:FuncId}{tm:Array Value}{ae bd:Code}{s:St}{R R':Ending→St→Prop}(h:Round C l f tm ae bd s R)(hr:∀e s,R e s→R' e s):Round C l f tm ae bd s R':=
 fun main T hT c cs k1 k2=>h main T hT c cs (fun v s' hv=>k1 v s' (hr _ _ hv)) (fun ch s' hv=>k2 ch s' (hr _ _ hv))
theorem Round.weaken{C C':Class}(hc:∀main T,C' main T→C main T){l:Nat}{f:FuncId}{tm:Array Value}{ae bd:Code}{s:St}{R:Ending→St→Prop}(h:Round C l f tm ae bd s R):Round C' l f tm ae bd s R:=
 fun main T hT=>h main T (hc main T hT)
theorem Round.frame{P:Program}{l:Nat}{f:FuncId}{tm:Array Value}{ae bd:Code}{s1 s:St}{R:Ending→St→Prop}{fr B:Cells}{ro:Nat→Option Obj}(hf:Round (CP P) l f tm ae bd s1 R)(hB:∀x∈B,x∈fr)(hc:aba fr B ro s1 s):
 Round (CP P) l f tm ae bd s (fun en s'=>∃Ag,R en Ag∧aba fr B ro Ag s'):=
 fun main T hT c cs k1 k2=>hf main _ (BQ hT hB ro) c cs (fun v Ag hv _ s' uZ=>k1 v s' ⟨Ag,hv,uZ⟩) (fun ch Ag hv _ s' uZ=>k2 ch s' ⟨Ag,hv,uZ⟩) rfl s hc
def aby(r:Loop)(vs:List Value):Array Value:=(r.params.zip ⟨vs⟩).foldl (fun tmps (x:Tmp×Value)=>tmps.setIfInBounds x.1 x.2) r.tmps
def YX(P:Program)(bl:Nat)(vs:List Value)(ro:Nat→Option Obj)(own:Cells)(Φ:Value→Cells→Prop):Prop:=
 ∃r,(bl,.loop r)∈own∧vs.length=r.params.size∧Round (CP P) bl r.fn (aby r vs) r.assign r.body ⟨ro,own⟩ (RY ro Φ)
theorem YX.use{P:Program}{bl:Nat}{vs:List Value}{ro:Nat→Option Obj}{own fr:Cells}{Φ:Value→Cells→Prop}{s:St}(hy:YX P bl vs ro own Φ)(hs:Sub ro s.ro)(hp:s.rw.Perm (own++fr)){Q:Next→St→Prop}{E:Halt→St→Prop}
 (h:∀l f tm ae bd,Round (CP P) l f tm ae bd s (fun en s'=>∃v X,en= .returned v∧Φ v X∧(⟨s.ro,X++fr⟩:St).le s')→Q (.round l f tm ae bd) s):cu P (Instr.yield bl ⟨vs⟩) s Q E:=by
 obtain⟨r,h1,h2,h3⟩:=hy
 simp only[Instr.yield,Instr.getLoop,af]
 refine cQ (o:= .loop r) (.inr (hp.mem_iff.2 (List.mem_append_left _ h1))) rfl rfl ?_
 have nP:¬(⟨vs⟩:Array Value).size≠r.params.size:=by simpa using h2
 simp only[aj,if_neg nP]
 refine h _ _ _ _ _ (Round.mono (Round.frame (fr:=fr) (B:=[]) (ro:=s.ro) (s:=s) h3 (fun _ h=>(by cases h)) ⟨hp,fun b o hb=> .inl (hs b o hb),Sub.refl _⟩) fun en s' pP=>?_)
 obtain⟨Ag,⟨v,X,rfl,⟨R,hR1,hR2⟩,pO⟩,hc⟩:=pP
 refine⟨v,X,rfl,pO,R,?_,fun b o hb=> .inl (hc.keep b o hb)⟩
 refine hc.rw.trans ((hR1.append_right fr).trans ?_)
 simp only[List.append_assoc]
 exact List.Perm.append_left _ List.perm_append_comm
section
variable {X:Cx} {o:Option JS}
def aqe(n:Nat)(p:Oper)(e:Env):Option (Nat×List Value):=match p.op with
 | .call ⟨.value x,xs,_⟩=>match bA n e x with
  |some (.func (.yield bl) ⟨[]⟩ ⟨[]⟩)=>match ze n e xs.toList with
   |some vs=>some (bl,vs)
   |none=>none
  |_=>none
 |_=>none
theorem jyc{bl:Nat}{vs:List Value}{pE:Nat→Option Obj}{own:Cells}{Φ:Value→Cells→Prop}(ps:List Nat)(hy:YX X.P bl vs pE own Φ)(ib:Sub pE X.ro)(hj:∀v Y,Φ v Y→J X (ni ps v Y o))(h1:eJ X.n (aqe X.n) o=some (bl,vs):=by kernel_rfl)(h2:dA ps o=some own:=by kernel_rfl):J X o:=by
 obtain⟨ops,i,todo,k,e,w,kn,p,rfl,ho,hw,hc⟩:=dD h1
 intro bR
 unfold aqe at hc
 split at hc<;>try (cases hc;done)
 rename_i x xs at_ av
 split at hc<;>try (cases hc;done)
 rename_i bl' hx
 split at hc<;>try (cases hc;done)
 rename_i p7 hvs
 cases hc
 rcases p with ⟨dst,op,ty,pos,dG,g⟩
 dsimp only at av;subst av
 have hp:=bK h2
 refine cy X.hC ho hw (by simp) ?_
 have KR:xs.map (ev X.n e)=⟨vs⟩:=rC hvs
 simp only[execOp,resolve,aL hx,Deferred.ofValue,aj,KR]
 have hiv:(invoke (.fn (.yield bl) ⟨[]⟩) (⟨[]⟩++⟨vs⟩):Sem Next)=Instr.yield bl ⟨vs⟩:=by simp[invoke]
 rw[hiv]
 refine YX.use hy ib hp fun l f tm ae bd hR=>?_
 show Round X.C l f tm ae bd _ _
 refine Round.mono (Round.weaken X.hC hR) fun en s' pP=>?_
 obtain⟨v,Y,rfl,pO,hle⟩:=pP
 have:=hj v Y pO
 rw[nV ho] at this
 have:=this bR
 simp only[JP,gA] at this
 have:=this.more X.hC hle
 show ak _ _ _ _ _ _ _ _
 rw[bI]
 exact this
end
attribute [irreducible] aqe
def mk:List Nat→Cells
 | []=>[]
 |b::r=>(b,.deferred (some []))::mk r
def aeo(P:Program)(fn:Func)(R:Ending→St→Prop):Post
 | .normal,a,s| .ret,a,s=>∃vZ rest,a.defers=vZ.map fg∧s.rw.Perm (mk vZ++rest)∧cu P (results fn a.tmps) ⟨s.ro,rest⟩ (fun v s'=>∃s0,s0.le s'∧R (.returned v) s0) (fun _ _=>False)
 |_,_,_=>False
section
variable {P:Program} {C:Class}
theorem Bj(hC:∀main T,C main T→Closed P main T){T:Goroutine→St→Prop}(hT:C main T){rest:Cells}:∀(vZ:List Nat) (fr:Frame) (s:St),fr.mode= .returning→fr.defers=vZ.map fg→s.rw.Perm (mk vZ++rest)→T (G {fr with defers:=[]} cs) ⟨s.ro,rest⟩→T (G fr cs) s
 | [],fr,s,_,hd,hp,h=>by
  have:fr={fr with defers:=[]}:=by rcases fr with ⟨a,b,c,d,e,f,g⟩;simp only[List.map_nil] at hd;subst hd;rfl
  rw[this]
  exact(hC main T hT).mono _ ⟨s.ro,rest⟩ _ ⟨[],by simpa [mk] using hp,fun b o hb=> .inl hb⟩ h
 |b::r,fr,s,hm,hd,hp,h=>by
  obtain⟨L,Rr,hs⟩:=List.append_of_mem (hp.mem_iff.2 (List.mem_append_left _ List.mem_cons_self))
  refine unwind_mark hC hT (.inl hm) (ds:=r.map fg) (by simpa using hd) hs ?_
  have UJ:(L++Rr).Perm (mk r++rest):=by
   rw[hs] at hp
   exact(List.perm_middle.symm.trans hp).cons_inv
  refine(hC main T hT).mono _ ⟨s.ro,L++Rr⟩ _ ⟨[(b,.deferred none)],?_,fun b o hb=> .inl hb⟩ (Bj hC hT r _ _ hm rfl UJ h)
  exact List.perm_middle.trans (List.perm_append_singleton _ _).symm
theorem Lc(hC:∀main T,C main T→Closed P main T){c:Code}{args:Array Value} 
 (hf:P.funcs[f]?=some fn) (hb:fn.body=some c) (h:Wp C f none c (aeo P fn R) ⟨args++Array.replicate (fn.ntmps-args.size) undef,[]⟩ s):Fn C P f args s R:=by
 intro main T hT cl cs k1 k2
 let b:Frame:={(default:Frame) with fn:=f,kind:= .normal,roundOf:=none}
 have j8:Frame.enter P f args .normal=aW b ⟨args++Array.replicate (fn.ntmps-args.size) undef,[]⟩ [.code c]:=by
  simp[Frame.enter,aW,hf,hb,b]
 rw[j8]
 refine h main T hT b [] (cl::cs) rfl (by simp[b]) rfl fun e a' s' q=>?_
 have tK:∀(todo:List Item),(∃vZ rest,a'.defers=vZ.map fg∧s'.rw.Perm (mk vZ++rest)∧cu P (results fn a'.tmps) ⟨s'.ro,rest⟩ (fun v s'=>∃s0,s0.le s'∧R (.returned v) s0) (fun _ _=>False))→T (G {aW b a' todo with mode:= .returning} (cl::cs)) s':=by
  intro todo ⟨vZ,rest,hd,hp,hr⟩
  exact Bj hC hT vZ _ _ rfl hd hp (qZ hC hT hf rfl rfl rfl rfl hr k1)
 cases e with
 |normal=>
  exact(hC main T hT).go rfl rfl (g':=G {aW b a' [] with mode:= .returning} (cl::cs)) (fun w=>by simp[G,stepG,stepG.exec,aW,b]) (tK _ q)
 |ret=>
  exact fun todo=>(hC main T hT).go rfl rfl (g':=G {aW b a' (.code .ret::todo) with mode:= .returning} (cl::cs)) (fun w=>by simp[G,stepG,stepG.exec,aW,b]) (tK _ q)
 |panic ch=>exact q.elim
 |exit id=>exact q.elim
 |goto l=>exact q.elim
 |outgrown=>exact q.elim
end
def XM(P:Program)(hm:P.follows .mixedOrders=true)(f:FuncId)(ro:Nat→Option Obj)(R:Ending→St→Prop):Cx:=⟨P,CP P,e9,hm,f,none,(rB P f).ntmps,[],ro,aeo P (rB P f) R⟩
theorem Uq{P:Program}(hm:P.follows .mixedOrders=true){L:Cells}(own:List Sg)(kn:Cells)(hk:Knows ro kn)(h:J (XM P hm f ro (RX ro Φ)) (kE P f args own kn))(hL:den own=L:=by rfl):dX P f args ro L Φ:=by
 subst hL
 unfold kE at h
 split at h<;>try exact h.elim
 rename_i fn hf
 split at h<;>try exact h.elim
 rename_i c hc
 cases hl:Nat.ble args.length fn.ntmps with
 |false=>rw[hl] at h;exact h.elim
 |true=>
  rw[hl] at h
  have wY:rB P f=fn:=by simp only[rB,hf]
  have:=h hk
  simp only[JP,XM,KQ,wY] at this
  refine Lc e9 hf hc ?_
  have he:=mN args fn.ntmps (Nat.le_of_ble_eq_true hl)
  rw[←he] at this
  exact this
structure QM(X:Cx)(R:Ending→St→Prop)(vZ:List Nat):Prop where
 q:X.Q=aeo X.P (rB X.P X.fn) R
 d:X.D=vZ.map fg
def Cx.dm(X:Cx)(bd:Nat):Cx:={X with D:=fg bd::X.D}
theorem Ze{P:Program}{hm:P.follows .mixedOrders=true}:QM (XM P hm f ro R) R []:=⟨rfl,rfl⟩
theorem QM.a{X:Cx}(h:QM X R vZ):QM (X.at ro) R vZ:=⟨h.q,h.d⟩
theorem QM.m{X:Cx}(h:QM X R vZ):QM (X.dm bd) R (bd::vZ):=⟨h.q,by simp[Cx.dm,h.d]⟩
theorem QM.w{X:Cx}{aFk:List Nat}(h:QM X R vZ):QM (X.wd (aFk.map fg)) R aFk:=⟨h.q,rfl⟩
def HW(pm:List Nat):Option JS→Option JS
 |some ⟨p,e,w,kn⟩=>some ⟨p,e,dw pm 0 w,kn⟩
 |none=>none
section
variable {X:Cx} {o:Option JS}
theorem jrM(hq:QM X (RX pE Φ) vZ)(v:Value)(pm hs ps:List Nat)(Y:Cells)(ib:Sub pE X.ro)(hR:Φ v Y)(h0:dA pm o=some (mk vZ):=by kernel_rfl)(h1:rA (g9 X.P X.n X.fn hs (HW pm o))=some v:=by kernel_rfl)(h2:NP (g9 X.P X.n X.fn hs (HW pm o))=NO (g9 X.P X.n X.fn hs (HW pm o)):=by kernel_rfl)(h3:dA ps (HW pm o)=some Y:=by kernel_rfl)(h4:zd o=true:=by kernel_rfl):J X o:=by
 obtain⟨ex,e,w,kn,rfl,hex⟩:=uK h4
 simp only[HW,g9] at h1 h2 h3
 cases hr:CH X.P X.n e (dw pm 0 w) kn.c hs (rB X.P X.fn).results.toList with
 |none=>simp only[hr,rA] at h1;cases h1
 |some x=>
  rcases x with ⟨vs,q⟩
  simp only[hr,rA,Option.some.injEq,NP,NO] at h1 h2
  intro bR
  have tK:=ve bR hr (nv h2)
  have hp:=bK h3
  have Hj:=PB (s0:=⟨pE,Y⟩) (R:=RX pE Φ) hex tK h1 (dF hp ib) ⟨v,Y,rfl,rfl,hR⟩
  have ht:cu X.P (results (rB X.P X.fn) (A X.n e X.D).tmps) ⟨X.ro,den (dw pm 0 w)⟩ (fun v s'=>∃s0,s0.le s'∧RX pE Φ (.returned v) s0) (fun _ _=>False):=by
   rcases hex with rfl|rfl<;>exact Hj.2
  show X.Q ex (A X.n e X.D) ⟨X.ro,den w⟩
  rw[hq.q]
  have hm:∃vZ rest,(A X.n e X.D).defers=vZ.map fg∧(den w).Perm (mk vZ++rest)∧cu X.P (results (rB X.P X.fn) (A X.n e X.D).tmps) ⟨X.ro,rest⟩ (fun v s'=>∃s0,s0.le s'∧RX pE Φ (.returned v) s0) (fun _ _=>False):=⟨vZ,_,hq.d,bK h0,ht⟩
  rcases hex with rfl|rfl<;>exact hm
end
attribute [irreducible] HW
def upQ(Q:Post):Post:=fun e a s=>∃s0,s0.le s∧Q e a s0
theorem After.more{P:Program}{T:Goroutine→St→Prop}(hT:Closed P main T){b:Frame}{k:List Item}(hl:s.le s'):∀ {e:Exit} {a:Act},After T b k cs e a s→After T b k cs e a s'
 | .normal,_,h=>hT.mono _ _ _ hl h
 | .exit id,a,h=>by
  simp only[After] at h ⊢
  cases hk:exitTo id k with
  |some k'=>rw[hk] at h;exact hT.mono _ _ _ hl h
  |none=>rw[hk] at h;exact fun todo ht=>hT.mono _ _ _ hl (h todo ht)
 | .ret,_,h=>fun todo=>hT.mono _ _ _ hl (h todo)
 | .panic _,_,h=>fun todo=>hT.mono _ _ _ hl (h todo)
 | .goto _,_,h=>h.elim
 | .outgrown,_,h=>h.elim
theorem axz{P:Program}(hC:∀main T,C main T→Closed P main T){fn:FuncId}{c:Code}{Q:Post}{a:Act}(h:Wp C fn aF c (upQ Q) a s):Wp C fn aF c Q a s:=
 fun main T hT b k cs h1 h2 h3 h4=>h main T hT b k cs h1 h2 h3 fun _ _ _ ⟨_,hl,hq⟩=>After.more (hC _ _ hT) hl (h4 _ _ _ hq)
def ItX(P:Program)(g:FuncId)(fi ca:List Value)(ro:Nat→Option Obj)(own:Cells)(N:Nat)(El:(Nat→Option Obj)→Nat→List Value→Cells→Prop)(Ψ:Cells→Prop):Prop:=
 ∀(bl:Nat) (aV:Nat→Option Obj) (Inv:Nat→Cells→Prop) (Stop:Cells→Prop),Sub ro aV→
  (∀k vs LL B tS,k <N→El tS k vs LL→Inv k B→Sub aV tS→YX P bl vs tS (LL++B) (fun r B'=>(r= .bool true∧Inv (k+1) B')∨(r= .bool false∧Stop B')))→
  ∀B,Inv 0 B→dX P g (fi++[.func (.yield bl) #[] #[]]++ca) aV (own++B) (fun _ Y=>∃Z B',Y=Z++B'∧Ψ Z∧(Inv N B'∨Stop B'))
theorem Round.more{P:Program}{C:Class}(hC:∀main T,C main T→Closed P main T){l:Nat}{f:FuncId}{tm:Array Value}{ae bd:Code}{s s':St}{R:Ending→St→Prop}(hl:s.le s')(h:Round C l f tm ae bd s R):Round C l f tm ae bd s' R:=
 fun main T hT c cs k1 k2=>(hC _ _ hT).mono _ _ _ hl (h main T hT c cs k1 k2)
def rfV(P:Program)(n:Nat):Option JS→Option (FuncId×List Value×List Value×Nat)
 |some ⟨.code (.rangeFunc x ps _ _) _,e,_,_⟩=>match bA n e x with
  |some (.func (.func g) ⟨fi⟩ ⟨ca⟩)=>bif A8 P g then some (g,fi,ca,ps.size) else none
  |_=>none
 |_=>none
def lpO(X:Cx)(bd:Nat):Option JS→Loop
 |some ⟨.code (.rangeFunc _ ps a b) _,e,_,_⟩=>jo X.fn (A X.n e X.D).tmps ps a b bd
 |_=>jo X.fn #[] #[] .ret .ret bd
def aFh:Option JS→Code
 |some ⟨.code (.rangeFunc _ _ _ b) _,_,_,_⟩=>b
 |_=> .ret
def Pv:List Tmp→List Value→Env→Env
 |t::ts,v::vs,e=>Pv ts vs (upd (some t) v e)
 |_,_,e=>e
theorem Pu:∀(ts:List Tmp) (vs:List Value) (e:Env),(ts.zip vs).foldl (fun(tm:Array Value) (x:Tmp×Value)=>tm.setIfInBounds x.1 x.2) (A n e D).tmps=(A n (Pv ts vs e) D).tmps
 | [],_,_=>rfl
 |_::_,[],_=>rfl
 |t::ts,v::vs,e=>by
  have:=bI n e D (some t) v
  simp only[Act.put] at this
  simp only[List.zip_cons_cons,List.foldl_cons,Pv]
  rw[←Pu ts vs,←this]
def rdO(X:Cx)(bl bd:Nat)(vs:List Value)(w:List Sg)(o:Option JS):Option JS:=match o with
 |some ⟨.code (.rangeFunc _ ps a _) _,e,_,kn⟩=>some ⟨.code a [],Pv ps.toList vs e,.b bl (.loop (lpO X bd o))::w,⟨kn.c,[]⟩⟩
 |_=>none
def afO(jump:Option Code)(bd:Nat)(Z:Cells)(wi:List Sg)(is:List Nat):Option JS→Option JS
 |some ⟨.code _ k,e,w,kn⟩=>match jump with
  |none=>some ⟨PS k,e,.b bd (.deferred (some [])):: .l Z::(wi++dw is 0 w),⟨kn.c,[]⟩⟩
  |some .ret=>some ⟨.fin .ret,e,.b bd (.deferred (some [])):: .l Z::(wi++dw is 0 w),⟨kn.c,[]⟩⟩
  |some (.exit id)=>match BU id k with
   |some p=>some ⟨p,e,.b bd (.deferred (some [])):: .l Z::(wi++dw is 0 w),⟨kn.c,[]⟩⟩
   |none=>none
  |_=>none
 |_=>none
def aqf(bl:Nat)(Lp:Loop)(wf:ι→List Sg)(Inv:Nat→ι→Prop)(Sp:Code→ι→Prop)(k:Nat):Value→Cells→Prop:=fun r B=>
 (r= .bool true∧∃j,Inv (k+1) j∧B=(bl,.loop Lp)::den (wf j))∨(r= .bool false∧∃jump j,Sp jump j∧B=(bl,.loop {Lp with state:= .done,pending:=some jump})::den (wf j))
def Cx.rd(X:Cx)(bl:Nat)(ro:Nat→Option Obj)(Φ:Value→Cells→Prop)(body:Code):Cx:=⟨X.P,CP X.P,e9,X.hm,X.fn,some bl,X.n,[],ro,Ih (CP X.P) (RY ro Φ) bl X.fn body⟩
def Cx.re(X:Cx)(bl:Nat)(ro:Nat→Option Obj)(Φ:Value→Cells→Prop):Cx:=⟨X.P,CP X.P,e9,X.hm,X.fn,some bl,X.n,[],ro,CG (RY ro Φ) bl⟩
theorem LS{X:Cx}:∀(k:List KI),KQ (X.dm bd) k=KQ X k
 | []=>rfl
 | .seq _::k=>by simp only[KQ,LS k];rfl
 | .block _::k=>by simp only[KQ,LS k]
 | .next _::k=>by simp only[KQ,LS k]
theorem Kk(Z W R:List α)(x y:α):((Z++x::W)++y::R).Perm (x::y::(Z++(W++R))):=by
 refine List.perm_middle.trans ?_
 rw[List.append_assoc,List.cons_append]
 exact(List.Perm.cons y List.perm_middle).trans (List.Perm.swap _ _ _)
section
variable {X:Cx} {o:Option JS}
theorem jrf{ι:Type}{g:FuncId}{fi ca:List Value}{N np:Nat}{El:(Nat→Option Obj)→Nat→List Value→Cells→Prop}{Ψ:Cells→Prop}(ow:List Sg)(hit:ItX X.P g fi ca X.ro (den ow) N El Ψ)(hel:∀ro k vs LL,El ro k vs LL→vs.length=np)
 (wf:ι→List Sg)(Inv:Nat→ι→Prop)(Sp:Code→ι→Prop)(i0:ι)(h0:Inv 0 i0)(is:List Nat)
 (hb:∀bl bd k vs LL i tS,k <N→El tS k vs LL→Inv k i→Sub X.ro tS→J (X.rd bl tS (aqf bl (lpO X bd o) wf Inv Sp k) (aFh o)) (rdO X bl bd vs (wf i++[.l LL]) o))
 (hN:∀bd i Z,Inv N i→Ψ Z→J (X.dm bd) (afO none bd Z (wf i) is o))(hS:∀bd i Z jump,Sp jump i→Ψ Z→J (X.dm bd) (afO (some jump) bd Z (wf i) is o))
 (h1:rfV X.P X.n o=some (g,fi,ca,np):=by kernel_rfl)(h2:qk is o=some (ow++wf i0):=by kernel_rfl)(hf:(X.P.funcs[X.fn]?).isSome=true:=by kernel_rfl) (hr:X.aF=none:=by rfl):J X o:=by
 unfold rfV at h1
 split at h1<;>try (cases h1;done)
 rename_i x params assign body k e w kn
 split at h1<;>try (cases h1;done)
 rename_i g' fi' B3 hx
 cases Co:A8 X.P g' with
 |false=>rw[Co] at h1;cases h1
 |true=>
  rw[Co] at h1
  simp only[cond_true,Option.some.injEq,Prod.mk.injEq] at h1
  obtain⟨rfl,rfl,rfl,hnp⟩:=h1
  have ff:=jH Co
  intro bR
  have hp:=mV h2
  rw[mO] at hp
  obtain⟨fn',wY⟩:=Option.isSome_iff_exists.1 hf
  show Wp X.C X.fn X.aF (.rangeFunc x params assign body) (KQ X k) (A X.n e X.D) ⟨X.ro,den w⟩
  rw[hr]
  refine axz X.hC (Bf X.hC (fi:=⟨fi'⟩) (ca:=⟨B3⟩) (by rw[gQ];exact aL hx) ff fun bd bl _ _=>?_)
  rw[Oc]
  have hy:=hit bl X.ro (fun k B=>∃i,Inv k i∧B=(bl,.loop (jo X.fn (A X.n e X.D).tmps params assign body bd))::den (wf i))
   (fun B=>∃jump i,Sp jump i∧B=(bl,.loop {jo X.fn (A X.n e X.D).tmps params assign body bd with state:= .done,pending:=some jump})::den (wf i)) (Sub.refl _) (fun k vs LL B tS hk hv hi hs=>?_) _ ⟨i0,h0,rfl⟩
  rotate_left
  ·obtain⟨i,hi,rfl⟩:=hi
   refine⟨jo X.fn (A X.n e X.D).tmps params assign body bd,List.mem_append_right _ List.mem_cons_self,(hel _ _ _ _ hv).trans hnp.symm,Round.more e9 (s:=⟨tS,((bl,.loop (jo X.fn (A X.n e X.D).tmps params assign body bd))::den (wf i))++LL⟩) ⟨[],by rw[List.append_nil];exact List.perm_append_comm,fun b o hb=> .inl hb⟩ (Ee e9 wY ?_)⟩
   have:=hb bl bd k vs LL i tS hk hv hi hs fun y hy=>hs _ _ (bR y hy)
   have IU:den (.b bl (.loop (jo X.fn (A X.n e X.D).tmps params assign body bd))::(wf i++[.l LL]))=((bl,.loop (jo X.fn (A X.n e X.D).tmps params assign body bd))::den (wf i))++LL:=by rw[jJ,mO];rfl
   rw[←IU]
   have hyt:aby (jo X.fn (A X.n e X.D).tmps params assign body bd) vs=(A X.n (Pv params.toList vs e) X.D).tmps:=by
    rw[←Pu]
    simp only[aby,jo]
    rw[←Array.foldl_toList,Array.toList_zip]
   rw[hyt]
   exact this
  ·refine Fn.weaken X.hC (Fn.mono (Fn.frame (fr:=(bd,.deferred (some []))::den (dw is 0 w)) (B:=[]) (ro:=X.ro) hy (fun _ h=>(by cases h)) ⟨?_,fun b o hb=> .inl hb,Sub.refl _⟩) fun en s' pP=>?_)
   ·refine List.Perm.trans (.cons _ (.cons _ ?_)) (Kk _ _ _ _ _).symm
    rw[←List.append_assoc]
    exact hp
   ·obtain⟨Ag,⟨v,Y,rfl,rfl,Z,B',rfl,hΨ,hI⟩,hc⟩:=pP
    have hc1:s'.rw.Perm ((Z++B')++(bd,.deferred (some []))::den (dw is 0 w)):=hc.rw
    have key:∀(r0:Loop) (i:ι),B'=(bl,.loop r0)::den (wf i)→∃L Rr,s'.rw=L++(bl,.loop r0)::Rr∧∀r1,(⟨X.ro,den (.b bd (.deferred (some [])):: .l Z::(wf i++dw is 0 w))⟩:St).le ⟨s'.ro,L++(bl,.loop r1)::Rr⟩:=by
     intro r0 i hB
     subst hB
     have hc2:=hc1.trans (Kk _ _ _ _ _)
     obtain⟨L,Rr,hs⟩:=List.append_of_mem (hc2.mem_iff.2 List.mem_cons_self)
     refine⟨L,Rr,hs,fun r1=>dF (J:=[(bl,.loop r1)]) ?_ hc.keep⟩
     rw[hs] at hc2
     have hc3:=(List.perm_middle.symm.trans hc2).cons_inv
     rw[jJ,gA,mO]
     exact List.perm_middle.trans ((List.Perm.cons _ hc3).trans (List.perm_append_singleton _ _).symm)
    rcases hI with ⟨i,hi,hB⟩| ⟨jump,i,hi,hB⟩
    ·obtain⟨L,Rr,hs,hle⟩:=key _ i hB
     refine⟨L,_,Rr,hs,by simp[jo],?_⟩
     refine⟨_,hle _,?_⟩
     have:=hN bd i Z hi hΨ bR
     rw[←LS (bd:=bd)]
     exact vo (X:=X.dm bd) (kn:=⟨kn.c,[]⟩) this
    ·obtain⟨L,Rr,hs,hle⟩:=key _ i hB
     refine⟨L,_,Rr,hs,by simp,?_⟩
     have:=hS bd i Z jump hi hΨ
     cases jump with
     |ret=>
      refine⟨_,hle _,?_⟩
      rw[←LS (bd:=bd)]
      exact Br (X:=X.dm bd) (this bR) k
     |exit id=>
      simp only[afO] at this
      cases hk:BU id k with
      |none=>rw[hk] at this;exact this.elim
      |some p=>
       rw[hk] at this
       refine⟨_,hle _,?_⟩
       rw[←LS (bd:=bd)]
       exact xU (X:=X.dm bd) (kn:=⟨kn.c,[]⟩) hk (this bR)
     |_=>exact this.elim
end
theorem aAn{X:Cx}:(lpO X bd o).state= .ready∧(lpO X bd o).pending=none:=by
 unfold lpO
 split<;>exact⟨rfl,rfl⟩
attribute [irreducible] rfV lpO aFh rdO afO
def bgO(body:Code):Option JS→Option (JS×Nat)
 |some ⟨.fin .normal,e,.b b (.loop r)::w,kn⟩=>match r.state with
  | .ready=>some (⟨.code body [],e,.b b (.loop {r with state:= .busy})::w,kn⟩,b)
  |_=>none
 |_=>none
def Fo:Option (JS×Nat)→Option JS
 |some (s,_)=>some s
 |none=>none
def Ti:Option (JS×Nat)→Option Nat
 |some (_,b)=>some b
 |none=>none
def QC:Option JS→Option (Option Code)
 |some ⟨.fin .normal,_,_,_⟩=>some none
 |some ⟨.fin .ret,_,_,_⟩=>some (some .ret)
 |some ⟨.fin (.exit id),_,_,_⟩=>some (some (.exit id))
 |_=>none
structure QY(X:Cx)(bl:Nat)(ro:Nat→Option Obj)(Φ:Value→Cells→Prop):Prop where
 q:X.Q=CG (RY ro Φ) bl
theorem qy0{X:Cx}:QY (X.re bl ro Φ) bl ro Φ:=⟨rfl⟩
section
variable {X:Cx} {o:Option JS} {bl:Nat} {ro:Nat→Option Obj}
theorem jbg(h:J (X.re bl ro Φ) (Fo (bgO body o)))(h1:Ti (bgO body o)=some bl:=by kernel_rfl):J (X.rd bl ro Φ body) o:=by
 unfold bgO at h h1
 split at h<;>try exact h.elim
 rename_i e b r w kn
 split at h<;>try exact h.elim
 rename_i bE
 simp only[bE,Ti,Option.some.injEq] at h1
 subst h1
 simp only[Fo] at h
 intro bR
 have hw:=h bR
 simp only[JP,Cx.rd,Ih,DW]
 refine⟨[],r,den w,by rw[jJ];rfl,bE,?_⟩
 simp only[JP,jJ] at hw
 exact hw
theorem jyR{Lp:Loop}{jump:Option Code}{Y:Cells}(hq:QY X bl ro Φ)(ib:Sub ro X.ro)(ps:List Nat)(pO:Φ (.bool jump.isNone) ((bl,.loop {Lp with state:=if jump.isNone then .ready else .done,pending:=jump})::Y))(h1:dA ps o=some ((bl,.loop {Lp with state:= .busy})::Y):=by kernel_rfl)(h2:QC o=some jump:=by kernel_rfl):J X o:=by
 have main:∀s w kn e,o=some ⟨s,e,w,kn⟩→Vu (RY ro Φ) bl jump ⟨X.ro,den w⟩:=by
  intro s w kn e ho
  subst ho
  have hp:=bK h1
  obtain⟨L,Rr,hs⟩:=List.append_of_mem (hp.mem_iff.2 (List.mem_append_left _ List.mem_cons_self))
  refine⟨L,_,Rr,hs,_,_,rfl,?_,pO⟩
  have kR:den w=L++(bl,.loop {Lp with state:= .busy})::Rr:=hs
  have mf:(den w).Perm (((bl,.loop {Lp with state:= .busy})::Y)++den (dw ps 0 w)):=hp
  rw[kR] at mf
  have UJ:=(List.perm_middle.symm.trans mf).cons_inv
  exact dF (J:=den (dw ps 0 w)) (List.perm_middle.trans (.cons _ UJ)) ib
 unfold QC at h2
 split at h2<;>try (cases h2;done)
 ·rename_i e w kn;cases h2;intro _;show X.Q .normal _ _;rw[hq.q];exact main _ _ _ _ rfl
 ·rename_i e w kn;cases h2;intro _;show X.Q .ret _ _;rw[hq.q];exact main _ _ _ _ rfl
 rename_i id e w kn;cases h2;intro _;show X.Q (.exit id) _ _;rw[hq.q];exact main _ _ _ _ rfl
theorem jyn{Lp:Loop}{wf:ι→List Sg}{Inv:Nat→ι→Prop}{Sp:Code→ι→Prop}{k:Nat}(hq:QY X bl ro (aqf bl Lp wf Inv Sp k))(ib:Sub ro X.ro)(j:ι)(h:Inv (k+1) j)(ps:List Nat)(hl:Lp.state= .ready∧Lp.pending=none:=by exact aAn)(h1:dA ps o=some ((bl,.loop {Lp with state:= .busy})::den (wf j)):=by kernel_rfl)(h2:QC o=some none:=by kernel_rfl):J X o:=
 jyR hq ib ps (.inl ⟨rfl,j,h,by rcases Lp with ⟨a,b,c,d,e,f,g,i⟩;obtain⟨h1,h2⟩:=hl;dsimp only at h1 h2;subst h1 h2;rfl⟩) h1 h2
theorem jys{Lp:Loop}{wf:ι→List Sg}{Inv:Nat→ι→Prop}{Sp:Code→ι→Prop}{k:Nat}(hq:QY X bl ro (aqf bl Lp wf Inv Sp k))(ib:Sub ro X.ro)(jump:Code)(j:ι)(h:Sp jump j)(ps:List Nat)(h1:dA ps o=some ((bl,.loop {Lp with state:= .busy})::den (wf j)):=by kernel_rfl)(h2:QC o=some (some jump):=by kernel_rfl):J X o:=
 jyR hq ib ps (.inr ⟨rfl,jump,j,h,rfl⟩) h1 h2
end
attribute [irreducible] bgO Fo Ti QC
def oe[DecidableEq κ](k:κ):List (κ×Value)→Nat→Option (Nat×Value)
 | [],_=>none
 |x::l,i=>if k=x.1 then some (i,x.2) else oe k l (i+1)
def lkM[DecidableEq κ](k:κ)(F:List (κ×Value)):Option Value:=(oe k F 0).map (·.2)
def qu(k:κ)(v:Value):List (κ×Value)→Nat→List (κ×Value)
 | [],_=>[]
 |_::l,0=>(k,v)::l
 |x::l,i+1=>x::qu k v l i
def eQ[DecidableEq κ](k:κ)(v:Value)(F:List (κ×Value)):List (κ×Value):=match oe k F 0 with
 |some (i,_)=>qu k v F i
 |none=>F++[(k,v)]
structure Oq(P:Program)(T:TypeId){κ:Type}[DecidableEq κ](kv:κ→Value):Prop where
 chk:∀(b:Bool) (k:κ) {α:Type} {K:Unit→Sem α} {s:St} {Q:α→St→Prop} {E:Halt→St→Prop},cu P (K ()) s Q E→cu P (Instr.checkKey b 10000 T (kv k) >>= K) s Q E
 find:∀(k:κ) (es:List MapEntry) (F:List (κ×Value)),es.map (fun e=>(e.key,e.val))=F.map (fun x=>(kv x.1,x.2))→∀ {α:Type} {K:Option (Nat×Value)→Sem α} {s:St} {Q:α→St→Prop} {E:Halt→St→Prop},cu P (K (oe k F 0)) s Q E→cu P (Instr.findKey T (kv k) es >>= K) s Q E
 stay:∀k,Instr.sameBits 10000 (kv k) (kv k)=true
theorem nS[DecidableEq κ]{k:κ}:∀ {F:List (κ×Value)} {i j:Nat} {v:Value},oe k F i=some (j,v)→i≤j∧F[j-i]?=some (k,v)
 | [],_,_,_,h=>by cases h
 |x::l,i,j,v,h=>by
  simp only[oe] at h
  split at h
  ·rename_i hk
   cases h
   exact⟨Nat.le_refl _,by simp[hk]⟩
  obtain⟨h1,h2⟩:=nS h
  refine⟨by omega,?_⟩
  rw[show j-i=(j-(i+1))+1 by omega,List.getElem?_cons_succ];exact h2
theorem N9(a b:ByteArray):(a==b)=decide (a=b):=by
 have h:(a==b)=(a.data==b.data):=by cases a;cases b;rfl
 rw[h,Bool.eq_iff_iff]
 cases a;cases b
 simp
theorem EB(a:ByteArray):∀(es:List MapEntry) (F:List (ByteArray×Value)) (i:Nat),es.map (fun e=>(e.key,e.val))=F.map (fun x=>(Value.string x.1,x.2))→Instr.findNow .string (.string a) es i=some (oe a F i)
 | [],[],_,_=>rfl
 | [],_::_,_,h=>by simp at h
 |_::_,[],_,h=>by simp at h
 |e::es,x::F,i,h=>by
  simp only[List.map_cons,List.cons.injEq,Prod.mk.injEq] at h
  obtain⟨⟨h1,h2⟩,h3⟩:=h
  simp only[Instr.findNow,h1,Instr.sameNow,oe,N9]
  by_cases hk:a=x.1
  ·simp[hk,h2]
  simp only[hk,decide_false,if_false]
  exact EB a es F (i+1) h3
def CkD(P:Program)(dep:Nat)(T:TypeId)(v:Value):Prop:=∀(b:Bool) {α:Type} {K:Unit→Sem α} {s:St} {Q:α→St→Prop} {E:Halt→St→Prop},cu P (Instr.checkKey b dep T v >>= K) s Q E=cu P (K ()) s Q E
theorem aFb{P:Program}(tf:TF P T .string sz bL z ag)(a:ByteArray):CkD P (dep+1) T (.string a):=by
 intro b α K s Q E
 simp only[Instr.checkKey,af,a8 tf,aj]
theorem asr{P:Program}(tf:TF P T .string sz bL z ag):Oq P T (fun(a:ByteArray)=>Value.string a) where
 chk b k α K s Q E h:=by rw[aFb (dep:=9999) tf k b];exact h
 find k es F he α K s Q E h:=by
  simp only[Instr.findKey,af,a8 tf,EB k es F 0 he,aj]
  exact h
 stay k:=by simp[Instr.sameBits,N9]
def ae2(P:Program)(T:TypeId):Bool:=match aY P T with
 |some ⟨.string,_,_,_⟩=>true
 |_=>false
theorem Xd{P:Program}(h:ae2 P T=true):Oq P T (fun(a:ByteArray)=>Value.string a):=by
 unfold ae2 at h
 split at h
 ·rename_i dP
  obtain⟨bL,tf⟩:=aB dP
  exact asr tf
 cases h
theorem ItX.up{P:Program}{g:FuncId}{fi:List Value}{aR:Nat→Option Obj}{own:Cells}{N:Nat}{El:(Nat→Option Obj)→Nat→List Value→Cells→Prop}{Ψ:Cells→Prop}(h:ItX P g fi ca ro own N El Ψ)(hs:Sub ro aR):ItX P g fi ca aR own N El Ψ:=
 fun bl aV Inv Stop h1=>h bl aV Inv Stop (hs.trans h1)
def YOK(P:Program)(bl:Nat)(ro:Nat→Option Obj)(N:Nat)(El:(Nat→Option Obj)→Nat→List Value→Cells→Prop)(Inv:Nat→Cells→Prop)(Stop:Cells→Prop):Prop:=
 ∀k vs LL B tS,k <N→El tS k vs LL→Inv k B→Sub ro tS→YX P bl vs tS (LL++B) (fun r B'=>(r= .bool true∧Inv (k+1) B')∨(r= .bool false∧Stop B'))
theorem YOK.up{P:Program}{aR:Nat→Option Obj}{N:Nat}{El:(Nat→Option Obj)→Nat→List Value→Cells→Prop}{Inv:Nat→Cells→Prop}{Stop:Cells→Prop}(h:YOK P bl ro N El Inv Stop)(hs:Sub ro aR):YOK P bl aR N El Inv Stop:=
 fun k vs LL B tS h1 h2 h3 h4=>h k vs LL B tS h1 h2 h3 (hs.trans h4)
def Part(L:List α)(p:Nat)(m:List α):Prop:=∃a b,L=a++m++b∧a.length=p
theorem Part.get{L m:List α}{p:Nat}{x:α}(h:Part L p m)(hx:m[i]?=some x):p+i <L.length∧L[p+i]?=some x:=by
 obtain⟨a,b,rfl,rfl⟩:=h
 have hi:=(List.getElem?_eq_some_iff.1 hx).1
 have:(a++m++b)[a.length+i]?=some x:=by
  rw[List.append_assoc,List.getElem?_append_right (by omega),List.getElem?_append_left (by omega),show a.length+i-a.length=i by omega];exact hx
 exact⟨(List.getElem?_eq_some_iff.1 this).1,this⟩
theorem Part.flat{L:List β}{p:Nat}{G:α→List β}{l a b:List α}{s:α}(h:Part L p (l.flatMap G))(hl:l=a++[s]++b):Part L (p+(a.flatMap G).length) (G s):=by
 obtain⟨u,v,rfl,rfl⟩:=h
 subst hl
 exact⟨u++a.flatMap G,b.flatMap G++v,by simp[List.flatMap_append],by simp⟩
theorem Ph{P:Program}[DecidableEq κ]{kv:κ→Value}(he:∀a b,Yw P 10000 T (kv a) (kv b) (decide (a=b)))(k:κ):∀(es:List MapEntry) (F:List (κ×Value)) (i:Nat),es.map (fun e=>(e.key,e.val))=F.map (fun x=>(kv x.1,x.2))→∀ {α:Type} {K:Option (Nat×Value)→Sem α} {s:St} {Q:α→St→Prop} {E:Halt→St→Prop},cu P (K (oe k F i)) s Q E→cu P (Instr.findAsking T (kv k) es i >>= K) s Q E
 | [],[],_,_,_,_,_,_,_,h=>h
 | [],_::_,_,h,_,_,_,_,_,_=>by simp at h
 |_::_,[],_,h,_,_,_,_,_,_=>by simp at h
 |e::es,x::F,i,h,α,K,s,Q,E,hK=>by
  simp only[List.map_cons,List.cons.injEq,Prod.mk.injEq] at h
  obtain⟨⟨h1,h2⟩,h3⟩:=h
  simp only[Instr.findAsking,af,h1,Op.equal]
  rw[show Op.maxDepth=10000 from rfl,he k x.1]
  simp only[oe] at hK
  by_cases hk:k=x.1
  ·rw[if_pos hk] at hK
   simp only[hk,decide_true,if_true,aj,h2]
   exact hK
  rw[if_neg hk] at hK
  simp only[hk,decide_false,Bool.false_eq_true,if_false]
  exact Ph he k es F (i+1) h3 hK
theorem EK{P:Program}{k:IntKind}(tf:TF P T (.int k) sz bL z ag)(a:Int):CkD P (dep+1) T (.int k a):=by
 intro b α K s Q E
 simp only[Instr.checkKey,af,a8 tf,aj]
inductive Cd(P:Program)(dep:Nat)(l:List Value):List Field→Prop
 |nil:Cd P dep l []
 |cons {f:Field} {fs:List Field} {v:Value} (hn:f.name≠ "_") (hv:Iw P f.type l f.offset v) (he:CkD P dep f.type v) (ht:Cd P dep l fs):Cd P dep l (f::fs)
theorem R7{P:Program}{fields:Array Field}(tf:TF P T (.struct fields) sz bL z true)(hf:Cd P dep l fields.toList):CkD P (dep+1) T (.agg ⟨l⟩):=by
 intro b α K s Q E
 simp only[Instr.checkKey,af,a8 tf]
 rw[←Array.forIn_toList]
 generalize fields.toList=fl at hf
 clear tf
 induction hf with
 |nil=>simp only[List.forIn_nil,aj,af]
 | @cons f fs v hn hv he ht ih=>
  simp only[List.forIn_cons,hn,ne_eq,not_false_eq_true,if_true,af]
  rw[hv]
  simp only[af]
  rw[he]
  simp only[aj]
  exact ih
theorem aeV{P:Program}[DecidableEq κ]{kv:κ→Value}{d:TypeDesc}(tf:TF P T d sz bL z ag)(hl:∀k,∃l,kv k= .agg l)(hc:∀k,CkD P 10000 T (kv k))(he:∀a b,Yw P 10000 T (kv a) (kv b) (decide (a=b)))(hs:∀k,Instr.sameBits 10000 (kv k) (kv k)=true):Oq P T kv where
 chk b k α K s Q E h:=by rw[hc k b];exact h
 find k es F hm α K s Q E h:=by
  simp only[Instr.findKey,af,a8 tf]
  cases es with
  |nil=>
   cases F with
   |nil=>exact h
   |cons x F=>simp at hm
  |cons e es=>
   have:Instr.findNow d (kv k) (e::es) 0=none:=by
    cases F with
    |nil=>simp at hm
    |cons x F=>
     simp only[List.map_cons,List.cons.injEq,Prod.mk.injEq] at hm
     obtain⟨l,OJ⟩:=hl k
     obtain⟨l2,y6⟩:=hl x.1
     simp only[Instr.findNow,hm.1.1,OJ,y6]
     cases d<;>rfl
   rw[this]
   exact Ph he k _ F 0 hm h
 stay:=hs
def oW(kv:κ→Value)(F:List (κ×Value))(es:Array MapEntry)(ck:Nat):Prop:=
 es.toList.map (fun e=>(e.key,e.val))=F.map (fun x=>(kv x.1,x.2))∧(es.toList.map (·.born)).Nodup∧∀e∈es.toList,e.born <ck
def fH(r:Nat)(kv:κ→Value)(F:List (κ×Value))(L:Cells):Prop:=∃es ck,L=[(r,.map es ck)]∧oW kv F es ck
def aim(s:St)(r:Nat)(kv:κ→Value)(F:List (κ×Value)):Prop:=∃es ck,s.has r (.map es ck)∧oW kv F es ck
theorem fH.has{kv:κ→Value}{F:List (κ×Value)}{L:Cells}(h:fH r kv F L)(hs:∀x∈L,s.has x.1 x.2):aim s r kv F:=by
 obtain⟨es,ck,rfl,hm⟩:=h
 exact⟨es,ck,hs _ List.mem_cons_self,hm⟩
theorem aim.ext{kv:κ→Value}{F:List (κ×Value)}(h:aim s r kv F)(hs:Ext s s'):aim s' r kv F:=by
 obtain⟨es,ck,h1,h2⟩:=h
 exact⟨es,ck,hs _ _ h1,h2⟩
theorem fH.nil(r:Nat)(kv:κ→Value):fH r kv [] [(r,.map #[] 0)]:=⟨#[],0,rfl,rfl,List.nodup_nil,fun _ h=>(by cases h)⟩
section
variable {X:Cx} {o:Option JS}
def II[DecidableEq κ](z:Value)(ok:Bool)(k:κ)(F:List (κ×Value)):Value:=match lkM k F with
 |some v=>bif ok then .tuple ⟨[v,.bool true]⟩ else v
 |none=>bif ok then .tuple ⟨[z,.bool false]⟩ else z
def luV(P:Program)(n:Nat)(p:Oper)(e:Env):Option (TypeId×Value×Value×Value×Bool):=match p.op with
 | .lookup T x y ok=>match aY P T with
  |some ⟨.map K E,_,_,_⟩=>match aY P E with
   |some te=>match bA n e x with
    |some m=>match bA n e y with
     |some k=>some (K,m,k,I1 te.zero te.agg,ok)
     |none=>none
    |none=>none
   |none=>none
  |_=>none
 |_=>none
theorem jlu[DecidableEq κ]{kv:κ→Value}{F:List (κ×Value)}{K:TypeId}(k:κ)(z:Value)(ok:Bool)(ps:List Nat)(B:Cells)(hk:Oq X.P K kv)(hm:∀s:St,Ext ⟨X.ro,[]⟩ s→(∀x∈B,s.has x.1 x.2)→aim s r kv F)(hj:J X (Ja B (II z ok k F) o))
 (hv:dB X.n (luV X.P X.n) o=some (K,.map (some r),kv k,z,ok):=by kernel_rfl)(hB:dA ps o=some B:=by kernel_rfl):J X o:=by
 refine jGN hv hB (fun s p e ho hh hf=>?_) hj
 subst ho
 unfold luV at hf
 split at hf<;>try (cases hf;done)
 rename_i T x y ok' av
 split at hf<;>try (cases hf;done)
 rename_i K' E' _ _ _ dP
 split at hf<;>try (cases hf;done)
 rename_i te qx
 split at hf<;>try (cases hf;done)
 rename_i m hx
 split at hf<;>try (cases hf;done)
 rename_i k' hy
 simp only[Option.some.injEq,Prod.mk.injEq] at hf
 obtain⟨rfl,rfl,rfl,rfl,rfl⟩:=hf
 obtain⟨bL,tf⟩:=aB dP
 obtain⟨A9,qY⟩:=aB qx
 refine⟨by rw[av];rfl,fun s0 De yF ops i ho rest hwt s' hs todo Q iU=>lu X.hC ho rest hwt (by rw[av];rfl) ?_ hs iU⟩
 intro s1 cR f hf K2 E2 hK
 obtain⟨es,ck,ky,Dj⟩:=(hm s0 De yF).ext cR
 simp only[execOp,av,hf _ _ hx,hf _ _ hy,Instr.lookup,af,a8 tf]
 refine cQ ky rfl rfl ?_
 simp only[aj,af]
 refine hk.chk _ _ ?_
 simp only[af]
 refine hk.find k _ F Dj.1 ?_
 simp only[II,lkM] at hK
 cases y8:oe k F 0 with
 |none=>
  rw[y8] at hK
  simp only[af,jY qY,aj]
  cases ok'<;>exact hK
 |some u=>
  obtain⟨i,v⟩:=u
  rw[y8] at hK
  simp only[aj]
  cases ok'<;>exact hK
def ar3(p:Oper):Option Unit:=match p.op with
 | .makeMap _ none=>some ()
 |_=>none
theorem jmk(kv:κ→Value)(hj:∀r L,fH r kv [] L→J X (ni [] (.map (some r)) L o))(hv:eJ X.n (fun p _=>ar3 p) o=some ():=by kernel_rfl):J X o:=by
 obtain⟨ops,i,todo,k,e,w,kn,p,rfl,ho,hw,hc⟩:=dD hv
 intro bR
 unfold ar3 at hc
 split at hc<;>try (cases hc;done)
 rename_i T av
 rcases p with ⟨dst,op,ty,pos,dG,g⟩
 dsimp only at av;subst av
 refine cy X.hC ho hw (by simp) ?_
 simp only[execOp,Instr.makeMap,Option.map_none,af,py,aj]
 refine⟨rfl,?_⟩
 intro b hb
 have:=hj b _ (fH.nil b kv)
 rw[nV ho] at this
 have:=this bR
 simp only[JP,gA,yL] at this
 show ak _ _ _ _ _ _ _ _
 rw[bI]
 exact this
def muV(P:Program)(n:Nat)(p:Oper)(e:Env):Option (TypeId×Value×Value×Value):=match p.op with
 | .mapUpdate T x y z| .insert T x y z=>match aY P T with
  |some ⟨.map K _,_,_,_⟩=>match bA n e x with
   |some m=>match bA n e y with
    |some k=>match bA n e z with
     |some v=>some (K,m,k,v)
     |none=>none
    |none=>none
   |none=>none
  |_=>none
 |_=>none
theorem FG(k:κ)(v:Value):∀(F:List (κ×Value)) (i:Nat),qu k v F i=F.set i (k,v)
 | [],_=>rfl
 |_::_,0=>rfl
 |x::l,i+1=>by simp only[qu,FG k v l i,List.set_cons_succ]
theorem G2{kv:κ→Value}{k:κ}:∀(es:List MapEntry) (F:List (κ×Value)) (i:Nat),es.map (fun e=>(e.key,e.val))=F.map (fun x=>(kv x.1,x.2))→(es.modify i fun e=>{e with key:=kv k,val:=v}).map (fun e=>(e.key,e.val))=(qu k v F i).map (fun x=>(kv x.1,x.2))
 | [],[],_,_=>by simp[qu]
 | [],_::_,_,h=>by simp at h
 |_::_,[],_,h=>by simp at h
 |e::es,x::F,0,h=>by
  simp only[List.map_cons,List.cons.injEq] at h
  simp[qu,h.2]
 |e::es,x::F,i+1,h=>by
  simp only[List.map_cons,List.cons.injEq] at h
  simp[qu,h.1,G2 es F i h.2]
theorem x5{kx:Value}:∀(es:List MapEntry) (i:Nat),(es.modify i fun e=>{e with key:=kx,val:=v}).map (·.born)=es.map (·.born)
 | [],i=>by simp
 |e::es,0=>by simp
 |e::es,i+1=>by simp[x5 es i]
theorem Ut[DecidableEq κ]{kv:κ→Value}{F:List (κ×Value)}{K:TypeId}{L:Cells}(i:Nat)(k:κ)(v:Value)(hk:Oq X.P K kv)(hm:fH r kv F L)(hj:∀L',fH r kv (eQ k v F) L'→J X (ni [i] undef L' o))
 (hv:eJ X.n (muV X.P X.n) o=some (K,.map (some r),kv k,v):=by kernel_rfl)(hB:dA [i] o=some L:=by kernel_rfl):J X o:=by
 obtain⟨ops,i0,todo,kk,e,w,kn,p,rfl,ho,hw,hc⟩:=dD hv
 intro bR
 rcases p with ⟨dst,op,ty,pos,dG,g⟩
 have main:∀T x y z,(op= .mapUpdate T x y z∨op= .insert T x y z)→muV X.P X.n ⟨dst,.mapUpdate T x y z,ty,pos,dG,g⟩ e=some (K,.map (some r),kv k,v)→ak X.C X.fn X.aF ops (i0::todo) (KQ X kk) (A X.n e X.D) ⟨X.ro,den w⟩:=by
  intro T x y z heq hc
  simp only[muV] at hc
  split at hc<;>try (cases hc;done)
  rename_i K' E' _ _ _ dP
  split at hc<;>try (cases hc;done)
  rename_i m hx
  split at hc<;>try (cases hc;done)
  rename_i k' hy
  split at hc<;>try (cases hc;done)
  rename_i v' hz
  simp only[Option.some.injEq,Prod.mk.injEq] at hc
  obtain⟨rfl,rfl,rfl,rfl⟩:=hc
  obtain⟨bL,tf⟩:=aB dP
  have hp:=bK hB
  obtain⟨es,ck,rfl,Dj⟩:=hm
  obtain⟨L1,R1,cR⟩:=List.append_of_mem (hp.mem_iff.2 (List.mem_append_left _ List.mem_cons_self))
  have hle:∀L',fH r kv (eQ k v' F) [(r,L')]→ak X.C X.fn X.aF ops todo (KQ X kk) (A X.n (upd dst undef e) X.D) ⟨X.ro,L1++(r,L')::R1⟩:=by
   intro L' hL
   have:=hj _ hL
   rw[nV ho] at this
   have:=this bR
   simp only[JP,gA] at this
   refine this.more X.hC (dF (J:=[]) ?_ (Sub.refl _))
   have mf:(den w).Perm ([(r,.map es ck)]++den (dw [i] 0 w)):=hp
   have aNF:den w=L1++(r,.map es ck)::R1:=cR
   rw[aNF] at mf
   have UJ:=(List.perm_middle.symm.trans mf).cons_inv
   rw[List.append_nil]
   exact List.perm_middle.trans (List.Perm.cons _ UJ)
  have ky:(⟨X.ro,den w⟩:St).has r (.map es ck):= .inr (by show _∈den w;rw[show den w=_ from cR];exact eV)
  refine cy X.hC ho hw (by rcases heq with rfl|rfl<;>simp) ?_
  have hex:∀f:Operand→Value,execOp f ⟨dst,op,ty,pos,dG,g⟩=(do Instr.mapUpdate T (f x) (f y) (f z);pure .skip:Sem Next):=by
   intro f;rcases heq with rfl|rfl<;>simp only[execOp]
  rw[hex,aL hx,aL hy,aL hz]
  simp only[Instr.mapUpdate,af,a8 tf]
  refine cQ ky rfl rfl ?_
  simp only[af]
  refine hk.chk _ _ ?_
  simp only[af]
  refine hk.find k _ F Dj.1 ?_
  have fin:∀ob,fH r kv (eQ k v' F) [(r,ob)]→upon X.C X.P X.aF dst (A X.n e X.D) (fun a' s'=>ak X.C X.fn X.aF ops todo (KQ X kk) a' s') (KQ X kk) .skip ⟨X.ro,L1++(r,ob)::R1⟩:=by
   intro ob hL
   show ak _ _ _ _ _ _ _ _
   have:=hle ob hL
   rw[←bI] at this
   exact this
  cases y8:oe k F 0 with
  |some u=>
   obtain⟨j,u⟩:=u
   have SM:=nS y8
   simp only[Nat.sub_zero] at SM
   have aOD:((es[j]?).map (·.key)).getD (kv k)=kv k:=by
    have h1:(es.toList.map (fun e=>(e.key,e.val)))[j]?=some (kv k,u):=by rw[Dj.1];simp[SM.2]
    simp only[List.getElem?_map,Array.getElem?_toList] at h1
    cases he:es[j]? with
    |none=>rfl
    |some e1=>rw[he] at h1;simp at h1;simp[h1.1]
   simp only[af,Instr.keyThatStays,aOD,hk.stay,if_true,aj]
   refine eL rfl cR rfl<|fin _ ⟨_,_,rfl,?_,?_,?_⟩
   ·simp only[Array.toList_modify,eQ,y8]
    exact G2 _ _ _ Dj.1
   ·simp only[Array.toList_modify,x5];exact Dj.2.1
   intro e1 h1
   have:e1.born∈((es.toList.modify j fun e=>{e with key:=kv k,val:=v'}).map (·.born)):=List.mem_map_of_mem (by simpa using h1)
   rw[x5] at this
   obtain⟨e2,h3,h4⟩:=List.mem_map.1 this
   rw[←h4];exact Dj.2.2 e2 h3
  |none=>
   refine eL rfl cR rfl<|fin _ ⟨_,_,rfl,?_,?_,?_⟩
   ·simp only[Array.toList_push,List.map_append,eQ,y8,Dj.1];rfl
   ·simp only[Array.toList_push,List.map_append,List.map_cons,List.map_nil]
    refine List.nodup_append.2 ⟨Dj.2.1,by simp,?_⟩
    intro a ha b hb
    obtain⟨e2,h3,rfl⟩:=List.mem_map.1 ha
    have:=Dj.2.2 e2 h3
    simp only[List.mem_singleton] at hb
    omega
   intro e1 h1
   simp only[Array.toList_push,List.mem_append,List.mem_singleton] at h1
   rcases h1 with h1|rfl
   ·have:=Dj.2.2 e1 h1;omega
   exact Nat.lt_succ_self _
 have hc2:=hc
 unfold muV at hc
 split at hc<;>try (cases hc;done)
 ·rename_i T x y z av
  dsimp only at av
  exact main T x y z (.inl av) (by rw[←hc2,av])
 rename_i T x y z av
 dsimp only at av
 refine main T x y z (.inr av) ?_
 rw[←hc2,av];rfl
end
attribute [irreducible] luV ar3 muV
section
variable {X:Cx} {o:Option JS}
def LD(P:Program)(n:Nat)(p:Oper)(e:Env):Option (FuncId×List Value):=match p.op with
 | .call ⟨.invoke x name,xs,_⟩=>match bA n e x with
  |some (.iface t v)=>match bN P (method (P.types.size+Made.depth) t v name) with
   |some (f,r)=>match ze n e xs.toList with
    |some vs=>bif A8 P f then some (f,r::vs) else none
    |none=>none
   |none=>none
  |_=>none
 |_=>none
theorem jS{f:Oper→Env→Option β}{r:β}(ps:List Nat)(B:Cells)(hv:eJ X.n f o=some r)(hB:dA ps o=some B)
 (hy:∀p e,f p e=some r→(∀c,p.op≠ .defer c)∧∀(R:Cells) (Q:Next→St→Prop) (E:Halt→St→Prop),(∀v L',Φ v L'→Q (.value v) ⟨X.ro,L'++R⟩)→cu X.P (execOp (ev X.n e) p) ⟨X.ro,B++R⟩ Q E)
 (hj:∀v L',Φ v L'→J X (ni ps v L' o)):J X o:=by
 obtain⟨ops,i,todo,k,e,w,kn,p,rfl,ho,hw,hc⟩:=dD hv
 intro bR
 have hp:=bK hB
 obtain⟨hd,ht⟩:=hy p e hc
 have:ak X.C X.fn X.aF ops (i::todo) (KQ X k) (A X.n e X.D) ⟨X.ro,B++den (dw ps 0 w)⟩:=by
  refine cy X.hC ho hw hd<|ht _ _ _ fun v L' pO=>?_
  have:=hj v L' pO
  rw[nV ho] at this
  have:=this bR
  simp only[JP,gA] at this
  show ak _ _ _ _ _ _ _ _
  rw[bI]
  exact this
 have hle:(⟨X.ro,B++den (dw ps 0 w)⟩:St).le ⟨X.ro,den w⟩:=⟨[],by rw[List.append_nil];exact hp,fun b o hb=> .inl hb⟩
 exact this.more X.hC hle
end
attribute [irreducible] LD
section
variable {X:Cx} {o:Option JS}
def iaA(P:Program)(n:Nat)(p:Oper)(e:Env):Option (Nat×Nat×Int×Nat×Nat):=match p.op with
 | .indexAddr T x y=>match aY P T with
  |some ⟨.array len E,_,_,_⟩=>match aY P E with
   |some te=>match bA n e x with
    |some (.pointer (some ⟨b,off,none⟩))=>match bA n e y with
     |some (.int _ ix)=>some (b,off,ix,len,te.size)
     |_=>none
    |_=>none
   |none=>none
  |_=>none
 |_=>none
theorem xa{b len:Nat}(ix:Int)(hi:0≤ix∧ix <len)(hj:J X (ku (.pointer (some ⟨b,off+ix.toNat*sz,none⟩)) o))(hv:dB X.n (iaA X.P X.n) o=some (b,off,ix,len,sz):=by kernel_rfl):J X o:=by
 refine jG hv (fun s p e ho hh hf=>?_) hj
 unfold iaA at hf
 split at hf<;>try (cases hf;done)
 rename_i T x y av
 split at hf<;>try (cases hf;done)
 rename_i ZB E _ _ _ dP
 split at hf<;>try (cases hf;done)
 rename_i te qx
 split at hf<;>try (cases hf;done)
 rename_i b' adU hx
 split at hf<;>try (cases hf;done)
 rename_i ik ix' hy
 simp only[Option.some.injEq,Prod.mk.injEq] at hf
 obtain⟨rfl,rfl,rfl,rfl,rfl⟩:=hf
 obtain⟨bL,tf⟩:=aB dP
 obtain⟨A9,qY⟩:=aB qx
 have key:∀s,Yields X.P X.n e p s (.pointer (some ⟨b',adU+ix'.toNat*te.size,none⟩)):=by
  intro s s' kR f hf K E hK
  simp only[execOp,av,Instr.indexAt,Instr.sureAddr,hf _ _ hx,hf _ _ hy,asIntOf,af,aj,a8 tf,hi,and_self,if_true,cw qY,ee]
  exact hK
 exact⟨by rw[av];rfl,fun _=>key _,fun _=>key⟩
def saV(P:Program)(n:Nat)(p:Oper)(e:Env):Option (Nat×Nat×Int×Nat):=match p.op with
 | .slice T x none (some z) none=>match aY P T with
  |some ⟨.array len E,_,_,_⟩=>match aY P E with
   |some _=>match bA n e x with
    |some (.pointer (some ⟨b,off,none⟩))=>match bA n e z with
     |some (.int _ ix)=>some (b,off,ix,len)
     |_=>none
    |_=>none
   |none=>none
  |_=>none
 |_=>none
theorem jah{b len:Nat}(hi:Int)(hl:0≤hi∧hi≤len)(hj:J X (ku (.slice (some ⟨b,off,none⟩) hi.toNat len) o))(hv:dB X.n (saV X.P X.n) o=some (b,off,hi,len):=by kernel_rfl):J X o:=by
 refine jG hv (fun s p e ho hh hf=>?_) hj
 unfold saV at hf
 split at hf<;>try (cases hf;done)
 rename_i T x z av
 split at hf<;>try (cases hf;done)
 rename_i ZB E _ _ _ dP
 split at hf<;>try (cases hf;done)
 rename_i te qx
 split at hf<;>try (cases hf;done)
 rename_i b' adU hx
 split at hf<;>try (cases hf;done)
 rename_i ik ix' hy
 simp only[Option.some.injEq,Prod.mk.injEq] at hf
 obtain⟨rfl,rfl,rfl,rfl⟩:=hf
 obtain⟨bL,tf⟩:=aB dP
 obtain⟨A9,qY⟩:=aB qx
 have key:∀s,Yields X.P X.n e p s (.slice (some ⟨b',adU,none⟩) ix'.toNat ZB):=by
  intro s s' kR f hf K E hK
  simp only[execOp,av,Option.map_some,Option.map_none,Instr.sliceAt,Instr.sliceBounds,Instr.sliceBound,Instr.sureAddr,hf _ _ hx,hf _ _ hy,asIntOf,af,aj,a8 tf,Option.isSome_none,Bool.false_eq_true,if_false,hl,and_self,if_true,cw qY,Nat.zero_mul,ee,Nat.add_zero,ite_self,Nat.sub_zero]
  exact hK
 exact⟨by rw[av];rfl,fun _=>key _,fun _=>key⟩
end
theorem fo{b:Nat}{t:TypeId}{fz:Nat×Nat}(h:s.has b (.cells ⟨l⟩ t fz))(hv:nth l off=some v):da s b off 1 [v]:=
 ⟨_,_,_,h,by rw[rh] at hv;simp[lg (show off+1≤l.length by have:=(List.getElem?_eq_some_iff.1 hv).1;omega),List.drop_eq_getElem_cons (List.getElem?_eq_some_iff.1 hv).1,(List.getElem?_eq_some_iff.1 hv).2]⟩
theorem PG{b o m:Nat}(h:da s b o m l)(hv:nth l off=some v):da s b (o+off) 1 [v]:=
 h.part off 1 (by rw[rh] at hv;simp[lg (show off+1≤l.length by have:=(List.getElem?_eq_some_iff.1 hv).1;omega),List.drop_eq_getElem_cons (List.getElem?_eq_some_iff.1 hv).1,(List.getElem?_eq_some_iff.1 hv).2])
open Go.ConcR (KK wgBlock WgAt stA smA rd wr)
def TT(T:Goroutine→St→Prop)(b:Frame)(yA:List Item)(cs:List Frame)(n:Nat)(D:List Deferred)(ro:Nat→Option Obj)(o:Option JS):Prop:=
 ∀e w kn,o=some ⟨.fin .normal,e,w,kn⟩→Knows ro kn.c→T (G (aW b (A n e D) yA) cs) ⟨ro,den w⟩
def CT{P:Program}(hm:P.follows .mixedOrders=true){main:Bool}{T:Goroutine→St→Prop}(hT:Closed P main T)(b:Frame)(yA:List Item)(cs:List Frame)(n:Nat)(D:List Deferred)(ro:Nat→Option Obj):Cx:=
 ⟨P,fun m T'=>m=main∧T'=T,by rintro _ _ ⟨rfl,rfl⟩;exact hT,hm,b.fn,none,n,D,ro,After T b yA cs⟩
def Vn:Option JS→Bool
 |some ⟨.fin .normal,_,_,_⟩=>true
 |_=>false
def opO(ops:Array Oper)(todo:List Nat):Option JS→Option JS
 |some ⟨.fin .normal,e,w,kn⟩=>some ⟨.ops ops todo [],e,w,⟨kn.c,[]⟩⟩
 |_=>none
def cdO(c:Code):Option JS→Option JS
 |some ⟨.fin .normal,e,w,kn⟩=>some ⟨.code c [],e,w,⟨kn.c,[]⟩⟩
 |_=>none
def stO(dst:Option Tmp)(v:Value):Option JS→Option JS
 |some ⟨p,e,w,kn⟩=>some ⟨p,upd dst v e,w,kn⟩
 |none=>none
def nwO(dst:Option Tmp)(v:Value)(q:Nat)(ob:Obj):Option JS→Option JS
 |some ⟨p,e,w,kn⟩=>some ⟨p,upd dst v e,.b q ob::w,kn⟩
 |none=>none
def evO(n:Nat)(x:Operand):Option JS→Option Value
 |some ⟨_,e,_,_⟩=>bA n e x
 |none=>none
def aEo(n:Nat)(xs:List Operand):Option JS→Option (List Value)
 |some ⟨_,e,_,_⟩=>ze n e xs
 |none=>none
def vaO(P:Program)(n:Nat)(a:Oper):Option JS→Option Value
 |some ⟨_,e,_,_⟩=>abQ P n e a
 |none=>none
theorem aay(h:Vn o=true):∃e w kn,o=some ⟨.fin .normal,e,w,kn⟩:=by
 unfold Vn at h
 split at h
 ·exact⟨_,_,_,rfl⟩
 cases h
def JA(f:FuncId)(k:CallKind):Frame:={(default:Frame) with fn:=f,kind:=k,roundOf:=none}
section
variable {P:Program} {main:Bool} {T:Goroutine→St→Prop} {b:Frame} {yA:List Item} {cs:List Frame} {n:Nat} {D:List Deferred} {ro:Nat→Option Obj} {o:Option JS} {ops:Array Oper}
theorem ab9{X:Cx}(h:TT T b yA cs n D ro o)(hQ:X.Q=After T b yA cs)(hn:X.n=n)(hD:X.D=D)(my:X.ro=ro)(h1:Vn o=true):J X o:=by
 subst hn hD my
 obtain⟨e,w,kn,rfl⟩:=aay h1
 intro bR
 show X.Q .normal _ _
 rw[hQ]
 exact h _ _ _ rfl bR
theorem u7{hm:P.follows .mixedOrders=true}{hT:Closed P main T}(h:TT T b yA cs n D ro o)(h1:Vn o=true:=by kernel_rfl):J (CT hm hT b yA cs n D ro) o:=ab9 h rfl rfl rfl rfl h1
theorem ayk{hm:P.follows .mixedOrders=true}{hT:Closed P main T}{pE:Nat→Option Obj}(h:TT T b yA cs n D ro o)(h1:Vn o=true:=by kernel_rfl):J ((CT hm hT b yA cs n D pE).at ro) o:=ab9 h rfl rfl rfl rfl h1
theorem xg(hm:P.follows .mixedOrders=true)(hT:Closed P main T){todo:List Nat}(hj:J (CT hm hT b yA cs n D ro) (opO ops todo o))(hk:b.kind≠ .early:=by decide)(hr:b.roundOf=none:=by rfl):TT T b (.inRegion ops todo::yA) cs n D ro o:=by
 rintro e w kn rfl bR
 exact hj bR main T ⟨rfl,rfl⟩ b yA cs rfl hk hr fun e a s q=>q
theorem acb(hm:P.follows .mixedOrders=true)(hT:Closed P main T){c:Code}(hj:J (CT hm hT b yA cs n D ro) (cdO c o))(hk:b.kind≠ .early:=by decide)(hr:b.roundOf=none:=by rfl):TT T b (.code c::yA) cs n D ro o:=by
 rintro e w kn rfl bR
 exact hj bR main T ⟨rfl,rfl⟩ b yA cs rfl hk hr fun e a s q=>q
theorem tSt(hT:Closed P main T)(ef:Env)(wf:List Sg)(ps:List Nat)(h:∀rest,TT T b yA cs n D ro (some ⟨.fin .normal,ef++rest,wf,⟨[],[]⟩⟩))(h1:pM (mH ef) o=some ef:=by kernel_rfl)(h2:qk ps o=some wf:=by kernel_rfl)(h3:lkE (mH ef) ef=some ef:=by kernel_rfl):TT T b yA cs n D ro o:=by
 rintro e w kn rfl bR
 obtain⟨rest,he⟩:=gE (n:=n) (D:=D) (lU (by rw[uB] at h1;exact h1)) (lU h3)
 rw[he]
 exact hT.mono _ ⟨ro,den wf⟩ _ (dF (mV h2) (Sub.refl _)) (h rest _ _ _ rfl fun _ h=>(by cases h))
section
variable {k:List Item} {rest l:List Code} (hT:Closed P main T)
include hT
theorem og(hl:jF l= .region id ops false::rest)(h:∀l',jF l'=rest→TT T b (.inRegion ops (List.range ops.size)::(l'.map .code++k)) cs n D ro o):TT T b (l.map .code++k) cs n D ro o:=
 fun e w kn ho bR=>C1 hT hl fun l' Dl=>h l' Dl e w kn ho bR
theorem Ea{c:Operand}{x y:Code}{t q:Bool}(hl:jF l= .cond c x y::rest)(hq:q=t)(h:∀l',jF l'=rest→TT T b (.code (if t then x else y)::(l'.map .code++k)) cs n D ro o)(hc:evO n c o=some (.bool q):=by kernel_rfl):TT T b (l.map .code++k) cs n D ro o:=by
 subst hq
 rintro e w kn rfl bR
 exact akk hT hl (by rw[gQ];exact aL hc) fun l' Dl=>h l' Dl e w kn rfl bR
theorem Mt{c:Code}(hl:jF l= .block id c::rest)(h:∀l',jF l'=rest→TT T b ([c].map .code++(.inBlock id::(l'.map .code++k))) cs n D ro o):TT T b (l.map .code++k) cs n D ro o:=
 fun e w kn ho bR=>adS hT hl fun l' Dl=>h l' Dl e w kn ho bR
theorem anL{c:Code}(hl:jF l= .loop c::rest)(h:∀l',jF l'=rest→TT T b ([c].map .code++(.inLoop c::(l'.map .code++k))) cs n D ro o):TT T b (l.map .code++k) cs n D ro o:=
 fun e w kn ho bR=>akj hT hl fun l' Dl=>h l' Dl e w kn ho bR
theorem Pm{c:Code}(hl:jF l=c::rest)(h:∀l',jF l'=rest→TT T b (.code c::(l'.map .code++k)) cs n D ro o):TT T b (l.map .code++k) cs n D ro o:=
 fun e w kn ho bR=>qV hT hl fun l' Dl=>h l' Dl e w kn ho bR
theorem Wh(h:TT T b k cs n D ro o):TT T b (.code .skip::k) cs n D ro o:=fun e w kn ho bR=>amH hT (h e w kn ho bR)
theorem anM{k':List Item}(hk:exitTo id k=some k')(h:TT T b k' cs n D ro o):TT T b (.code (.exit id)::k) cs n D ro o:=fun e w kn ho bR=>amI hT hk (h e w kn ho bR)
theorem anN(h:TT T b k cs n D ro o):TT T b (.inBlock id::k) cs n D ro o:=fun e w kn ho bR=>aaC hT (h e w kn ho bR)
theorem J0(h:TT T b k cs n D ro o):TT T b (.inRegion ops []::k) cs n D ro o:=fun e w kn ho bR=>mZ hT (h e w kn ho bR)
theorem acd{c:Code}(h:TT T b ([c].map .code++(.inLoop c::k)) cs n D ro o):TT T b (.inLoop c::k) cs n D ro o:=fun e w kn ho bR=>VL hT (h e w kn ho bR)
theorem ayg{a:Oper}{f:Nat→Value}{ob:Obj}(ho:ops[i]?=some a) (hg:a.guard=none) (uG:∀e q,TZ P (execOp (ev n e) a) q=some (ob,f q)) (hk:b.kind≠ .early) (hr:b.roundOf=none)
 (h:∀q,TT T b (.inRegion ops todo::k) cs n D ro (nwO a.dst (f q) q ob o)):TT T b (.inRegion ops (i::todo)::k) cs n D ro o:=by
 rintro e w kn rfl bR
 refine xz hT ho (fb _ _ hg) hk hr ?_
 rw[gQ]
 refine aec (f:=f) (fun q _=>⟨_,rfl,?_⟩) _ (uG e)
 rw[bI]
 have:=h q _ _ _ rfl bR
 rw[jJ] at this
 exact this
theorem S6{a:Oper}(v:Value)(ho:ops[i]?=some a) (hg:a.guard=none) (hk:b.kind≠ .early) (hr:b.roundOf=none) (h:TT T b (.inRegion ops todo::k) cs n D ro (stO a.dst v o)) (hv:vaO P n a o=some v:=by kernel_rfl):TT T b (.inRegion ops (i::todo)::k) cs n D ro o:=by
 rintro e w kn rfl bR
 refine xz hT ho (fb _ _ hg) hk hr ?_
 rw[gQ]
 refine Bi hv _ (Ext.refl _) _ (fun _ _ h=>aL h) _ _ ⟨v,rfl,?_⟩
 rw[bI]
 exact h _ _ _ rfl bR
theorem tLd{q:Nat}{a:Oper}{x:Operand}{U:TypeId}(v:Value)(ho:ops[i]?=some a) (hg:a.guard=none) (av:a.op= .load U x) (ht:(aY P U).map (·.agg)=some false) (hk:b.kind≠ .early) (hr:b.roundOf=none) {fz:Nat×Nat} {t:TypeId} (hb:∀e w kn,o=some ⟨.fin .normal,e,w,kn⟩→(⟨ro,den w⟩:St).has q (.cells ⟨[v]⟩ t fz))
 (h:TT T b (.inRegion ops todo::k) cs n D ro (stO a.dst v o)) (hx:evO n x o=some (.pointer (some ⟨q,0,none⟩)):=by kernel_rfl):TT T b (.inRegion ops (i::todo)::k) cs n D ro o:=by
 rintro e w kn rfl bR
 refine xz hT ho (fb _ _ hg) hk hr ?_
 rw[gQ]
 cases dP:aY P U with
 |none=>rw[dP] at ht;cases ht
 |some z=>
 rw[dP] at ht
 simp only[Option.map_some,Option.some.injEq] at ht
 obtain⟨bL,tf⟩:=aB dP
 rw[ht] at tf
 simp only[execOp,av,Instr.loadAt,aL hx,Instr.sureAddr,loadVar,af,aj,kK tf,Bool.false_eq_true,if_false]
 refine xf ⟨[v],t,fz,hb _ _ _ rfl,rfl⟩ ⟨v,rfl,?_⟩
 rw[bI]
 exact h _ _ _ rfl bR
end
theorem aca(hT:Closed P main T){a:Oper}{xs:Array Operand}{ats:Array TypeId}{k:List Item}(ho:ops[i]?=some a) (hg:a.guard=none) (av:a.op= .defer ⟨.value (.func f),xs,ats⟩) (hk:b.kind≠ .early) (hr:b.roundOf=none)
 (h:TT T b k cs n ({target:= .fn (.func f) ⟨[]⟩,args:=⟨vs⟩}::D) ro (stO a.dst undef o)) (hx:aEo n xs.toList o=some vs:=by kernel_rfl):TT T b (.inRegion ops [i]::k) cs n D ro o:=by
 rintro e w kn rfl bR
 have hC:∀m T',(fun m T'=>m=main∧T'=T:Class) m T'→Closed P m T':=by rintro _ _ ⟨rfl,rfl⟩;exact hT
 have key:ak (fun m T'=>m=main∧T'=T) b.fn none ops [i] (After T b k cs) (A n e D) ⟨ro,den w⟩:=by
  refine MO (P:=P) hC ho (fb _ _ hg) (.inl rfl) ?_
  rw[gQ]
  have e1:ev n e (.func f)= .func (.func f) #[] #[]:=rfl
  have e2:xs.map (ev n e)=⟨vs⟩:=rC hx
  simp only[execOp,av,resolve,e1,Deferred.ofValue,aj,e2]
  refine⟨rfl,?_⟩
  have hA:({A n e D with defers:={target:= .fn (.func f) ⟨[]⟩,args:=⟨vs⟩}::(A n e D).defers}:Act).put a.dst undef=A n (upd a.dst undef e) ({target:= .fn (.func f) ⟨[]⟩,args:=⟨vs⟩}::D):=by
   rw[←bI];rfl
  have he:(⟨[]⟩:Array Value)++(⟨vs⟩:Array Value)=⟨vs⟩:=by simp
  rw[he]
  have:=h _ _ _ rfl bR
  rw[←hA] at this
  exact fun m T' hc b' k' IZ h1 h2 h3 h4=>by
   obtain⟨rfl,rfl⟩:=hc
   exact mZ hT (h4 .normal _ _ this)
 exact key main T ⟨rfl,rfl⟩ b k cs rfl hk hr fun e a s q=>q
end
attribute [irreducible] Vn opO cdO
def bkO(L:Cells):Option JS→Option JS
 |some ⟨p,e,w,_⟩=>some ⟨p,e,.l L::w,⟨[],[]⟩⟩
 |none=>none
def ajH(ps:List Nat):Option JS→Option Cells
 |some ⟨_,_,w,_⟩=>some (den (dw ps 0 w))
 |none=>none
def Qv:Option JS→Option JS
 |some ⟨p,e,_,kn⟩=>some ⟨p,e,[],⟨kn.c,[]⟩⟩
 |none=>none
theorem Lr:∀(w:List Sg) (k:Nat),dw [] k w=w
 | [],_=>rfl
 |x::w,k=>by
  simp only[dw,bC]
  rw[Lr w]
  rfl
theorem ayl{P:Program}{S:Goroutine→St→Prop}{c:Code}(hf:P.funcs[f]?=some fn) (hb:fn.body=some c) (hn:fn.ntmps=n) (ff:A8 P f=true) (hle:Nat.ble ca.length n=true)
 (h:TT (dg P false S) (JA f .deferred) ([c].map .code++[]) [dR P] n [] ro (some ⟨.fin .normal,ig 0 ca,[],⟨[],[]⟩⟩)):dg P false S (born P {target:= .fn (.func f) ⟨ca⟩,args:= #[]}) ⟨ro,[]⟩:=by
 have hT:=cN P false S
 refine iQ (C:=CA P) (fun _ _ h=>h) hT (fr:={(default:Frame) with fn:=P.funcs.size,defers:=[{target:= .fn (.func f) ⟨ca⟩,args:= #[]}],mode:= .panicking [goexitEntry]}) (.inr ⟨_,rfl⟩) (jH ff) rfl ?_
 show dg P false S (G (Frame.enter P f (#[]++⟨ca⟩) .deferred) [dR P]) ⟨ro,[]⟩
 have j8:Frame.enter P f (#[]++⟨ca⟩) .deferred=aW (JA f .deferred) (A n (ig 0 ca) []) [.code c]:=by
  rw[←mN ca n (Nat.le_of_ble_eq_true hle)]
  simp[Frame.enter,aW,hf,hb,hn,JA]
 rw[j8]
 exact h _ _ _ rfl fun x hx=>(by cases hx)
def bgI(body:Code)(i:Nat):Option JS→Option (JS×Nat)
 |some ⟨.fin .normal,e,w,kn⟩=>match Ao w i with
  |some (.b b (.loop r))=>match r.state with
   | .ready=>some (⟨.code body [],e,Tk w i (.b b (.loop {r with state:= .busy})),kn⟩,b)
   |_=>none
  |_=>none
 |_=>none
def acM:Option JS→Option JS
 |some ⟨.fin .normal,e,w,kn⟩=>some ⟨.fin .ret,e,w,kn⟩
 |_=>none
theorem Ms{P:Program}{T:Goroutine→St→Prop}{c:Code}{L:Cells}(hf:P.funcs[f]?=some fn) (hb:fn.body=some c) (hn:fn.ntmps=n) (hle:Nat.ble args.length n=true)
 (h:TT T (JA f .normal) ([c].map .code++[]) cs n [] ro (some ⟨.fin .normal,ig 0 args,[.l L],⟨[],[]⟩⟩)):T (G (Frame.enter P f ⟨args⟩ .normal) cs) ⟨ro,L⟩:=by
 have j8:Frame.enter P f ⟨args⟩ .normal=aW (JA f .normal) (A n (ig 0 args) []) [.code c]:=by
  rw[←mN args n (Nat.le_of_ble_eq_true hle)]
  simp[Frame.enter,aW,hf,hb,hn,JA]
 rw[j8]
 exact h _ _ _ rfl fun x hx=>(by cases hx)
theorem ayf{P:Program}(hm:P.follows .mixedOrders=true){T:Goroutine→St→Prop}(hT:Closed P main T){yA:List Item}{cl:Frame}{EH:List Frame}(v:Value)(hs ps:List Nat)(Y:Cells)(hf:P.funcs[f]?=some fn)
 (hk:T (G (cl.finish v) EH) ⟨ro,Y⟩) (h1:rA (g9 P n f hs (acM o))=some v:=by kernel_rfl) (h2:NP (g9 P n f hs (acM o))=NO (g9 P n f hs (acM o)):=by kernel_rfl) (h3:dA ps o=some Y:=by kernel_rfl):TT T (JA f .normal) (.code .ret::yA) (cl::EH) n [] ro o:=by
 rintro e w kn rfl bR
 simp only[acM] at h1 h2
 simp only[g9] at h1 h2
 cases hr:CH P n e w kn.c hs (rB P f).results.toList with
 |none=>simp only[hr,rA] at h1;cases h1
 |some x=>
  rcases x with ⟨vs,q⟩
  simp only[hr,rA,Option.some.injEq,NP,NO] at h1 h2
  have tK:=ve (X:=⟨P,fun m T'=>m=main∧T'=T,by rintro _ _ ⟨rfl,rfl⟩;exact hT,hm,f,none,n,[],ro,fun _ _ _=>True⟩) bR hr (nv h2)
  have hp:=bK h3
  have wY:rB P f=fn:=by simp only[rB,hf]
  have Hj:=PB (s0:=⟨ro,Y⟩) (R:=fun en s'=>∃v,en= .returned v∧T (G (cl.finish v) EH) s') (.inl rfl) tK h1 (dF hp (Sub.refl _)) ⟨v,rfl,hk⟩
  rw[wY] at Hj
  refine hT.go rfl rfl (g':=G {aW (JA f .normal) (A n e []) (.code .ret::yA) with mode:= .returning} (cl::EH)) (fun w=>by simp[G,stepG,stepG.exec,aW,JA])<|qZ (C:=CA P) (fun _ _ h=>h) (T:=T) hT hf (fr:={aW (JA f .normal) (A n e []) (.code .ret::yA) with mode:= .returning}) rfl rfl rfl rfl (R:=fun en s'=>∃v,en= .returned v∧T (G (cl.finish v) EH) s') Hj.2 (fun v s' hv=>?_)
  obtain⟨v',hv',ht⟩:=hv
  cases hv'
  exact ht
theorem Sd(L:Cells)(p:Pos)(e:Env)(w:List Sg)(kn:Kn):bkO L (some ⟨p,e,w,kn⟩)=some ⟨p,e,.l L::w,⟨[],[]⟩⟩:=rfl
theorem Ax(p:Pos)(e:Env)(w:List Sg)(kn:Kn):Qv (some ⟨p,e,w,kn⟩)=some ⟨p,e,[],⟨kn.c,[]⟩⟩:=rfl
theorem J7(ps:List Nat)(p:Pos)(e:Env)(w:List Sg)(kn:Kn):ajH ps (some ⟨p,e,w,kn⟩)=some (den (dw ps 0 w)):=rfl
attribute [irreducible] Qv bkO bgI ajH acM
def EY(P:Program)(f:FuncId)(args:List Value)(ro:Nat→Option Obj)(own:Cells)(Φ:Value→Cells→Prop):Prop:=
 ∀fr,Fn (C0L P) P f ⟨args⟩ ⟨ro,own++fr⟩ (fun en s'=>∃v Y,en= .returned v∧(⟨ro,Y++fr⟩:St).le s'∧Φ v Y)
theorem EY.mono{P:Program}{own:Cells}{Φ':Value→Cells→Prop}(h:EY P f args ro own Φ)(hk:∀v X,Φ v X→Φ' v X):EY P f args ro own Φ':=
 fun fr=>Fn.mono (h fr) fun _ _ ⟨v,X,h1,h2,h3⟩=>⟨v,X,h1,h2,hk v X h3⟩
abbrev RC(ro:Nat→Option Obj)(fr:Cells)(Φ:Value→Cells→Prop):Ending→St→Prop:=fun en s'=>∃v Y,en= .returned v∧(⟨ro,Y++fr⟩:St).le s'∧Φ v Y
def XC(P:Program)(hm:P.follows .mixedOrders=true)(f:FuncId)(ro:Nat→Option Obj)(R:Ending→St→Prop):Cx:=⟨P,C0L P,vX,hm,f,none,(rB P f).ntmps,[],ro,sW P (rB P f) R⟩
theorem qC{P:Program}{hm:P.follows .mixedOrders=true}:QR (XC P hm f ro R) R:=⟨rfl,rfl⟩
theorem La{P:Program}(hC:∀main T,C main T→Closed P main T){c:Code}(hf:P.funcs[f]?=some fn) (hb:fn.body=some c) (hl:Nat.ble args.length fn.ntmps=true) (h:Wp C f none c (sW P fn R) (A fn.ntmps (ig 0 args) []) s):Fn C P f ⟨args⟩ s R:=by
 refine RA hC hf hb ?_
 have he:=mN args fn.ntmps (Nat.le_of_ble_eq_true hl)
 rw[←he] at h
 exact h
theorem BC{P:Program}(hm:P.follows .mixedOrders=true){L:Cells}(own:List Sg)(kn:Cells)(hk:Knows ro kn)(h:∀fr,J (XC P hm f ro (RC ro fr Φ)) (kE P f args (own++[.l fr]) kn))(hL:den own=L:=by rfl):EY P f args ro L Φ:=by
 subst hL
 intro fr
 have h:=h fr
 unfold kE at h
 split at h<;>try exact h.elim
 rename_i fn hf
 split at h<;>try exact h.elim
 rename_i c hc
 cases hl:Nat.ble args.length fn.ntmps with
 |false=>rw[hl] at h;exact h.elim
 |true=>
  rw[hl] at h
  have wY:rB P f=fn:=by simp only[rB,hf]
  have:=h hk
  simp only[JP,XC,KQ,wY] at this
  have hd:den (own++[.l fr])=den own++fr:=by rw[mO];rfl
  rw[hd] at this
  exact La vX hf hc hl this
section
variable {X:Cx} {o:Option JS}
theorem BE{own:Cells}(ps:List Nat)(hC:∀main T,X.C main T→C0L X.P main T)(hf:EY X.P f vs X.ro own Φ)(hj:∀v Y,Φ v Y→J X (ni ps v Y o))(h1:eJ X.n (wJ X.P X.n) o=some (f,vs):=by kernel_rfl)(h2:dA ps o=some own:=by kernel_rfl):J X o:=by
 obtain⟨ops,i,todo,k,e,w,kn,p,rfl,ho,hw,hc⟩:=dD h1
 obtain⟨ff,x,xs,at_,fi,ca,ws,av,hx,qS,rfl⟩:=pZ hc
 intro bR
 rcases p with ⟨dst,op,ty,pos,dG,g⟩
 dsimp only at av;subst av
 have hp:=bK h2
 have wY:Fn X.C X.P f ⟨fi++ws++ca⟩ ⟨X.ro,den w⟩ (fun en s'=>∃v Y,en= .returned v∧(⟨X.ro,Y++den (dw ps 0 w)⟩:St).le s'∧Φ v Y):=fun main T hT c cs k1 k2=>
  (X.hC main T hT).mono _ ⟨X.ro,own++den (dw ps 0 w)⟩ _ (dF (J:=[]) (by rw[List.append_nil];exact hp) (Sub.refl _)) (Fn.weaken hC (hf _) main T hT c cs k1 k2)
 refine su (fi:=⟨fi⟩) (ca:=⟨ca⟩) (ws:=fi++ws++ca) X.hC ho hw hx ff qS (Oc fi ws ca) wY (fun v' s' hr=>?_) (fun ch s' hr=>by obtain⟨_,_,e,_⟩:=hr;cases e) (fun s' hr=>by obtain⟨_,_,e,_⟩:=hr;cases e)
 obtain⟨v,Y,hv,hle,pO⟩:=hr
 cases hv
 have:=hj _ Y pO
 rw[nV ho] at this
 have:=this bR
 simp only[JP,gA] at this
 exact this.more X.hC hle
theorem Ur{fr:Cells}(hq:QR X (RC pE fr Φ))(v:Value)(ps:List Nat)(Y:Cells)(ib:Sub pE X.ro)(hR:Φ v Y)(h1:rA (g9 X.P X.n X.fn [] o)=some v:=by kernel_rfl)(h2:NP (g9 X.P X.n X.fn [] o)=NO (g9 X.P X.n X.fn [] o):=by kernel_rfl)(h3:dA ps o=some (Y++fr):=by kernel_rfl)(h4:zd o=true:=by kernel_rfl):J X o:=
 aS hq v [] ps (Y++fr) ib ⟨v,Y,rfl,St.le_refl _,hR⟩ h1 h2 h3 h4
end
def dfV(n:Nat)(p:Oper)(e:Env):Option (FuncId×List Value):=match p.op with
 | .defer ⟨.value x,⟨[]⟩,⟨[]⟩⟩=>match bA n e x with
  |some (.func (.func f) ⟨[]⟩ ⟨ca⟩)=>some (f,ca)
  |_=>none
 |_=>none
def skO:Option JS→Option JS
 |some ⟨.ops ops (i::todo) k,e,w,kn⟩=>match ops[i]? with
  |some p=>some ⟨.ops ops todo k,upd p.dst undef e,w,kn⟩
  |none=>none
 |_=>none
def QG(t:Tmp)(rest:Code)(ca:List Value):Option JS→Option JS
 |some ⟨.fin _,_,w,kn⟩=>some ⟨.code rest [],upd (some t) .nilIface (ig 0 ca),w,⟨kn.c,[]⟩⟩
 |_=>none
def rwS:Option JS→Option (List Sg)
 |some s=>some s.rw
 |none=>none
attribute [irreducible] skO QG rwS dfV
def qP(r ck:Nat)(seen:List Nat):Obj:= .mapIter (some r) ck ⟨seen⟩ ck
def cZ(es:Array MapEntry)(seen:List Nat):List MapEntry:=es.toList.filter fun e=> !seen.contains e.born
theorem uC(es:Array MapEntry):cZ es []=es.toList:=by simp[cZ]
theorem ZC{es:Array MapEntry}{b:Nat}{e:MapEntry}:e∈cZ es (seen++[b])↔e∈cZ es seen∧e.born≠b:=by
 simp only[cZ,List.mem_filter,Bool.not_eq_true',List.contains_eq_mem,List.mem_append,List.mem_singleton,decide_eq_false_iff_not,not_or,and_assoc]
theorem xC{es:Array MapEntry}{e:MapEntry}(h:e∈cZ es seen):(cZ es (seen++[e.born])).length <(cZ es seen).length:=by
 have:cZ es (seen++[e.born])=(cZ es seen).filter fun x=> !decide (x.born=e.born):=by
  simp only[cZ,List.filter_filter]
  refine List.filter_congr fun x _=>?_
  simp only[List.contains_eq_mem,List.mem_append,List.mem_singleton,Bool.decide_or,Bool.not_or]
  rw[Bool.and_comm]
 rw[this]
 exact List.length_filter_lt_length_iff_exists.2 ⟨e,h,by simp⟩
def mrV(P:Program)(n:Nat)(p:Oper)(e:Env):Option Value:=match p.op with
 | .range T x=>match aY P T with
  |some ⟨.map _ _,_,_,_⟩=>bA n e x
  |_=>none
 |_=>none
def nmV(n:Nat)(p:Oper)(e:Env):Option Value:=match p.op with
 | .next x false=>bA n e x
 |_=>none
def enV(n:Nat)(p:Oper)(e:Env):Option Value:=match p.op with
 | .entry x=>bA n e x
 |_=>none
theorem JY{P:Program}{Q:β→St→Prop}{E:Halt→St→Prop}{k:Nat→Sem β}(hn:0 <n)(h:∀j,j <n→cu P (k j) s Q E):cu P (choose (.mapNext n) >>= k) s Q E:=by
 show (if (Question.mapNext n).forced=true then _ else _)
 split
 ·exact h 0 hn
 exact fun q=>h _ (Nat.mod_lt _ hn)
section
variable {X:Cx} {o:Option JS}
theorem jmR{es:Array MapEntry}(hm:X.ro r=some (.map es ck))(hj:∀b,J X (ni [] (.pointer (some ⟨b,0,none⟩)) [(b,qP r ck [])] o))(hv:eJ X.n (mrV X.P X.n) o=some (.map (some r)):=by kernel_rfl)(hB:dA [] o=some []:=by kernel_rfl):J X o:=by
 refine jS (Φ:=fun v L'=>∃b,v= .pointer (some ⟨b,0,none⟩)∧L'=[(b,qP r ck [])]) [] [] hv hB (fun p e hf=>?_) (fun v L' pO=>?_)
 ·unfold mrV at hf
  split at hf<;>try (cases hf;done)
  rename_i T x av
  split at hf<;>try (cases hf;done)
  rename_i dP
  obtain⟨bL,tf⟩:=aB dP
  refine⟨by rw[av];simp,fun R Q E hQ=>?_⟩
  simp only[execOp,av,Instr.range,af,a8 tf,aL hf]
  refine cQ (.inl hm) rfl rfl ?_
  simp only[af,aj,py]
  refine⟨rfl,?_⟩
  intro b hb
  exact hQ _ _ ⟨b,rfl,rfl⟩
 obtain⟨b,rfl,rfl⟩:=pO
 exact hj b
theorem jmN{kv:κ→Value}{F:List (κ×Value)}{es:Array MapEntry}(i:Nat)(hm:X.ro r=some (.map es ck))(hE:oW kv F es ck)
 (hT:∀k v e,(k,v)∈F→e∈cZ es seen→e.key=kv k→e.val=v→J X (ni [i] (.tuple ⟨[.bool true,kv k,v]⟩) [(it,qP r ck (seen++[e.born]))] o))
 (hF:cZ es seen=[]→J X (ni [i] (.tuple ⟨[.bool false]⟩) [(it,qP r ck seen)] o))
 (hv:eJ X.n (nmV X.n) o=some (.pointer (some ⟨it,0,none⟩)):=by kernel_rfl)(hB:dA [i] o=some [(it,qP r ck seen)]:=by kernel_rfl):J X o:=by
 refine jS (Φ:=fun v L'=>(∃e,e∈cZ es seen∧v= .tuple ⟨[.bool true,e.key,e.val]⟩∧L'=[(it,qP r ck (seen++[e.born]))])∨(cZ es seen=[]∧v= .tuple ⟨[.bool false]⟩∧L'=[(it,qP r ck seen)])) [i] _ hv hB (fun p e hf=>?_) (fun v L' pO=>?_)
 ·unfold nmV at hf
  split at hf<;>try (cases hf;done)
  rename_i x av
  refine⟨by rw[av];simp,fun R Q E hQ=>?_⟩
  simp only[execOp,av,Instr.next,af,aL hf]
  have hs:(⟨X.ro,[(it,qP r ck seen)]++R⟩:St).rw=[]++(it,qP r ck seen)::R:=rfl
  refine cQ (o:=qP r ck seen) (.inr (by rw[hs];exact eV)) rfl rfl ?_
  simp only[qP,af]
  refine cQ (.inl hm) rfl rfl ?_
  simp only[af]
  have hb:=hE.2.2
  have bE:¬((!(⟨seen⟩:Array Nat).isEmpty&& !es.isEmpty&&es.all (·.born≥ck))=true):=by
   intro h
   simp only[Bool.and_eq_true,Bool.not_eq_true',Array.all_eq_true,decide_eq_true_eq] at h
   obtain⟨⟨_,h1⟩,h2⟩:=h
   have nP:0 <es.size:=by
    rcases Nat.eq_zero_or_pos es.size with h0|h0
    ·simp[Array.isEmpty,h0] at h1
    exact h0
   have:=h2 0 nP
   have:=hb es[0] (by simp)
   omega
  rw[if_neg bE]
  have sE:(es.filter fun e=> !(⟨seen⟩:Array Nat).contains e.born)=⟨cZ es seen⟩:=by
   rcases es with ⟨l⟩
   simp[cZ]
  have hold:((⟨cZ es seen⟩:Array MapEntry).filter fun e=>decide (e.born <ck))=⟨cZ es seen⟩:=by
   have:(cZ es seen).filter (fun e=>decide (e.born <ck))=cZ es seen:=List.filter_eq_self.2 fun e he=>decide_eq_true (hb e (List.mem_filter.1 he).1)
   simp[this]
  have uG:((⟨cZ es seen⟩:Array MapEntry).filter fun e=>decide (e.born≥ck))=⟨[]⟩:=by
   have:(cZ es seen).filter (fun e=>decide (e.born≥ck))=[]:=List.filter_eq_nil_iff.2 fun e he=>by
    have:=hb e (List.mem_filter.1 he).1
    simp only[decide_eq_true_eq];omega
   simp[this]
  simp only[sE,hold,uG]
  cases hl:cZ es seen with
  |nil=>
   simp only[List.isEmpty_toArray,List.isEmpty_nil,if_true]
   refine JY (by simp) fun j hj=>?_
   have hc:(#[(none:Option MapEntry)]++((⟨[]⟩:Array MapEntry)++⟨[]⟩).map some)[j]?=some none:=by
    simp at hj
    subst hj;simp
   show cu X.P ((match (#[(none:Option MapEntry)]++((⟨[]⟩:Array MapEntry)++⟨[]⟩).map some)[j]? with|some (some e)=>_|some none=>_|none=>_) >>= fun v=>pure (Next.value v)) _ _ _
   rw[hc]
   exact hQ _ _ (.inr ⟨hl,rfl,rfl⟩)
  |cons e0 l=>
   have hem:(⟨e0::l⟩:Array MapEntry).isEmpty=false:=by simp
   simp only[hem,Bool.false_eq_true,if_false]
   have Dp:(#[]++((⟨e0::l⟩:Array MapEntry)++⟨[]⟩).map some:Array (Option MapEntry))=⟨(e0::l).map some⟩:=by simp
   rw[Dp]
   refine JY (by simp) fun k bO=>?_
   have bO:k <(e0::l).length:=by simpa using bO
   have hk:(⟨(e0::l).map some⟩:Array (Option MapEntry))[k]?=some (some (e0::l)[k]):=by
    rw[List.getElem?_toArray,List.getElem?_map,List.getElem?_eq_getElem bO];rfl
   show cu X.P ((match (⟨(e0::l).map some⟩:Array (Option MapEntry))[k]? with|some (some e)=>_|some none=>_|none=>_) >>= fun v=>pure (Next.value v)) _ _ _
   rw[hk]
   simp only[af]
   have kR:(⟨X.ro,[(it,Obj.mapIter (some r) ck ⟨seen⟩ ck)]++R⟩:St).rw=[]++(it,Obj.mapIter (some r) ck ⟨seen⟩ ck)::R:=rfl
   refine eL (o:= .mapIter (some r) ck ((⟨seen⟩:Array Nat).push (e0::l)[k].born) ck) rfl kR rfl ?_
   have hp:(⟨seen⟩:Array Nat).push (e0::l)[k].born=⟨seen++[(e0::l)[k].born]⟩:=by simp
   rw[hp]
   have:=hQ (.tuple ⟨[.bool true,(e0::l)[k].key,(e0::l)[k].val]⟩) [(it,qP r ck (seen++[(e0::l)[k].born]))] (.inl ⟨_,by rw[hl];exact List.getElem_mem bO,rfl,rfl⟩)
   exact this
 rcases pO with ⟨e,he,rfl,rfl⟩| ⟨h1,rfl,rfl⟩
 ·have:(e.key,e.val)∈F.map (fun x=>(kv x.1,x.2)):=by
   rw[←hE.1];exact List.mem_map_of_mem (f:=fun e:MapEntry=>(e.key,e.val)) (List.mem_filter.1 he).1
  obtain⟨⟨k,v⟩,h1,h2⟩:=List.mem_map.1 this
  simp only[Prod.mk.injEq] at h2
  have:=hT k v e h1 he h2.1.symm h2.2.symm
  rwa[h2.1,h2.2] at this
 exact hF h1
theorem jmE{kv:κ→Value}{F:List (κ×Value)}{es:Array MapEntry}{e:MapEntry}{k:κ}(i:Nat)(hm:X.ro r=some (.map es ck))(hE:oW kv F es ck)(he:e∈cZ es seen)(hk:e.key=kv k)(hvl:e.val=v)
 (hj:J X (ni [i] (.tuple ⟨[kv k,v]⟩) [(it,qP r ck (seen++[e.born]))] o))
 (hv:eJ X.n (enV X.n) o=some (.pointer (some ⟨it,0,none⟩)):=by kernel_rfl)(hB:dA [i] o=some [(it,qP r ck (seen++[e.born]))]:=by kernel_rfl):J X o:=by
 refine jS (Φ:=fun w L'=>w= .tuple ⟨[kv k,v]⟩∧L'=[(it,qP r ck (seen++[e.born]))]) [i] _ hv hB (fun p en hf=>?_) (fun w L' pO=>?_)
 ·unfold enV at hf
  split at hf<;>try (cases hf;done)
  rename_i x av
  refine⟨by rw[av];simp,fun R Q E hQ=>?_⟩
  simp only[execOp,av,Instr.entry,af,aL hf]
  have hs:(⟨X.ro,[(it,qP r ck (seen++[e.born]))]++R⟩:St).rw=[]++(it,qP r ck (seen++[e.born]))::R:=rfl
  refine cQ (o:=qP r ck (seen++[e.born])) (.inr (by rw[hs];exact eV)) rfl rfl ?_
  have U2:(⟨seen++[e.born]⟩:Array Nat).back?=some e.born:=by simp[Array.back?]
  simp only[qP,U2,af]
  refine cQ (.inl hm) rfl rfl ?_
  have hfe:es.find? (fun x=>x.born==e.born)=some e:=by
   rcases es with ⟨l⟩
   have hel:e∈l:=(List.mem_filter.1 he).1
   have gX:(l.map (·.born)).Nodup:=hE.2.1
   simp only[List.find?_toArray]
   clear hm hE he hj hv hB hs hQ
   induction l with
   |nil=>cases hel
   |cons y l ih=>
    simp only[List.map_cons,List.nodup_cons,List.mem_map,not_exists,not_and] at gX
    rcases List.mem_cons.1 hel with rfl|h
    ·simp
    have:y.born≠e.born:=fun h2=>gX.1 e h h2.symm
    rw[List.find?_cons_of_neg (by simpa using this)]
    exact ih h gX.2
  simp only[bne_self_eq_false,Bool.false_eq_true,if_false,hfe,aj,af]
  exact hQ _ _ ⟨by rw[hk,hvl],rfl⟩
 obtain⟨rfl,rfl⟩:=pO
 exact hj
end
theorem G5{kv:κ→Value}{F:List (κ×Value)}{es:Array MapEntry}(hE:oW kv F es ck){e x:MapEntry}(he:e∈cZ es seen)(hx:x∈cZ es seen):x=e∨x∈cZ es (seen++[e.born]):=by
 by_cases h:x.born=e.born
 ·left
  have gX:=hE.2.1
  have h1:=(List.mem_filter.1 he).1
  have h2:=(List.mem_filter.1 hx).1
  generalize es.toList=l at gX h1 h2
  induction l with
  |nil=>cases h1
  |cons y l ih=>
   simp only[List.map_cons,List.nodup_cons,List.mem_map,not_exists,not_and] at gX
   rcases List.mem_cons.1 h1 with k1|k1
   ·rcases List.mem_cons.1 h2 with k2|k2
    ·rw[k1,k2]
    exact absurd (by rw[h,k1]) (gX.1 x k2)
   rcases List.mem_cons.1 h2 with k2|k2
   ·exact absurd (by rw[←h,k2]) (gX.1 e k1)
   exact ih gX.2 k1 k2
 exact .inr (ZC.2 ⟨hx,h⟩)
def msV(P:Program)(n:Nat)(p:Oper)(e:Env):Option (TypeId×List Value):=match p.op with
 | .makeSlice T x y=>match aY P T with
  |some ⟨.slice E,_,_,_⟩=>match aY P E with
   |some te=>match bA n e x,bA n e y with
    |some (.int .i64 a),some (.int .i64 b)=>bif (decide (a=2)&&decide (b=2))&&(Nat.beq te.size 1&&Nat.ble (mR P E) 65536) then some (E,te.zero) else none
    |_,_=>none
   |none=>none
  |_=>none
 |_=>none
def amS(body:Code):Option JS→Option (JS×Nat)
 |some ⟨.fin .normal,e,.b c oc:: .b b (.loop r)::w,kn⟩=>match r.state with
  | .ready=>some (⟨.code body [],e,.b c oc:: .b b (.loop {r with state:= .busy})::w,kn⟩,b)
  |_=>none
 |_=>none
theorem asL{X:Cx}(h:J (X.re bl ro Φ) (Fo (amS body o)))(h1:Ti (amS body o)=some bl:=by kernel_rfl):J (X.rd bl ro Φ body) o:=by
 unfold amS at h h1
 split at h<;>try (unfold Fo at h;exact h.elim)
 rename_i e c oc b r w kn
 split at h<;>try (unfold Fo at h;exact h.elim)
 rename_i bE
 unfold Ti at h1
 unfold Fo at h
 simp only[bE,Option.some.injEq] at h1
 subst h1
 intro bR
 have hw:=h bR
 simp only[JP,Cx.rd,Ih,DW]
 refine⟨[(c,oc)],r,den w,by rw[jJ,jJ];rfl,bE,?_⟩
 simp only[JP,jJ] at hw
 exact hw
theorem aBh{P:Program}{hm:P.follows .mixedOrders=true}(own:List Sg)(kn:Cells)(hk:Knows ro kn)(h:J (XM P hm f ro R) (kE P f args own kn)):Fn (CP P) P f ⟨args⟩ ⟨ro,den own⟩ R:=by
 unfold kE at h
 split at h<;>try exact h.elim
 rename_i fn hf
 split at h<;>try exact h.elim
 rename_i c hc
 cases hl:Nat.ble args.length fn.ntmps with
 |false=>rw[hl] at h;exact h.elim
 |true=>
  rw[hl] at h
  have wY:rB P f=fn:=by simp only[rB,hf]
  have:=h hk
  simp only[JP,XM,KQ,wY] at this
  refine Lc e9 hf hc ?_
  have he:=mN args fn.ntmps (Nat.le_of_ble_eq_true hl)
  rw[←he] at this
  exact this
section
variable {X:Cx} {o:Option JS}
theorem aMI(hq:QM X R vZ)(v:Value)(pm hs ps:List Nat)(Y:Cells)(ib:Sub pE X.ro)(hR:R (.returned v) ⟨pE,Y⟩)(h0:dA pm o=some (mk vZ):=by kernel_rfl)(h1:rA (g9 X.P X.n X.fn hs (HW pm o))=some v:=by kernel_rfl)(h2:NP (g9 X.P X.n X.fn hs (HW pm o))=NO (g9 X.P X.n X.fn hs (HW pm o)):=by kernel_rfl)(h3:dA ps (HW pm o)=some Y:=by kernel_rfl)(h4:zd o=true:=by kernel_rfl):J X o:=by
 obtain⟨ex,e,w,kn,rfl,hex⟩:=uK h4
 simp only[HW,g9] at h1 h2 h3
 cases hr:CH X.P X.n e (dw pm 0 w) kn.c hs (rB X.P X.fn).results.toList with
 |none=>simp only[hr,rA] at h1;cases h1
 |some x=>
  rcases x with ⟨vs,q⟩
  simp only[hr,rA,Option.some.injEq,NP,NO] at h1 h2
  intro bR
  have tK:=ve bR hr (nv h2)
  have hp:=bK h3
  have Hj:=PB (s0:=⟨pE,Y⟩) (R:=R) hex tK h1 (dF hp ib) hR
  have ht:cu X.P (results (rB X.P X.fn) (A X.n e X.D).tmps) ⟨X.ro,den (dw pm 0 w)⟩ (fun v s'=>∃s0,s0.le s'∧R (.returned v) s0) (fun _ _=>False):=by
   rcases hex with rfl|rfl<;>exact Hj.2
  show X.Q ex (A X.n e X.D) ⟨X.ro,den w⟩
  rw[hq.q]
  have hm:∃vZ rest,(A X.n e X.D).defers=vZ.map fg∧(den w).Perm (mk vZ++rest)∧cu X.P (results (rB X.P X.fn) (A X.n e X.D).tmps) ⟨X.ro,rest⟩ (fun v s'=>∃s0,s0.le s'∧R (.returned v) s0) (fun _ _=>False):=⟨vZ,_,hq.d,bK h0,ht⟩
  rcases hex with rfl|rfl<;>exact hm
end
attribute [irreducible] mrV nmV enV qP msV amS
end Go.L

/- Part 4 of the proof. -/
import Derived.Test.YtfamogolneloaaaGreatDoorG3
import Derived.KernelRfl
import GoSem.Extern.Table
set_option maxRecDepth 100000
set_option linter.all false
namespace Go.L
open Go Go.Conc
variable {x y:Operand} {α ι β:Type} {T E T' T2 U:TypeId} {e:Env} {b:ByteArray} {sz n k off i szo iA uY cap id:Nat} {l vs args z':List Value} {P:Program} {f:FuncId} {R:Ending→St→Prop} {Φ:Value→Cells→Prop} {todo ps ni hs:List Nat} {s:St} {p o:Oper} {aI:Nat→Option Obj} {fz:Nat×Nat} {xs:Array Operand} {at_:Array TypeId} {hi lo:Int} {Y B rw' fr:Cells} {g wM:Bool}
theorem cy.part{b o m:Nat}{ws:List Value}(h:cy s b o m vs)(j k:Nat)(hj:sub vs j k=some ws):cy s b (o+j) k ws:=by
 obtain⟨l,t,fz,h1,h2⟩:=h
 obtain⟨h3,h4⟩:=sub_eq _ _ _ _ h2
 obtain⟨h5,h6⟩:=sub_eq _ _ _ _ hj
 refine⟨l,t,fz,h1,?_⟩
 have hlen:(o+j)+k≤l.length:=by
  rcases Nat.eq_zero_or_pos k with h0|h0
  ·subst h0
   have:o+j≤l.length:=by
    have h7:sub vs j 0=some ws:=hj
    have hjl:j≤vs.length:=by
     have key:∀(l:List Value) (j:Nat) (ws:List Value),sub l j 0=some ws→j≤l.length:=by
      intro l
      induction l with
      |nil=>intro j ws h;cases j with
       |zero=>simp
       |succ j=>simp[sub] at h
      |cons x l ih=>intro j ws h;cases j with
       |zero=>simp
       |succ j=>have:=ih j ws (by simpa [sub] using h);simp;omega
     exact key _ _ _ h7
    have hol:o+m≤l.length∨m=0:=by
     rcases Nat.eq_zero_or_pos m with h8|h8
     ·exact .inr h8
     left
     have:=h4 (m-1) vs[m-1] (by rw[List.getElem?_eq_getElem])
     have:=(List.getElem?_eq_some_iff.1 this).1
     omega
    rcases hol with h9|h9
    ·omega
    have aOl:∀(l:List Value) (o:Nat) (ws:List Value),sub l o 0=some ws→o≤l.length:=by
     intro l
     induction l with
     |nil=>intro j ws h;cases j with
      |zero=>simp
      |succ j=>simp[sub] at h
     |cons x l ih=>intro j ws h;cases j with
      |zero=>simp
      |succ j=>have:=ih j ws (by simpa [sub] using h);simp;omega
    rw[h9] at h2
    have:=aOl _ _ _ h2
    omega
   omega
  have:=h6 (k-1) ws[k-1] (by rw[List.getElem?_eq_getElem])
  have:=h4 _ _ this
  have:=(List.getElem?_eq_some_iff.1 this).1
  omega
 rw[iP hlen]
 congr 1
 apply List.ext_getElem?
 intro i
 by_cases hi:i <k
 ·have h7:=h4 _ _ (h6 i ws[i] (by rw[List.getElem?_eq_getElem]))
  rw[List.getElem?_take_of_lt hi,List.getElem?_drop,List.getElem?_eq_getElem (show i <ws.length by omega),←h7,Nat.add_assoc]
 rw[List.getElem?_eq_none (by simp;omega),List.getElem?_eq_none (by omega)]
def FH(ag:Bool)(l:List Value)(o sz:Nat):Option Value:=bif ag then (match sub l o sz with|some m=>some (.agg ⟨m⟩)|none=>none) else nth l o
theorem U6{t:TypeId}{z:List Value}{d:TypeDesc}{bw:Nat}{ag:Bool}(tf:TF P t d sz bw z ag){o:Nat}{v:Value}(hv:FH ag l o sz=some v){k:Value→Sem α}{Q:α→St→Prop}{E:Halt→St→Prop}:bN P (part t ⟨l⟩ o >>= k) s Q E=bN P (k v) s Q E:=by
 cases ag with
 |false=>exact KJ tf hv
 |true=>
  simp only[FH,cond_true] at hv
  split at hv
  ·rename_i m hm
   cases hv
   exact KH tf hm
  cases hv
section rules
variable {P:Program} {C:Class} {fn:FuncId} {az:Option Nat} {Q:Post} {s:St} {n:Nat} {env:Env} {D:List Deferred}
variable {ops:Array Oper} {i:Nat} {rest:List Nat} {dst:Option Tmp} {ty:TypeId} {pos:String} {cZ:Array Edge} {g:Option (Nat×Bool)}
variable {T:TypeId} {d:TypeDesc} {sz bw:Nat} {z:List Value} {ag:Bool}
theorem acI(hC:∀main T,C main T→Closed P main T){k:IntKind}{ix:Int}{len:Nat}{d':TypeDesc}{v:Value}(ho:ops[i]?=some ⟨dst,.index T x y,ty,pos,cZ,g⟩) (hw:ax ops n env g=true)
 (tf:TF P T (.array len E) sz bw z ag) (jP:TF P E d' iA uY z' wM) (hx:bh n env x=some (.agg ⟨l⟩)) (hy:bh n env y=some (.int k ix)) (hi:0≤ix∧ix <len) (hv:FH wM l (ix.toNat*iA) iA=some v)
 (h:ab C fn az ops rest Q (A n (upd dst v env) D) s):ab C fn az ops (i::rest) Q (A n env D) s:=by
 refine bR hC ho hw (by simp) ?_
 simp only[execOp,Instr.index,aD hx,aD hy,asIntOf,asAgg,aa,ae,aX tf,hi,and_self,if_true,cd jP]
 rw[U6 jP hv,←aV] at*
 exact h
end rules
section rules
variable {P:Program} {C:Class} {fn:FuncId} {az:Option Nat} {Q:Post} {s:St} {n:Nat} {env:Env} {D:List Deferred}
variable {ops:Array Oper} {i:Nat} {rest:List Nat} {dst:Option Tmp} {ty:TypeId} {pos:String} {cZ:Array Edge} {g:Option (Nat×Bool)}
theorem wr(hC:∀main T,C main T→Closed P main T){l:List Nat}(hl:List.range ops.size=l)(h:ab C fn az ops l Q (A n env D) s):Wp C fn az (.region id ops false) Q (A n env D) s:=wp_region hC (hl▸h)
theorem on(hC:∀main T,C main T→Closed P main T){K:Act→St→Prop}(h:K (A n env D) s):ab C fn az ops [] (lQ K Q) (A n env D) s:=tM hC h
end rules
theorem c:∀main T,CP P main T→Closed P main T:=eY
def aR(k:IntKind)(a b:Int):Int:=a.fdiv (2^(min b.toNat k.bits))
def dv(k:IntKind)(a b:Int):Int:=k.wrap (a*2^(min b.toNat k.bits))
def S0(k:IntKind)(a b:Int):Int:=k.wrap (BitVec.ofInt k.bits a&&& BitVec.ofInt k.bits b).toNat
def JR(k:IntKind)(a b:Int):Int:=k.wrap (BitVec.ofInt k.bits a|||BitVec.ofInt k.bits b).toNat
def cT(k:IntKind)(a b:Int):Int:=k.wrap (BitVec.ofInt k.bits a^^^BitVec.ofInt k.bits b).toNat
theorem Nx(k:IntKind)(h:k.signed=false)(n:Int):0≤k.wrap n∧k.wrap n <2^k.bits:=by
 have hp:(0:Int) <2^k.bits:=Int.pow_pos (by decide)
 simp only[IntKind.wrap,h,Bool.false_and,Bool.false_eq_true,if_false]
 exact⟨Int.emod_nonneg _ (by omega),Int.emod_lt_of_pos _ hp⟩
theorem sg(k:IntKind)(h:k.signed=false)(n:Int)(h0:0≤n)(h1:n <2^k.bits):k.wrap n=n:=by
 simp only[IntKind.wrap,h,Bool.false_and,Bool.false_eq_true,if_false]
 exact Int.emod_eq_of_lt h0 h1
theorem tT(a b:Int):0≤cT .u64 a b∧cT .u64 a b <18446744073709551616:=Nx .u64 rfl _
theorem aN1{p0 p1 p2 p3 x:Int}(h: [p0,p1,p2,p3][k]?=some x):nth [.int .i64 p0,.int .i64 p1,.int .i64 p2,.int .i64 p3] k=some (.int .i64 x):=by
 rcases k with _|_|_|_|k
 all_goals first| (simp at h;subst h;rfl)|simp at h
theorem eE.axq{own:Cells}(hp:s.rw.Perm (own++fr))(hf:eE P f vs s.ro own Φ):
 Fn (CP P) P f ⟨vs⟩ s (fun en s'=>∃v X,en= .returned v∧Φ v X∧(⟨s.ro,X++fr⟩:St).le s'):=by
 refine Fn.mono (Fn.frame (fr:=fr) (B:=[]) (ro:=s.ro) (s:=s) hf (fun _ h=>(by cases h)) ⟨hp,fun b o hb=> .inl hb,Sub.refl _⟩) fun en s' Di=>?_
 obtain⟨ym,⟨v,X,rfl,rfl,qi⟩,hc⟩:=Di
 exact⟨v,X,rfl,qi,[],by simpa using hc.rw,fun b o hb=> .inl (hc.keep b o hb)⟩
def Knows(ro:Nat→Option Obj)(X:Cells):Prop:=∀x∈X,ro x.1=some x.2
theorem Knows.up{ro:Nat→Option Obj}{X:Cells}(h:Knows ro X)(hs:Sub ro aI):Knows aI X:=fun x hx=>hs _ _ (h x hx)
theorem Knows.left{ro:Nat→Option Obj}{X:Cells}(h:Knows ro (X++Y)):Knows ro X:=fun x hx=>h x (List.mem_append_left _ hx)
theorem Knows.right{ro:Nat→Option Obj}{X:Cells}(h:Knows ro (X++Y)):Knows ro Y:=fun x hx=>h x (List.mem_append_right _ hx)
theorem Knows.tail{ro:Nat→Option Obj}{x:Nat×Obj}(h:Knows ro (x::Y)):Knows ro Y:=fun y hy=>h y (List.mem_cons_of_mem _ hy)
theorem Knows.head{ro:Nat→Option Obj}{x:Nat×Obj}(h:Knows ro (x::Y)):ro x.1=some x.2:=h x List.mem_cons_self
theorem wW{b:Nat}{enc:α→List Value}{ps:List α}(h:s.has b (.cells ⟨(ps.map enc).flatten⟩ T fz))(hl:∀p∈ps,(enc p).length=sz){x:α}(hx:ps[k]?=some x):cy s b (0+k*sz) sz (enc x):=by
 have h2:=Co ps hl k x hx
 have hm:x∈ps:=List.mem_of_getElem? hx
 have h3:=hl x hm
 refine⟨_,T,fz,h,?_⟩
 rw[Nat.zero_add,iP,h2]
 rw[ko ps hl]
 have:=(List.getElem?_eq_some_iff.1 hx).1
 calc k*sz+sz=(k+1)*sz:=by rw[Nat.succ_mul]
  _≤ps.length*sz:=Nat.mul_le_mul_right _ (by omega)
theorem bQ{ro:Nat→Option Obj}{b:Nat}{enc:α→List Value}(ps:List α)(h:ro b=some (.cells ⟨(ps.map enc).flatten⟩ T fz))(hl:∀p∈ps,(enc p).length=sz):bE ro (.slice (some ⟨b,0,none⟩) ps.length ps.length) sz enc ps:=
 ⟨_,b,0,_,rfl,Nat.le_refl _,fun _ _=>rfl,fun _ _ hx=>wW (.inl h) hl hx⟩
section rules
variable {P:Program} {C:Class} {fn:FuncId} {az:Option Nat} {Q:Post} {s:St} {n:Nat} {env:Env} {D:List Deferred}
variable {ops:Array Oper} {i:Nat} {rest:List Nat} {dst:Option Tmp} {ty:TypeId} {pos:String} {cZ:Array Edge} {g:Option (Nat×Bool)}
variable {T:TypeId} {d:TypeDesc} {sz bw:Nat} {z:List Value} {ag:Bool}
theorem azo(hC:∀main T,C main T→Closed P main T){k k':IntKind}{a b:Int}(ho:ops[i]?=some ⟨dst,.binOp .shr T x y T',ty,pos,cZ,g⟩) (hw:ax ops n env g=true)
 (hx:bh n env x=some (.int k a)) (hy:bh n env y=some (.int k' b)) (hb:0≤b) (h:ab C fn az ops rest Q (A n (upd dst (.int k (aR k a b)) env) D) s):ab C fn az ops (i::rest) Q (A n env D) s:=by
 refine sH hC ho hw (by simp) ?_ h
 simp only[execOp,aD hx,aD hy]
 have he:eqGuard .shr T x y (.int k a) (.int k' b)=Sem.pure ():=rfl
 have hv:binOp .shr T (.int k a) (.int k' b)=Sem.pure (.int k (aR k a b)):=by
  show Op.shift .shr k a k' b=_
  simp only[Op.shift,show ¬b <0 by omega,if_false];rfl
 rw[he]
 show Sem.bind (Sem.bind (Sem.pure ()) fun _=>binOp .shr T (.int k a) (.int k' b)) _=_
 simp only[Sem.bind,hv]
 rfl
theorem azp(hC:∀main T,C main T→Closed P main T){k k':IntKind}{a b:Int}(ho:ops[i]?=some ⟨dst,.binOp .shl T x y T',ty,pos,cZ,g⟩) (hw:ax ops n env g=true)
 (hx:bh n env x=some (.int k a)) (hy:bh n env y=some (.int k' b)) (hb:0≤b) (h:ab C fn az ops rest Q (A n (upd dst (.int k (dv k a b)) env) D) s):ab C fn az ops (i::rest) Q (A n env D) s:=by
 refine sH hC ho hw (by simp) ?_ h
 simp only[execOp,aD hx,aD hy]
 have he:eqGuard .shl T x y (.int k a) (.int k' b)=Sem.pure ():=rfl
 have hv:binOp .shl T (.int k a) (.int k' b)=Sem.pure (.int k (dv k a b)):=by
  show Op.shift .shl k a k' b=_
  simp only[Op.shift,show ¬b <0 by omega,if_false];rfl
 rw[he]
 show Sem.bind (Sem.bind (Sem.pure ()) fun _=>binOp .shl T (.int k a) (.int k' b)) _=_
 simp only[Sem.bind,hv]
 rfl
end rules
theorem cb{b:Nat}{enc:α→List Value}(ps:List α)(h:s.has b (.cells ⟨(ps.map enc).flatten⟩ T fz))(hl:∀p∈ps,(enc p).length=sz):Sl s (.slice (some ⟨b,0,none⟩) ps.length cap) sz enc ps:=
 ⟨_,b,0,cap,rfl,fun _ _=>rfl,fun _ _ hx=>wW h hl hx⟩
theorem cJ{b:Nat}{enc:α→List Value}:aA (.slice (some ⟨b,0,none⟩) 0 0) sz T enc ([]:List α) [(b,.cells ⟨[]⟩ T (0,0))]:=
 .inr ⟨b,[],0,rfl,rfl,by simp,by simp,by simp,by simp⟩
theorem aA.form{v:Value}{enc:α→List Value}{ps:List α}{L:Cells}(h:aA v sz T enc ps L):∃a c,v= .slice a ps.length c:=by
 rcases h with ⟨h1,h2,_⟩| ⟨b,l,cap,h1,_⟩
 ·subst h2;exact⟨none,0,h1⟩
 exact⟨_,cap,h1⟩
def M8(v:Value)(b:Nat):Prop:=∃n c,v= .slice (some ⟨b,0,none⟩) n c
theorem cD{v:Value}{enc:α→List Value}{ps:List α}{L:Cells}(h:aA v sz T enc ps L){b:Nat}(hb:M8 v b)(hs:∀x∈L,s.has x.1 x.2){x:α}(hx:ps[k]?=some x):cy s b (k*sz) sz (enc x):=by
 obtain⟨a,b',o,c,h1,h2,h3⟩:=h.sl hs
 have hk:=(List.getElem?_eq_some_iff.1 hx).1
 have h4:=h2 k hk
 obtain⟨n,c',h5⟩:=hb
 rw[h1] at h5
 cases h5
 cases h4
 have:=h3 k x hx
 rwa[Nat.zero_add] at this
theorem azj{v:Value}{enc:α→List Value}{ps:List α}{L:Cells}(h:aA v sz T enc ps L)(hk:k <ps.length):∃b,M8 v b:=by
 rcases h with ⟨_,h2,_⟩| ⟨b,l,cap,h1,_⟩
 ·subst h2;simp at hk
 exact⟨b,_,_,h1⟩
theorem Qm{enc:α→List Value}:∀(ps:List α),(∀p∈ps,(enc p).length=sz)→∀(k:Nat) (x:α),(enc x).length=sz→k <ps.length→∀l:List Value,l.take (ps.length*sz)=(ps.map enc).flatten→(du l (k*sz) (enc x)).take (ps.length*sz)=((ps.set k x).map enc).flatten:=by
 intro ps Tf k x hx hk l hl
 have hle:ps.length*sz≤l.length:=by
  have h1:=ko ps Tf
  rw[←hl,List.length_take] at h1
  omega
 have hks:k*sz+sz≤ps.length*sz:=by
  have:(k+1)*sz≤ps.length*sz:=Nat.mul_le_mul_right _ (by omega)
  rw[Nat.succ_mul] at this;exact this
 have hA:((ps.take k).map enc).flatten.length=k*sz:=by
  rw[ko _ (fun p hp=>Tf p (List.mem_of_mem_take hp)),List.length_take,Nat.min_eq_left (by omega)]
 have hC:((ps.drop (k+1)).map enc).flatten.length=(ps.length-(k+1))*sz:=by
  rw[ko _ (fun p hp=>Tf p (List.mem_of_mem_drop hp)),List.length_drop]
 have hB:=Tf ps[k] (List.getElem_mem hk)
 have asm:(ps.map enc).flatten=((ps.take k).map enc).flatten++(enc ps[k]++((ps.drop (k+1)).map enc).flatten):=by
  have h3:ps=ps.take k++ps[k]::ps.drop (k+1):=by rw[←List.drop_eq_getElem_cons hk,List.take_append_drop]
  have h4:=congrArg (fun q:List α=>(q.map enc).flatten) h3
  simp only[List.map_append,List.map_cons,List.flatten_append,List.flatten_cons] at h4
  exact h4
 have qO:l=((ps.take k).map enc).flatten++(enc ps[k]++(((ps.drop (k+1)).map enc).flatten++l.drop (ps.length*sz))):=by
  have h3:=(List.take_append_drop (ps.length*sz) l).symm
  rw[hl,asm] at h3
  simp only[List.append_assoc] at h3
  exact h3
 have oW:((ps.set k x).map enc).flatten=((ps.take k).map enc).flatten++(enc x++((ps.drop (k+1)).map enc).flatten):=by
  rw[List.set_eq_take_append_cons_drop,if_pos hk]
  simp only[List.map_append,List.map_cons,List.flatten_append,List.flatten_cons]
 have aPN:du l (k*sz) (enc x)=((ps.take k).map enc).flatten++(enc x++(((ps.drop (k+1)).map enc).flatten++l.drop (ps.length*sz))):=by
  rw[qW _ _ _ (by omega),hx,List.append_assoc]
  congr 1
  ·conv=>lhs;rw[qO]
   rw[←hA,List.take_left]
  congr 1
  conv=>lhs;rw[qO]
  rw[←List.append_assoc,←List.append_assoc,List.append_assoc _ _ (List.drop _ _)]
  rw[show k*sz+sz=(((ps.take k).map enc).flatten++enc ps[k]).length by rw[List.length_append,hA,hB],List.drop_left]
 rw[aPN,oW,←List.append_assoc,←List.append_assoc]
 have hlen:(((ps.take k).map enc).flatten++enc x++((ps.drop (k+1)).map enc).flatten).length=ps.length*sz:=by
  rw[List.length_append,List.length_append,hA,hx,hC]
  have:ps.length*sz=(k+1+(ps.length-(k+1)))*sz:=by congr 1;omega
  rw[this,Nat.add_mul,Nat.succ_mul]
 rw[←hlen,List.take_left,List.append_assoc]
section rules
variable {P:Program} {C:Class} {fn:FuncId} {az:Option Nat} {Q:Post} {s:St} {n:Nat} {env:Env} {D:List Deferred}
variable {ops:Array Oper} {i:Nat} {rest:List Nat} {dst:Option Tmp} {ty:TypeId} {pos:String} {cZ:Array Edge} {g:Option (Nat×Bool)}
variable {T:TypeId} {d:TypeDesc} {sz bw:Nat} {z:List Value} {ag:Bool}
theorem SF(hC:∀main T,C main T→Closed P main T){w:Operand}{k k':IntKind}(ho:ops[i]?=some ⟨dst,.slice T x (some y) (some w) none,ty,pos,cZ,g⟩) (hw:ax ops n env g=true) (tf:TF P T .string sz bw z ag)
 (hx:bh n env x=some (.string b)) (hy:bh n env y=some (.int k lo)) (hz:bh n env w=some (.int k' hi)) (hl:0≤lo∧lo≤hi∧hi≤b.size) (h:ab C fn az ops rest Q (A n (upd dst (.string (b.extract lo.toNat hi.toNat)) env) D) s):ab C fn az ops (i::rest) Q (A n env D) s:=by
 refine bR hC ho hw (by simp) ?_
 have h1:0≤hi∧hi≤(b.size:Int):=by omega
 have h2:0≤lo∧lo≤(hi.toNat:Int):=by omega
 simp only[execOp,Option.map_some,Option.map_none,Instr.sliceAt,Instr.slice,aD hx,aD hy,aD hz,aa,aX tf,Instr.sliceBounds,Instr.sliceBound,asIntOf,ae,Option.isSome_none,Bool.false_eq_true,if_false,h1,h2,and_self,if_true]
 rw[←aV] at h
 exact h
theorem OS(hC:∀main T,C main T→Closed P main T){w:Operand}{k':IntKind}(ho:ops[i]?=some ⟨dst,.slice T x none (some w) none,ty,pos,cZ,g⟩) (hw:ax ops n env g=true) (tf:TF P T .string sz bw z ag)
 (hx:bh n env x=some (.string b)) (hz:bh n env w=some (.int k' hi)) (hl:0≤hi∧hi≤b.size) (h:ab C fn az ops rest Q (A n (upd dst (.string (b.extract 0 hi.toNat)) env) D) s):ab C fn az ops (i::rest) Q (A n env D) s:=by
 refine bR hC ho hw (by simp) ?_
 simp only[execOp,Option.map_some,Option.map_none,Instr.sliceAt,Instr.slice,aD hx,aD hz,aa,aX tf,Instr.sliceBounds,Instr.sliceBound,asIntOf,ae,Option.isSome_none,Bool.false_eq_true,if_false,hl,and_self,if_true]
 rw[←aV] at h
 exact h
theorem OQ(hC:∀main T,C main T→Closed P main T){k:IntKind}(ho:ops[i]?=some ⟨dst,.slice T x (some y) none none,ty,pos,cZ,g⟩) (hw:ax ops n env g=true) (tf:TF P T .string sz bw z ag)
 (hx:bh n env x=some (.string b)) (hy:bh n env y=some (.int k lo)) (hl:0≤lo∧lo≤b.size) (h:ab C fn az ops rest Q (A n (upd dst (.string (b.extract lo.toNat b.size)) env) D) s):ab C fn az ops (i::rest) Q (A n env D) s:=by
 refine bR hC ho hw (by simp) ?_
 simp only[execOp,Option.map_some,Option.map_none,Instr.sliceAt,Instr.slice,aD hx,aD hy,aa,aX tf,Instr.sliceBounds,Instr.sliceBound,asIntOf,ae,Option.isSome_none,Bool.false_eq_true,if_false,hl,and_self,if_true]
 rw[←aV] at h
 exact h
theorem bE.part{ro:Nat→Option Obj}{a:Option Addr}{len:Nat}{enc:α→List Value}{ps:List α}(hs:bE ro (.slice a len cap) sz enc ps){l h:Nat}(hl:l≤h)(hh:h≤ps.length):bE ro (.slice (if cap=l then a else a.map (·.add (l*sz))) (h-l) (cap-l)) sz enc ((ps.take h).drop l):=by
 obtain⟨a',b,o,aUf,h1,h2,h3,h4⟩:=hs
 cases h1
 have hlen:((ps.take h).drop l).length=h-l:=by rw[List.length_drop,List.length_take];omega
 refine⟨_,b,o+l*sz,_,by rw[hlen],by omega,fun k hk=>?_,fun i p hp=>?_⟩
 ·have:=h3 0 (by omega)
  subst this
  rw[if_neg (by omega)]
  simp[dK]
 rw[List.getElem?_drop] at hp
 have hi:l+i <h:=by
  have:=(List.getElem?_eq_some_iff.1 hp).1
  rw[List.length_take] at this;omega
 rw[List.getElem?_take_of_lt hi] at hp
 have:=h4 _ _ hp
 rwa[show o+(l+i)*sz=o+l*sz+i*sz by rw[Nat.add_mul];omega] at this
theorem acG(hC:∀main T,C main T→Closed P main T){v:Value}{enc:α→List Value}{ps:List α}{L:Cells}(ho:ops[i]?=some ⟨dst,.call ⟨.builtin .len,#[x],#[T]⟩,ty,pos,cZ,g⟩) (hw:ax ops n env g=true)
 (tf:TF P T (.slice E) sz bw z ag) (hx:bh n env x=some v) (kM:aA v szo T2 enc ps L) (h:ab C fn az ops rest Q (A n (upd dst (.int .i64 ps.length) env) D) s):ab C fn az ops (i::rest) Q (A n env D) s:=by
 obtain⟨a,c,rfl⟩:=kM.form
 exact azt hC ho hw tf hx h
end rules
theorem dL{ro:Nat→Option Obj}{K J:Cells}(hp:rw'.Perm (K++J))(h:Sub ro aI):(⟨ro,K⟩:St).le ⟨aI,rw'⟩:=⟨J,hp,fun b o hb=> .inl (h b o hb)⟩
theorem ar(h:l.all single=true):∀v∈l,single v=true:=List.all_eq_true.1 h
section any
variable {P:Program} {C:Class} {fn:FuncId} {az:Option Nat} {Q:Post} {s:St} {n:Nat} {D:List Deferred} {ops:Array Oper} {base:Env}
def apa(C:Class)(fn:FuncId)(az:Option Nat)(ops:Array Oper)(n:Nat)(D:List Deferred)(base:Env)(Pl Sl:List (Nat×Value))(Q:Post)(s:St)(i:Nat):Prop:=
 ∀rest todo,(∀v s',(∀j w,(j,w)∈pending ops i Sl→eT C fn az ops n D j w (cg ops base j Pl) s→eT C fn az ops n D j w (cg ops base j Pl) s')→
  td C fn az ops n D base ((i,v)::Pl) (pending ops i Sl) Q s'→ab C fn az ops todo Q (A n (upd (aP ops i) v (cg ops base i Pl++rest)) D) s')→
  ab C fn az ops (i::todo) Q (A n (cg ops base i Pl++rest) D) s
def xA(C:Class)(fn:FuncId)(az:Option Nat)(ops:Array Oper)(n:Nat)(D:List Deferred)(base:Env)(Pl Sl:List (Nat×Value))(Q:Post)(s:St):List Nat→Prop
 | []=>True
 |i::is=>apa C fn az ops n D base Pl Sl Q s i∧xA C fn az ops n D base Pl Sl Q s is
theorem xA.mem{Pl Sl:List (Nat×Value)}:∀ {is:List Nat},xA C fn az ops n D base Pl Sl Q s is→∀i∈is,apa C fn az ops n D base Pl Sl Q s i
 | [],_,i,hi=>by cases hi
 |k::is,h,i,hi=>by
  rcases List.mem_cons.1 hi with rfl|hi
  ·exact h.1
  exact xA.mem h.2 i hi
def acB(ops:Array Oper)(ks:List Nat)(is:List Nat):Bool:=
 (List.range ops.size).all fun j=>aY j ks||aY j is||(bk ops j).any fun k=> !aY k ks
theorem Z8{Pl Sl:List (Nat×Value)}(is:List Nat)(mQ:fM ops=true)(his:(is.all fun i=>Nat.blt i ops.size&& !aY i (aj Pl))=true)(lY:nodupB (aj Pl)=true)(jH:oV ops (aj Pl)=true)(hs:fO (aj Sl) (aj Pl)=true)(ho:acB ops (aj Pl) is=true)
 (h:xA C fn az ops n D base Pl Sl Q s is)(dR:is.isEmpty=false):td C fn az ops n D base Pl Sl Q s:=by
 have qL:∀i∈is,i∉aj Pl:=fun i hi hm=>by
  have:=(List.all_eq_true.1 his) i hi
  rw[aH.2 hm] at this;simp at this
 have Iw:∀i∈is,i <ops.size:=fun i hi=>by
  have:=(List.all_eq_true.1 his) i hi
  simp only[Bool.and_eq_true,Nat.blt_eq] at this
  exact this.1
 have Gl:∀(l:List (Nat×Value)),nodupB (aj l)=true→∀j v w,(j,v)∈l→(j,w)∈l→w=v:=by
  intro l
  induction l with
  |nil=>intro _ j v w h;cases h
  |cons x l ih=>
   rcases x with ⟨k,u⟩
   intro hb j v w h1 h2
   simp only[aj,nodupB,Bool.and_eq_true,Bool.not_eq_true'] at hb
   have hk:k∉aj l:=fun hm=>by rw[aH.2 hm] at hb;cases hb.1
   rcases List.mem_cons.1 h1 with h1|h1<;>rcases List.mem_cons.1 h2 with h2|h2
   ·cases h1;cases h2;rfl
   ·cases h1;exact absurd (aN.2 ⟨_,h2⟩) hk
   ·cases h2;exact absurd (aN.2 ⟨_,h1⟩) hk
   exact ih hb.2 j v w h1 h2
 intro hSl X l
 induction l generalizing X with
 |nil=>
  intro env hX hl oX hf
  cases is with
  |nil=>cases dR
  |cons i is=>exact absurd (hX i (oX i (Iw i List.mem_cons_self))) (qL i List.mem_cons_self)
 |cons j l ih=>
  intro env hX hl oX hf
  obtain⟨h1,h2,h3,h4⟩:=oX
  by_cases hj:j∈aj Pl
  ·
   obtain⟨w,hw⟩:=aN.1 hj
   obtain⟨rest,hr⟩:=wm (n:=n) (D:=D) hf j h3 h2
   rw[hr]
   refine hSl j w (hl j w hw h2) s (Ext.refl s) rest l Q ?_
   rw[←CW hr]
   refine ih (j::X) _ (fun k hk=>?_) (fun k u hk Bi=>hl k u hk (fun h=>Bi (List.mem_cons_of_mem _ h))) h4 (sW mQ hf h1 h2 h3 (fun u hu=>Gl Pl lY j w u hw hu))
   rcases List.mem_cons.1 hk with rfl|hk
   ·exact hj
   exact hX k hk
  by_cases zf:j∈is
  ·have h:=xA.mem h j zf
   have qL:=qL j zf
   obtain⟨rest,hr⟩:=wm (n:=n) (D:=D) hf j h3 h2
   rw[hr]
   refine h rest l fun v s' hp ha=>?_
   rw[←CW hr]
   have Mn:∀k,k∈aj Pl→j∉bk ops k:=by
    intro k hk hm
    have:=(List.all_eq_true.1 jH) k hk
    exact qL (bL.1 this j hm)
   have Tf:∀k u,(k,u)∈pending ops j Sl→(k,u)∈Sl:=fun k u hk=>(List.mem_filter.1 hk).1
   refine ha (fun k u hk=>?_) (j::X) l _ (fun k hk=>?_) (fun k u hk Bi=>?_) h4 ?_
   ·rw[cQ (Mn k (bL.1 hs k (aN.2 ⟨u,Tf k u hk⟩)))]
    exact hp k u hk (hSl k u (Tf k u hk))
   ·rcases List.mem_cons.1 hk with rfl|hk
    ·simp[aj]
    exact List.mem_cons_of_mem _ (hX k hk)
   ·rcases List.mem_cons.1 hk with hk|hk
    ·cases hk;exact absurd (by simp) Bi
    have Ml:k∉X:=fun h=>Bi (List.mem_cons_of_mem _ h)
    refine List.mem_filter.2 ⟨hl k u hk Ml,?_⟩
    cases hm:aY k (bk ops j) with
    |false=>rfl
    |true=>exact absurd (h3 k (aH.1 hm)) Ml
   refine sW mQ (Cp hf h2) h1 h2 h3 fun u hu=>?_
   rcases List.mem_cons.1 hu with hu|hu
   ·cases hu;rfl
   exact absurd (aN.2 ⟨_,hu⟩) qL
  exfalso
  have:=(List.all_eq_true.1 ho) j (List.mem_range.2 h1)
  have e1:aY j (aj Pl)=false:=by
   cases hm:aY j (aj Pl) with
   |false=>rfl
   |true=>exact absurd (aH.1 hm) hj
  have e2:aY j is=false:=by
   cases hm:aY j is with
   |false=>rfl
   |true=>exact absurd (aH.1 hm) zf
  rw[e1,e2] at this
  simp only[Bool.false_or,List.any_eq_true,Bool.not_eq_true'] at this
  obtain⟨k,hk,bV⟩:=this
  have:=hX k (h3 k hk)
  rw[aH.2 this] at bV;cases bV
end any
section rules
variable {P:Program} {C:Class} {fn:FuncId} {az:Option Nat} {Q:Post} {s:St} {n:Nat} {env:Env} {D:List Deferred}
variable {ops:Array Oper} {i:Nat} {rest:List Nat} {dst:Option Tmp} {ty:TypeId} {pos:String} {cZ:Array Edge} {g:Option (Nat×Bool)}
variable {T:TypeId} {d:TypeDesc} {sz bw:Nat} {z:List Value} {ag:Bool} {ro:Nat→Option Obj}
theorem vG{a:Act}(hC:∀main T,C main T→Closed P main T){rw:Cells}(hp:rw'.Perm rw)(h:ab C fn az ops todo Q a ⟨ro,rw⟩):ab C fn az ops todo Q a ⟨ro,rw'⟩:=
 ab.more (s:=⟨ro,rw⟩) (s':=⟨ro,rw'⟩) hC ⟨[],by rw[List.append_nil];exact hp,fun b o hb=> .inl hb⟩ h
theorem oap(hC:∀main T,C main T→Closed P main T){v w:Value}{enc:α→List Value}{ps qs:List α}{L R:List (Nat×Obj)}{d':TypeDesc}{E2:TypeId}{sz2 AX:Nat}{z2:List Value}{ag2:Bool} 
 (ho:ops[i]?=some ⟨dst,.call ⟨.builtin .append,#[x,y],#[T,U]⟩,ty,pos,cZ,g⟩) (hw:ax ops n env g=true) (tf:TF P T (.slice E) sz bw z ag) (Q6:TF P U (.slice E2) sz2 AX z2 ag2) (jP:TF P E d' iA uY z' wM) (hz:z'.length=iA)
 (hx:bh n env x=some v) (hy:bh n env y=some w) (kM:aA v iA E enc ps L) (JV:Sl ⟨ro,L++R⟩ w iA enc qs) (hq:∀p∈qs,∀c∈enc p,single c=true) (hb:vJ (ps.length+qs.length) uY)
 (h:∀v' L',aA v' iA E enc (ps++qs) L'→ab C fn az ops rest Q (A n (upd dst v' env) D) ⟨ro,L'++R⟩):ab C fn az ops (i::rest) Q (A n env D) ⟨ro,L++R⟩:=
 OX hC ho hw tf Q6 jP hz hx hy kM JV (pre:=[]) rfl hq hb h
theorem ost(hC:∀main T,C main T→Closed P main T){b o:Nat}{v:Value}{R:List (Nat×Obj)}{c:List Value}{e:TypeId}(ho:ops[i]?=some ⟨dst,.store T x y,ty,pos,cZ,g⟩) (hw:ax ops n env g=true) (tf:TF P T d sz bw z ag)
 (hx:bh n env x=some (.pointer (some ⟨b,o,none⟩))) (hy:bh n env y=some (v)) (hl:v.cells=⟨l⟩) (hn:l.length=sz) (h1:∀v∈l,single v=true) (hb:o+l.length≤c.length)
 (h:ab C fn az ops rest Q (A n (upd dst undef env) D) ⟨ro,(b,.cells ⟨du c o l⟩ e (0,0))::R⟩):ab C fn az ops (i::rest) Q (A n env D) ⟨ro,(b,.cells ⟨c⟩ e (0,0))::R⟩:=
 EI hC ho hw tf hx hy hl hn h1 (L:=[]) rfl hb h
end rules
section rules
variable {P:Program} {C:Class} {fn:FuncId} {az:Option Nat} {Q:Post} {s:St} {n:Nat} {env:Env} {D:List Deferred}
variable {ops:Array Oper} {i:Nat} {rest:List Nat} {dst:Option Tmp} {ty:TypeId} {pos:String} {cZ:Array Edge} {g:Option (Nat×Bool)}
theorem aqY(hC:∀main T,C main T→Closed P main T){k:IntKind}{a b:Int}(ho:ops[i]?=some ⟨dst,.call ⟨.builtin .min,#[x,y],#[T,U]⟩,ty,pos,cZ,g⟩) (hw:ax ops n env g=true)
 (hx:bh n env x=some (.int k a)) (hy:bh n env y=some (.int k b)) (h:ab C fn az ops rest Q (A n (upd dst (.int k (min a b)) env) D) s):ab C fn az ops (i::rest) Q (A n env D) s:=by
 refine bR hC ho hw (by simp) ?_
 have e:(if b <a then b else a)=min a b:=by omega
 simp only[execOp,resolve,invoke,builtin,Builtin.min_,List.map_toArray,List.map_cons,List.map_nil,aD hx,aD hy,List.foldlM_cons,List.foldlM_nil,Builtin.min2,aa,ae,e]
 rw[←aV] at h
 exact h
theorem aqZ(hC:∀main T,C main T→Closed P main T){k:IntKind}{a b:Int}(ho:ops[i]?=some ⟨dst,.call ⟨.builtin .max,#[x,y],#[T,U]⟩,ty,pos,cZ,g⟩) (hw:ax ops n env g=true)
 (hx:bh n env x=some (.int k a)) (hy:bh n env y=some (.int k b)) (h:ab C fn az ops rest Q (A n (upd dst (.int k (max a b)) env) D) s):ab C fn az ops (i::rest) Q (A n env D) s:=by
 refine bR hC ho hw (by simp) ?_
 have e:(if a <b then b else a)=max a b:=by omega
 simp only[execOp,resolve,invoke,builtin,Builtin.max_,List.map_toArray,List.map_cons,List.map_nil,aD hx,aD hy,List.foldlM_cons,List.foldlM_nil,Builtin.max2,aa,ae,e]
 rw[←aV] at h
 exact h
end rules
def cN(a b:ByteArray):Bool:=a.toList==b.toList
def strLt(a b:ByteArray):Bool:=Op.bytesLess a.toList b.toList
section rules
variable {P:Program} {C:Class} {fn:FuncId} {az:Option Nat} {Q:Post} {s:St} {n:Nat} {env:Env} {D:List Deferred}
variable {ops:Array Oper} {i:Nat} {rest:List Nat} {dst:Option Tmp} {ty:TypeId} {pos:String} {cZ:Array Edge} {g:Option (Nat×Bool)}
theorem aqV(hC:∀main T,C main T→Closed P main T){a:ByteArray}(ho:ops[i]?=some ⟨dst,.binOp .add T x y T',ty,pos,cZ,g⟩) (hw:ax ops n env g=true)
 (hx:bh n env x=some (.string a)) (hy:bh n env y=some (.string b)) (hb:(a.size:Int)+b.size≤9223372036854775807) (h:ab C fn az ops rest Q (A n (upd dst (.string (a++b)) env) D) s):ab C fn az ops (i::rest) Q (A n env D) s:=
 Af hC ho hw hx hy (v:= .string (a++b)) (by
  simp only[Op.stringOp]
  rw[if_neg]
  ·rfl
  have:IntKind.i64.max=9223372036854775807:=by decide
  rw[this];push_cast;omega) rfl h
end rules
theorem avf(b:ByteArray)(i:Nat)(h:i <b.size):b.get! i=b.data.toList[i]'(by simpa using h):=by
 have h':i <b.data.size:=h
 show b.data[i]! =_
 rw[getElem!_pos b.data i h']
 simp
theorem Xr(b:ByteArray):∀(n i:Nat) (r:List UInt8),b.size-i=n→ByteArray.toList.loop b i r=r.reverse++b.data.toList.drop i
 |0,i,r,h=>by
  unfold ByteArray.toList.loop
  rw[if_neg (by omega),List.drop_eq_nil_of_le]
  ·simp
  show b.data.toList.length≤i
  rw[Array.length_toList]
  have:b.data.size=b.size:=rfl
  omega
 |n+1,i,r,h=>by
  unfold ByteArray.toList.loop
  have hi:i <b.size:=by omega
  rw[if_pos hi,Xr b n (i+1) _ (by omega),avf b i hi]
  have hl:i <b.data.toList.length:=by rw[Array.length_toList];exact hi
  rw[List.drop_eq_getElem_cons hl]
  simp
theorem pU(b:ByteArray):b.toList=b.data.toList:=by
 show ByteArray.toList.loop b 0 []=_
 rw[Xr b _ 0 [] rfl]
 simp
theorem By{a:ByteArray}:cN a b=true↔a=b:=by
 unfold cN
 rw[pU,pU]
 simp only[beq_iff_eq]
 constructor
 ·intro h
  have:a.data=b.data:=Array.toList_inj.1 h
  cases a;cases b;simp at this;subst this;rfl
 rintro rfl;rfl
theorem zu(a b:ByteArray):cN a b=(a.data.toList==b.data.toList):=by unfold cN;rw[pU,pU]
theorem N1(a b:ByteArray):strLt a b=Op.bytesLess a.data.toList b.data.toList:=by unfold strLt;rw[pU,pU]
def FnG(P:Program)(f:FuncId)(args:List Value)(ro:Nat→Option Obj)(own:Cells)(Φ:Value→(Nat→Option Obj)→Cells→Prop):Prop:=
 Fn (CP P) P f ⟨args⟩ ⟨ro,own⟩ (fun en s'=>∃v aI X,en= .returned v∧s'=⟨aI,X⟩∧Sub ro aI∧Φ v aI X)
theorem FnG.use{own:Cells}{Φ:Value→(Nat→Option Obj)→Cells→Prop}(hp:s.rw.Perm (own++fr))(hf:FnG P f vs s.ro own Φ):
 Fn (CP P) P f ⟨vs⟩ s (fun en s'=>∃v aI X,en= .returned v∧Sub s.ro aI∧Φ v aI X∧(⟨aI,X++fr⟩:St).le s'):=by
 refine Fn.mono (Fn.frame (fr:=fr) (B:=[]) (ro:=s.ro) (s:=s) hf (fun _ h=>(by cases h)) ⟨hp,fun b o hb=> .inl hb,Sub.refl _⟩) fun en s' Di=>?_
 obtain⟨ym,⟨v,aI,X,rfl,rfl,hs,qi⟩,hc⟩:=Di
 refine⟨v,aI,X,rfl,hs,qi,[],by simpa using hc.rw,fun b o hb=>?_⟩
 rcases hc.aB b o hb with h|h
 ·exact .inl h
 cases h
theorem Fy:∀(A l:List Value) (o:Nat) (c:List Value),du (A++l) (A.length+o) c=A++du l o c
 | [],l,o,c=>by simp
 |a::A,l,o,[]=>by rw[k9,k9]
 |a::A,l,o,v::c=>by
  have:=Fy A l o (v::c)
  rw[show (a::A).length+o=A.length+o+1 by simp only[List.length_cons];omega]
  simp only[List.cons_append,du,this]
theorem Jj{m B:List Value}{o:Nat}{c:List Value}(h:o+c.length≤m.length):du (m++B) o c=du m o c++B:=by
 rw[qW _ _ _ (by rw[List.length_append];omega),qW _ _ _ h,List.take_append_of_le_length (by omega),List.drop_append_of_le_length h]
 simp only[List.append_assoc]
theorem Yj{m c:List Value}(h:c.length=m.length):du m 0 c=c:=by
 rw[qW _ _ _ (by omega)]
 simp[h]
theorem T6{enc:α→List Value}{ps:List α}(Tf:∀p∈ps,(enc p).length=sz){x:α}(hx:ps[k]?=some x) (hl:l.take (ps.length*sz)=(ps.map enc).flatten):∃A B,A.length=k*sz∧l=A++(enc x++B):=by
 obtain⟨hk,rfl⟩:=List.getElem?_eq_some_iff.1 hx
 refine⟨((ps.take k).map enc).flatten,((ps.drop (k+1)).map enc).flatten++l.drop (ps.length*sz),?_,?_⟩
 ·rw[ko _ (fun p hp=>Tf p (List.mem_of_mem_take hp)),List.length_take,Nat.min_eq_left (by omega)]
 have h3:ps=ps.take k++ps[k]::ps.drop (k+1):=by rw[←List.drop_eq_getElem_cons hk,List.take_append_drop]
 have h4:=congrArg (fun q:List α=>(q.map enc).flatten) h3
 simp only[List.map_append,List.map_cons,List.flatten_append,List.flatten_cons] at h4
 have h5:=(List.take_append_drop (ps.length*sz) l).symm
 rw[hl,h4] at h5
 simpa only[List.append_assoc] using h5
theorem Yk{enc:α→List Value}{ps:List α}(Tf:∀p∈ps,(enc p).length=sz){x:α}(hx:ps[k]?=some x) (hl:l.take (ps.length*sz)=(ps.map enc).flatten) {o:Nat} {c:List Value} (h:o+c.length≤sz):
 du l (k*sz+o) c=du l (k*sz) (du (enc x) o c):=by
 have hxl:=Tf x (List.mem_of_getElem? hx)
 obtain⟨A,B,h1,rfl⟩:=T6 Tf hx hl
 have e0:∀q,du (A++(enc x++B)) A.length q=A++du (enc x++B) 0 q:=fun q=>Fy A _ 0 q
 rw[←h1,Fy,e0,Jj (by omega),Jj (by rw[ld];omega),Yj (ld _ _ _)]
section rules
variable {P:Program} {C:Class} {fn:FuncId} {az:Option Nat} {Q:Post} {ro:Nat→Option Obj} {n:Nat} {env:Env} {D:List Deferred}
variable {ops:Array Oper} {i:Nat} {rest:List Nat} {dst:Option Tmp} {ty:TypeId} {pos:String} {cZ:Array Edge} {g:Option (Nat×Bool)}
variable {T:TypeId} {d:TypeDesc} {tsz bw:Nat} {z:List Value} {ag:Bool}
theorem azl(hC:∀main T,C main T→Closed P main T){b o:Nat}{v w:Value}{a e:α}{c:List Value}{enc:α→List Value}{ps:List α}{L R:Cells}(ho:ops[i]?=some ⟨dst,.store T x y,ty,pos,cZ,g⟩) (hw:ax ops n env g=true) (tf:TF P T d tsz bw z ag)
 (hx:bh n env x=some (.pointer (some ⟨b,k*sz+o,none⟩))) (hy:bh n env y=some w) (hl:w.cells=⟨c⟩) (hn:c.length=tsz) (h1:∀v∈c,single v=true) (kM:aA v sz E enc ps L) (hb:M8 v b) (hk:ps[k]?=some a) (he:enc e=du (enc a) o c) (hf:o+c.length≤sz)
 (h:∀L',aA v sz E enc (ps.set k e) L'→ab C fn az ops rest Q (A n (upd dst undef env) D) ⟨ro,L'++R⟩):ab C fn az ops (i::rest) Q (A n env D) ⟨ro,L++R⟩:=by
 have hk1:k <ps.length:=(List.getElem?_eq_some_iff.1 hk).1
 rcases kM with ⟨_,h2,_⟩| ⟨b',l,cap,g1,g2,g3,g4,g5,g6⟩
 ·subst h2;simp at hk
 obtain⟨n',c',mw⟩:=hb
 rw[g1] at mw
 cases mw
 subst g2
 have hea:(enc a).length=sz:=g5 a (List.mem_of_getElem? hk)
 have Di:(enc e).length=sz:=by rw[he,ld,hea]
 have hks:k*sz+sz≤ps.length*sz:=by
  have:(k+1)*sz≤ps.length*sz:=Nat.mul_le_mul_right _ (by omega)
  rw[Nat.succ_mul] at this;exact this
 have oE:ps.length*sz≤cap*sz:=Nat.mul_le_mul_right _ g4
 refine EI (L:=[]) (R:=R) hC ho hw tf hx hy hl hn h1 rfl (by omega)<|h [(b,.cells ⟨du l (k*sz+o) c⟩ E (0,0))] (.inr ⟨b,_,cap,by rw[g1,List.length_set],rfl,by rw[ld,g3],by rw[List.length_set];exact g4,fun p hp=>?_,?_⟩)
 ·rcases List.mem_or_eq_of_mem_set hp with h5|h5
  ·exact g5 p h5
  subst h5;exact Di
 rw[List.length_set,Yk g5 hk g6 hf,←he]
 exact Qm ps g5 k e Di hk1 l g6
end rules
section rules
variable {P:Program} {C:Class} {fn:FuncId} {az:Option Nat} {Q:Post} {s:St} {n:Nat} {env:Env} {D:List Deferred}
variable {ops:Array Oper} {i:Nat} {rest:List Nat} {dst:Option Tmp} {ty:TypeId} {pos:String} {cZ:Array Edge} {g:Option (Nat×Bool)}
structure EF(P:Program)(f:FuncId)(e:Array Value→Sem Value):Prop where
 ef:∃fn,P.funcs[f]?=some fn∧(fn.name== "runtime.NumGoroutine")=false∧fn.body.isNone=true∧(Extern.findNext fn).isNone=true∧Extern.find fn=some e
theorem acJ(hC:∀main T,C main T→Closed P main T){e:Array Value→Sem Value}(ho:ops[i]?=some ⟨dst,.call ⟨.value (.func f),xs,at_⟩,ty,pos,cZ,g⟩) (hw:ax ops n env g=true)
 (ef:EF P f e) (hx:ve n env xs=some vs) (h:bN P (e ⟨vs⟩) s (fun v s'=>ab C fn az ops rest Q (A n (upd dst v env) D) s') (fun _ _=>False)):ab C fn az ops (i::rest) Q (A n env D) s:=by
 obtain⟨fn',h1,h2,h3,h4,h5⟩:=ef.ef
 have h4':Extern.findNext fn'=none:=by
  cases hh:Extern.findNext fn' with
  |none=>rfl
  |some x=>rw[hh] at h4;cases h4
 refine bR hC ho hw (by simp) ?_
 simp only[execOp,resolve,ev,Deferred.ofValue,ae,r5 hx]
 simp only[invoke,Array.append_empty,Array.empty_append,callFunc,eW,h1,h2,h3,h4',h5,if_true,Bool.false_eq_true,if_false]
 refine⟨rfl,?_⟩
 refine NM (e ⟨vs⟩) (fun v=>(pure (Next.value v):Sem Next)) _ _ _<|vi _ _ _ _ _ _ (fun v s' hv=>?_) (fun _ _ (hf:False)=>hf.elim) h
 rw[←aV] at hv
 exact hv
end rules
def Pj(a:ByteArray)(b:UInt8):Int:=
 match (List.range a.size).find? fun i=>a[i]! ==b with
 |some i=>i
 |none=> -1
section rules
variable {P:Program} {C:Class} {fn:FuncId} {az:Option Nat} {Q:Post} {s:St} {n:Nat} {env:Env} {D:List Deferred}
variable {ops:Array Oper} {i:Nat} {rest:List Nat} {dst:Option Tmp} {ty:TypeId} {pos:String} {cZ:Array Edge} {g:Option (Nat×Bool)}
theorem acH(hC:∀main T,C main T→Closed P main T){a:ByteArray}{b:Int}(ho:ops[i]?=some ⟨dst,.call ⟨.value (.func f),xs,at_⟩,ty,pos,cZ,g⟩) (hw:ax ops n env g=true)
 (ef:EF P f Extern.BytealgIndexByte.indexByte) (hx:ve n env xs=some [.string a,.int .u8 b]) (h:ab C fn az ops rest Q (A n (upd dst (.int .i64 (Pj a b.toNat.toUInt8)) env) D) s):ab C fn az ops (i::rest) Q (A n env D) s:=by
 refine acJ hC ho hw ef hx ?_
 unfold Pj at h
 show bN P (match (List.range a.size).find? fun i=>a[i]! ==b.toNat.toUInt8 with|some i=>pure (goInt i)|none=>pure (goInt (-1))) s _ _
 split
 ·rename_i j hj
  rw[hj] at h;exact h
 rename_i hj
 rw[hj] at h;exact h
theorem aj6(hC:∀main T,C main T→Closed P main T){v:Value}(ho:ops[i]?=some ⟨dst,.call ⟨.value (.func f),xs,at_⟩,ty,pos,cZ,g⟩) (hw:ax ops n env g=true)
 (ef:EF P f Extern.AbiNoEscape.same) (hx:ve n env xs=some [v]) (h:ab C fn az ops rest Q (A n (upd dst v env) D) s):ab C fn az ops (i::rest) Q (A n env D) s:=
 acJ hC ho hw ef hx h
end rules
theorem ZK{p:Nat}{c:UInt8}(h:b.data.toList[p]?=some c) (ha:c.toNat <128):p <b.size∧Utf8.decode b p=(c.toNat,1):=by
 rw[Array.getElem?_toList] at h
 obtain⟨h1,h2⟩:=Array.getElem?_eq_some_iff.1 h
 refine⟨h1,?_⟩
 have h3:b.get! (p+0)=c:=by
  show b.data[p+0]! =c
  rw[Nat.add_zero,getElem!_pos b.data p h1,h2]
 simp only[Utf8.decode,h3]
 rw[if_pos (by omega)]
section rules
variable {P:Program} {C:Class} {fn:FuncId} {az:Option Nat} {Q:Post} {ro:Nat→Option Obj} {n:Nat} {env:Env} {D:List Deferred}
variable {ops:Array Oper} {i:Nat} {rest:List Nat} {dst:Option Tmp} {ty:TypeId} {pos:String} {cZ:Array Edge} {g:Option (Nat×Bool)}
theorem aj8(hC:∀main T,C main T→Closed P main T){r p:Nat}{R:Cells}{c:UInt8}(ho:ops[i]?=some ⟨dst,.next x true,ty,pos,cZ,g⟩) (hw:ax ops n env g=true) (hx:bh n env x=some (.pointer (some ⟨r,0,none⟩))) (hp:b.data.toList[p]?=some c) (ha:c.toNat <128)
 (h:ab C fn az ops rest Q (A n (upd dst (.tuple ⟨[.bool true,.int .i64 p,.int .i32 c.toNat]⟩) env) D) ⟨ro,(r,.stringIter b (p+1))::R⟩):ab C fn az ops (i::rest) Q (A n env D) ⟨ro,(r,.stringIter b p)::R⟩:=by
 obtain⟨h1,h2⟩:=ZK hp ha
 refine Yu hC ho hw hx (L:=[]) rfl h1 ?_
 rw[h2]
 exact h
theorem aj7(hC:∀main T,C main T→Closed P main T){r p:Nat}{R:Cells}(ho:ops[i]?=some ⟨dst,.next x true,ty,pos,cZ,g⟩) (hw:ax ops n env g=true) (hx:bh n env x=some (.pointer (some ⟨r,0,none⟩))) (hp:b.data.toList[p]?=none)
 (h:ab C fn az ops rest Q (A n (upd dst (.tuple ⟨[.bool false]⟩) env) D) ⟨ro,(r,.stringIter b p)::R⟩):ab C fn az ops (i::rest) Q (A n env D) ⟨ro,(r,.stringIter b p)::R⟩:=by
 refine Yv hC ho hw hx (L:=[]) rfl ?_ h
 rw[Array.getElem?_toList,Array.getElem?_eq_none_iff] at hp
 exact Nat.not_lt.2 hp
end rules
theorem E8(ops:Array Oper)(n:Nat)(env:Env)(D:List Deferred)(o:Oper)(j:Nat)(want:Bool)(d:Tmp)(hg:o.guard=some (j,want))(hd:(ops[j]?).bind (·.dst)=some d)
 (hv:bh n env (.tmp d)=some undef):Region.wanted o (yielded ops (A n env D).tmps)=false:=by
 unfold Region.wanted
 rw[hg]
 simp only[bh] at hv
 by_cases cG:d <n
 ·rw[show Nat.blt d n=true from by simpa [Nat.blt_eq] using cG] at hv
  simp only[cond_true] at hv
  simp only[yielded,hd,Option.bind_some,Ng]
  rw[if_pos cG,mS hv]
  rfl
 rw[show Nat.blt d n=false from by simpa [Nat.blt_eq,←Bool.not_eq_true] using cG] at hv
 cases hv
section rules
variable {P:Program} {C:Class} {fn:FuncId} {az:Option Nat} {Q:Post} {s:St} {n:Nat} {env:Env} {D:List Deferred}
variable {ops:Array Oper} {i:Nat} {rest:List Nat} {dst:Option Tmp} {ty:TypeId} {pos:String} {cZ:Array Edge} {g:Option (Nat×Bool)}
theorem aj5(hC:∀main T,C main T→Closed P main T){op:Op}{j:Nat}{want:Bool}{d:Tmp}(ho:ops[i]?=some ⟨dst,op,ty,pos,cZ,some (j,want)⟩) (hd:(ops[j]?).bind (·.dst)=some d)
 (hv:bh n env (.tmp d)=some undef) (h:ab C fn az ops rest Q (A n (upd dst undef env) D) s):ab C fn az ops (i::rest) Q (A n env D) s:=by
 refine tL hC ho (E8 _ _ _ _ _ _ _ _ rfl hd hv) ?_
 rw[aV];exact h
end rules
section rules
variable {P:Program} {C:Class} {fn:FuncId} {Q:Post} {s:St} {n:Nat} {env:Env} {D:List Deferred}
variable {ops:Array Oper} {i:Nat} {rest:List Nat} {dst:Option Tmp} {ty:TypeId} {pos:String} {cZ:Array Edge} {g:Option (Nat×Bool)}
theorem aka(hC:∀main T,C main T→Closed P main T){ca:List Value}(ho:ops[i]?=some ⟨dst,.defer ⟨.value x,#[],#[]⟩,ty,pos,cZ,g⟩) (hw:ax ops n env g=true)
 (hx:bh n env x=some (.func (.func f) ⟨[]⟩ ⟨ca⟩)) (h:ab C fn none ops rest Q (A n (upd dst undef env) ({target:= .fn (.func f) ⟨ca⟩,args:= #[]}::D)) s):ab C fn none ops (i::rest) Q (A n env D) s:=by
 refine Lr hC ho (Bu _ _ _ _ _ hw) (.inl rfl) ?_
 rw[ek]
 simp only[execOp,resolve,aD hx,Deferred.ofValue,ae]
 refine⟨rfl,?_⟩
 have hA:({A n env D with defers:={target:= .fn (.func f) ⟨ca⟩,args:= #[]}::(A n env D).defers}:Act).put dst undef=A n (upd dst undef env) ({target:= .fn (.func f) ⟨ca⟩,args:= #[]}::D):=by
  rw[←aV];rfl
 rw[←hA] at h
 have he:(⟨[]⟩:Array Value)++Array.map (ev n env) #[]= #[]:=by simp
 rw[he]
 exact h
def Uh(C:Class)(P:Program)(fn:Func)(g:FuncId)(gn:Func)(t:Tmp)(rest:Code)(R:Ending→St→Prop):Post:=fun e a s=>
 (e= .normal∨e= .ret)∧∃ca:List Value,Nat.ble ca.length gn.ntmps=true∧a.defers=[{target:= .fn (.func g) ⟨ca⟩,args:= #[]}]∧
  Wp C g none rest (fun e2 a2 s2=>(e2= .normal∨e2= .ret)∧a2.defers=[]∧bN P (results fn a.tmps) s2 (fun v s3=>∃s0,s0.le s3∧R (.returned v) s0) (fun _ _=>False)) (A gn.ntmps (upd (some t) .nilIface (fU 0 ca)) []) s
theorem GR(hC:∀main T,C main T→Closed P main T){fn:Func}{c:Code}{gid:FuncId}{gn:Func}{t:Tmp}{rc:Code}(hf:P.funcs[f]?=some fn) (hb:fn.body=some c) (hn:fn.ntmps=n) (hl:Nat.ble args.length n=true)
 (ael:H7 P gid=some (gn,t,rc)) (h:Wp C f none c (Uh C P fn gid gn t rc R) (A n (fU 0 args) []) s):Fn C P f ⟨args⟩ s R:=by
 intro main T hT cl cs k1 k2
 have iM:=hC main T hT
 let b:Frame:={(default:Frame) with fn:=f,kind:= .normal,roundOf:=none}
 have ij:Frame.enter P f ⟨args⟩ .normal=aJ b (A n (fU 0 args) []) [.code c]:=by
  rw[←kO args n (Nat.le_of_ble_eq_true hl)]
  simp[Frame.enter,aJ,hf,hb,hn,b]
 rw[ij]
 obtain⟨hgf,As,HK,id,o,at_,hgb,h1,h2,h3⟩:=(Vt ael).ex
 have ff:FF P gid:=⟨gn,hgf,HK,by rw[hgb];rfl⟩
 have rV:∀(todo:List Item) (a':Act) (s':St) (ca:List Value),Nat.ble ca.length gn.ntmps=true→a'.defers=[{target:= .fn (.func gid) ⟨ca⟩,args:= #[]}]→
  Wp C gid none rc (fun e2 a2 s2=>(e2= .normal∨e2= .ret)∧a2.defers=[]∧bN P (results fn a'.tmps) s2 (fun v s3=>∃s0,s0.le s3∧R (.returned v) s0) (fun _ _=>False)) (A gn.ntmps (upd (some t) .nilIface (fU 0 ca)) []) s'→
  T (G {aJ b a' todo with mode:= .returning} (cl::cs)) s':=by
  intro todo a' s' ca hlc hd hw
  refine jB hC hT (.inl rfl) ff (ds:=[]) (a:= #[]) (ca:=⟨ca⟩) hd ?_
  let d:Frame:={(default:Frame) with fn:=gid,kind:= .deferred,roundOf:=none}
  have alC:Frame.enter P gid ((#[]:Array Value)++⟨ca⟩) .deferred=aJ d (A gn.ntmps (fU 0 ca) []) [.code (.seq (.region id #[o] false) rc)]:=by
   rw[←kO ca gn.ntmps (Nat.le_of_ble_eq_true hlc)]
   simp[Frame.enter,aJ,hgf,hgb,d]
  rw[alC]
  let c0:Frame:={aJ b a' todo with mode:= .returning,defers:=[]}
  show T (G _ (c0::cl::cs)) s'
  refine iM.go rfl rfl (g':=G (aJ d (A gn.ntmps (fU 0 ca) []) [.code (.region id #[o] false),.code rc]) (c0::cl::cs)) (fun w=>by simp[G,stepG,stepG.exec,aJ])<|iM.go rfl rfl (g':=G (aJ d (A gn.ntmps (fU 0 ca) []) [.inRegion #[o] [0],.code rc]) (c0::cl::cs)) (fun w=>by simp[G,stepG,stepG.exec,aJ,List.range,List.range.loop])<|zy hC hT (u:= .ret) (ρ:=fun _=>none) rfl rfl h1 h2 h3 .ret fun v' nt hv Tp=>?_
  have hv':v'= .nilIface:=by
   rcases hv with hv|hv
   ·cases hv;rfl
   exact hv.2
  subst hv'
  refine iM.go rfl rfl (g':=G (aJ d ((A gn.ntmps (fU 0 ca) []).put (some t) .nilIface) [.code rc]) ({c0 with mode:=nt}::cl::cs)) (fun w=>by simp[G,stepG,stepG.exec,aJ]) ?_
  rw[aV]
  have Pv:∀tmps,results gn tmps=Sem.pure (.tuple #[]):=by intro tmps;simp[results,As];rfl
  have xT:∀(UY:List Item) (a2:Act) (s2:St),a2.defers=[]→bN P (results fn a'.tmps) s2 (fun v s3=>∃s0,s0.le s3∧R (.returned v) s0) (fun _ _=>False)→T (G {aJ d a2 UY with mode:= .returning} ({c0 with mode:=nt}::cl::cs)) s2:=by
   intro UY a2 s2 hd2 vX
   have mv:T (G c0 (cl::cs)) s2:=sC hC hT hf rfl rfl rfl rfl vX k1
   refine iM.go rfl rfl (fun w=>?_) mv
   rcases Tp with rfl| ⟨v,rfl⟩
   ·simp only[G,stepG,unwind,aJ,d,hgf,Pv,Sem.runT,sB,hd2]
    simp[GStep.after,doReturn,c0,aJ]
   simp only[G,stepG,unwind,aJ,d,hgf,Pv,Sem.runT,sB,hd2]
   simp[GStep.after,doReturn,c0,aJ]
  refine hw main T hT d [] _ rfl (by simp[d]) rfl fun e2 a2 s2 q=>?_
  obtain⟨q1,q2,q3⟩:=q
  rcases q1 with rfl|rfl
  ·exact iM.go rfl rfl (g':=G {aJ d a2 [] with mode:= .returning} ({c0 with mode:=nt}::cl::cs)) (fun w=>by simp[G,stepG,stepG.exec,aJ,d]) (xT _ _ _ q2 q3)
  exact fun UY=>iM.go rfl rfl (g':=G {aJ d a2 (.code .ret::UY) with mode:= .returning} ({c0 with mode:=nt}::cl::cs)) (fun w=>by simp[G,stepG,stepG.exec,aJ,d]) (xT _ _ _ q2 q3)
 refine h main T hT b [] (cl::cs) rfl (by simp[b]) rfl fun e a' s' q=>?_
 obtain⟨q1,ca,q0,q2,q3⟩:=q
 rcases q1 with rfl|rfl
 ·exact iM.go rfl rfl (g':=G {aJ b a' [] with mode:= .returning} (cl::cs)) (fun w=>by simp[G,stepG,stepG.exec,aJ,b]) (rV _ _ _ ca q0 q2 q3)
 exact fun todo=>iM.go rfl rfl (g':=G {aJ b a' (.code .ret::todo) with mode:= .returning} (cl::cs)) (fun w=>by simp[G,stepG,stepG.exec,aJ,b]) (rV _ _ _ ca q0 q2 q3)
end rules
section rules
variable {P:Program} {C:Class} {fn:FuncId} {az:Option Nat} {Q:Post} {s:St} {n:Nat} {env:Env} {D:List Deferred}
variable {ops:Array Oper} {i:Nat} {rest:List Nat} {dst:Option Tmp} {ty:TypeId} {pos:String} {cZ:Array Edge} {g:Option (Nat×Bool)}
variable {T:TypeId} {sz bw:Nat} {z:List Value} {ag:Bool}
theorem aj4(hC:∀main T,C main T→Closed P main T){a:Option Addr}{l c:Nat}(ho:ops[i]?=some ⟨dst,.binOp .eql T x y T',ty,pos,cZ,g⟩) (hw:ax ops n env g=true) (tf:TF P T (.slice E) sz bw z ag)
 (hx:bh n env x=some (.slice a l c)) (hy:bh n env y=some (.slice none 0 0)) (h:ab C fn az ops rest Q (A n (upd dst (.bool a.isNone) env) D) s):ab C fn az ops (i::rest) Q (A n env D) s:=by
 refine bR hC ho hw (by simp) ?_
 have hg:eqGuard .eql T x y (.slice a l c) (.slice none 0 0)=Sem.pure ():=by cases a<;>rfl
 have hb:binOp .eql T (.slice a l c) (.slice none 0 0)=(Op.equal T (.slice a l c) (.slice none 0 0) >>= fun r=>pure (.bool r)):=by cases a<;>rfl
 have he:∀ {α:Type} (K:Bool→Sem α) (Q:α→St→Prop) (E:Halt→St→Prop),bN P (K a.isNone) s Q E→bN P (Op.equal T (.slice a l c) (.slice none 0 0) >>= K) s Q E:=by
  intro α K Q E hK
  have gen:∀d,bN P (Op.equalIn (d+1) T (.slice a l c) (.slice none 0 0) >>= K) s Q E:=by
   intro d
   cases a<;>(simp only[Op.equalIn,aa,aX tf,ae,Option.isNone];exact hK)
  exact gen 9999
 simp only[execOp,aD hx,aD hy,hg,hb]
 show bN P ((Op.equal T (.slice a l c) (.slice none 0 0) >>= fun r=>(pure (Value.bool r):Sem Value)) >>= fun x=>(pure (Next.value x):Sem Next)) s _ _
 simp only[aa]
 refine he _ _ _ ?_
 rw[←aV] at h
 exact h
end rules
def acf:Op→Option (List Operand)
 | .move x=>some [x]
 | .assign x=>some [x]
 | .extract x _=>some [x]
 | .nilCheck x=>some [x]
 | .fieldAddr _ x _=>some [x]
 | .makeInterface _ x=>some [x]
 | .indexAddr _ x y=>some [x,y]
 |op=>FB op
theorem Ox{xs:List Operand}(h:acf o.op=some xs){f g:Operand→Value}(hfg:∀x∈xs,f x=g x):execOp f o=execOp g o:=by
 unfold acf at h
 split at h
 all_goals first
  | (rename_i heq;simp only[Option.some.injEq] at h;subst h;simp[execOp,heq,hfg];done)
  |exact tH h hfg
def evj(n:Nat)(e:Env)(x:Operand):Value:=(bh n e x).getD undef
theorem MC{f:Operand→Value}(hf:Ev n e f):∀ {xs:List Operand} {vs:List Value},xN n e xs=some vs→∀x∈xs,f x=evj n e x
 |y::l,vs,h,x,hx=>by
  simp only[xN] at h
  cases hv:bh n e y with
  |none=>rw[hv] at h;cases h
  |some v=>
   rw[hv] at h
   cases hr:xN n e l with
   |none=>rw[hr] at h;cases h
   |some r=>
    rcases List.mem_cons.1 hx with rfl|hx
    ·rw[hf _ _ hv,evj,hv];rfl
    exact MC hf hr x hx
def aqf(P:Program)(n:Nat)(e:Env)(o:Oper):Option Value:=
 match acf o.op with
 |some xs=>match xN n e xs with
  |some _=>match bn P (execOp (evj n e) o) with
   |some (.value v)=>some v
   |_=>none
  |none=>none
 |none=>none
def azR(P:Program)(n:Nat)(e:Env)(x:Operand)(T:TypeId):Option Value:=
 match aW P T with
 |some ⟨.slice _,_,_,_⟩=>match bh n e x with
  |some (.slice _ len _)=>some (.int .i64 len)
  |_=>none
 |some ⟨.string,_,_,_⟩=>match bh n e x with
  |some (.string b)=>some (.int .i64 b.size)
  |_=>none
 |_=>none
def Up(P:Program)(n:Nat)(e:Env)(T:TypeId)(ps:Array (Nat×Operand)):Option Value:=
 match aW P T with
 |some ⟨.struct fields,_,z,_⟩=>match wX P fields.toList with
  |some pl=>match Nq n e ps.toList with
   |some pv=>match oJ (fun i=>pl[i]?) z (tJ pv) with
    |some l=>some (.agg ⟨l⟩)
    |none=>none
   |none=>none
  |none=>none
 |some ⟨.array _ E,_,z,_⟩=>match aW P E with
  |some te=>match Nq n e ps.toList with
   |some pv=>match oJ (fun i=>some (i*te.size,te.size)) z (tJ pv) with
    |some l=>some (.agg ⟨l⟩)
    |none=>none
   |none=>none
  |none=>none
 |_=>none
def aa6(P:Program)(n:Nat)(e:Env)(o:Oper):Option Value:=
 match o.op with
 | .pick c x y=>match bh n e c with
  |some (.bool true)=>bh n e x
  |some (.bool false)=>bh n e y
  |_=>none
 | .makeFunc f x y=>match xN n e x.toList with
  |some x'=>match xN n e y.toList with
   |some y'=>some (.func f ⟨x'⟩ ⟨y'⟩)
   |none=>none
  |none=>none
 | .build T ps=>Up P n e T ps
 | .call ⟨.builtin .len,⟨[x]⟩,⟨[T]⟩⟩=>azR P n e x T
 |_=>aqf P n e o
section val
variable {P:Program} {n:Nat} {e:Env} {o:Oper} {s:St} {v:Value}
theorem ajA(h:aqf P n e o=some v):Yields P n e o s v:=by
 unfold aqf at h
 split at h<;>try (cases h;done)
 rename_i xs hx
 split at h<;>try (cases h;done)
 rename_i vs Eb
 split at h<;>try (cases h;done)
 rename_i w hr
 cases h
 intro s' _ f hf K E hK
 rw[Ox hx (MC hf Eb)]
 exact ov hr hK
theorem ZS{ps:Array (Nat×Operand)}(heq:o.op= .build T ps)(h:Up P n e T ps=some v):Yields P n e o s v:=by
 unfold Up at h
 split at h<;>try (cases h;done)
 ·rename_i fields _ z _ dM
  obtain⟨bw,tf⟩:=av dM
  split at h<;>try (cases h;done)
  rename_i pl Px
  split at h<;>try (cases h;done)
  rename_i pv Is
  split at h<;>try (cases h;done)
  rename_i l hl
  cases h
  intro s' ni f hf K E hK
  simp only[execOp,heq,Instr.build,aa,j5 tf,aX tf,dY tf]
  rw[Array.mapM_eq_mapM_toList]
  simp only[map_eq_pure_bind,aa,ae]
  rw[nZ (yx Px)]
  rw[kG] at hl
  have h1:=fill_eq _ _ _ _ hl
  have h3:(fun x=>(pl.toArray)[x]?:Nat→Option (Nat×Nat))=fun i=>pl[i]?:=by funext i;simp
  simp only[h3,hf.vD Is,h1,ae]
  exact hK
 rename_i len E _ z _ dM
 obtain⟨bw,tf⟩:=av dM
 split at h<;>try (cases h;done)
 rename_i te tV
 obtain⟨AX,qM⟩:=av tV
 split at h<;>try (cases h;done)
 rename_i pv Is
 split at h<;>try (cases h;done)
 rename_i l hl
 cases h
 intro s' ni f hf K E hK
 simp only[execOp,heq,Instr.build,aa,j5 tf,aX tf,dY tf,cd qM]
 rw[kG] at hl
 have h1:=fill_eq _ _ _ _ hl
 simp only[hf.vD Is,h1,ae]
 exact hK
theorem zq(h:aa6 P n e o=some v):Yields P n e o s v:=by
 unfold aa6 at h
 split at h
 ·rename_i c x y heq
  split at h<;>try (cases h;done)
  ·rename_i hc
   intro s' _ f hf K E hK
   simp only[execOp,heq,hf _ _ hc,hf _ _ h]
   exact hK
  rename_i hc
  intro s' _ f hf K E hK
  simp only[execOp,heq,hf _ _ hc,hf _ _ h]
  exact hK
 ·rename_i g x y heq
  split at h<;>try (cases h;done)
  rename_i x' hx
  split at h<;>try (cases h;done)
  rename_i y' hy
  cases h
  intro s' _ f hf K E hK
  simp only[execOp,heq,hf.arr hx,hf.arr hy]
  exact hK
 ·rename_i T ps heq;exact ZS heq h
 ·rename_i x T heq
  unfold azR at h
  split at h<;>try (cases h;done)
  ·rename_i dM
   obtain⟨bw,tf⟩:=av dM
   split at h<;>try (cases h;done)
   rename_i hx
   cases h
   intro s' _ f hf K E hK
   simp only[execOp,heq,resolve,invoke,builtin,Builtin.len_,List.map_toArray,List.map_cons,List.map_nil,hf _ _ hx,ae,List.getElem?_toArray,List.getElem?_cons_zero,aX tf,aa]
   exact hK
  rename_i dM
  obtain⟨bw,tf⟩:=av dM
  split at h<;>try (cases h;done)
  rename_i hx
  cases h
  intro s' _ f hf K E hK
  simp only[execOp,heq,resolve,invoke,builtin,Builtin.len_,List.map_toArray,List.map_cons,List.map_nil,hf _ _ hx,ae,List.getElem?_toArray,List.getElem?_cons_zero,aX tf,aa]
  exact hK
 exact ajA h
end val
def ldv(P:Program)(T:TypeId)(l:List Value)(off:Nat):Option Value:=
 match aW P T with
 |some ti=>bif ti.agg then (match sub l off ti.size with
  |some vs=>some (.agg ⟨vs⟩)
  |none=>none) else nth l off
 |none=>none
theorem adl{v:Value}{b:Nat}{t:TypeId}(heq:o.op= .load T x)(hx:bh n e x=some (.pointer (some ⟨b,off,none⟩)))(hb:s.has b (.cells ⟨l⟩ t fz))(h:ldv P T l off=some v):Yields P n e o s v:=by
 unfold ldv at h
 split at h<;>try (cases h;done)
 rename_i ti dM
 obtain⟨bw,tf⟩:=av dM
 intro s' hs f hf K E hK
 cases ha:ti.agg with
 |true=>
  rw[ha] at h tf
  simp only[cond_true] at h
  split at h<;>try (cases h;done)
  rename_i vs Eb
  cases h
  simp only[execOp,heq,Instr.loadAt,hf _ _ hx,Instr.sureAddr,loadVar,aa,ae,kA tf,if_true,cd tf]
  exact iO ⟨_,_,_,hs _ _ hb,Eb⟩ hK
 |false=>
  rw[ha] at h tf
  simp only[cond_false] at h
  simp only[execOp,heq,Instr.loadAt,hf _ _ hx,Instr.sureAddr,loadVar,aa,ae,kA tf,Bool.false_eq_true,if_false]
  exact vo ⟨_,_,_,hs _ _ hb,h⟩ hK
theorem arn{v:Value}{b m:Nat}(k:Nat)(heq:o.op= .load T x)(hx:bh n e x=some (.pointer (some ⟨b,off+k,none⟩)))(hb:cy s b off m l)(h:ldv P T l k=some v):Yields P n e o s v:=by
 unfold ldv at h
 split at h<;>try (cases h;done)
 rename_i ti dM
 obtain⟨bw,tf⟩:=av dM
 intro s' hs f hf K E hK
 cases ha:ti.agg with
 |true=>
  rw[ha] at h tf
  simp only[cond_true] at h
  split at h<;>try (cases h;done)
  rename_i vs Eb
  cases h
  simp only[execOp,heq,Instr.loadAt,hf _ _ hx,Instr.sureAddr,loadVar,aa,ae,kA tf,if_true,cd tf]
  exact iO ((hb.ext hs).part k ti.size Eb) hK
 |false=>
  rw[ha] at h tf
  simp only[cond_false] at h
  simp only[execOp,heq,Instr.loadAt,hf _ _ hx,Instr.sureAddr,loadVar,aa,ae,kA tf,Bool.false_eq_true,if_false]
  exact vo ((hb.ext hs).cell k v (by rw[←rO];exact h)) hK
structure Cx where
 P:Program
 C:Class
 hC:∀main T,C main T→Closed P main T
 hm:P.follows .mixedOrders=true
 fn:FuncId
 az:Option Nat
 n:Nat
 D:List Deferred
 ro:Nat→Option Obj
 Q:Post
variable {X X1:Cx}
def Cx.at(X:Cx)(ro:Nat→Option Obj):Cx:={X with ro:=ro}
inductive KI where
 |seq (b:Code)
 |block (id:Nat)
 |next (K:Act→St→Prop)
inductive Sg where
 |b (i:Nat) (o:Obj)
 |l (L:Cells)
def den:List Sg→Cells
 | []=>[]
 | [.l L]=>L
 | .b i o::r=>(i,o)::den r
 | .l L::r=>L++den r
theorem iI(i:Nat)(o:Obj)(r:List Sg):den (.b i o::r)=(i,o)::den r:=by cases r<;>rfl
theorem gE(L:Cells)(r:List Sg):den (.l L::r)=L++den r:=by cases r<;>simp[den]
inductive Pos where
 |ops (ops:Array Oper) (todo:List Nat) (k:List KI)
 |code (c:Code) (k:List KI)
 |nxt (K:Act→St→Prop)
 |G4 (ops:Array Oper) (base:Env) (Pl Sl:List (Nat×Value)) (k:List KI)
 |fin (e:Exit)
structure Kn where
 c:Cells
 nd:List (Nat×Cells)
variable {kn:Kn}
structure JS where
 pos:Pos
 env:Env
 rw:List Sg
 kn:Kn
variable {s':JS}
def KQ(X:Cx):List KI→Post
 | []=>X.Q
 | .seq b::k=>lQ (fun a s=>Wp X.C X.fn X.az b (KQ X k) a s) (KQ X k)
 | .block id::k=>qF id (KQ X k)
 | .next K::k=>lQ K (KQ X k)
def C7:Op→Bool
 | .load .. =>false
 | .lookup .. =>false
 | .call ⟨.value _,_,_⟩=>false
 | .call ⟨.invoke ..,_,_⟩=>false
 |_=>true
def we(ops:Array Oper)(n:Nat)(e:Env):Option (Nat×Bool)→Option Bool
 |none=>some true
 |some (j,want)=>match aP ops j with
  |some d=>match bh n e (.tmp d) with
   |some (.bool true)=>some want
   |some (.bool false)=>some (!want)
   |some (.tuple ⟨[]⟩)=>some false
   |_=>none
  |none=>none
def sD(ops:Array Oper)(n:Nat)(base:Env)(Pl:List (Nat×Value))(j:Nat):Bool:=match ops[j]? with
 |some p=>C7 p.op||(match we ops n (cg ops base j Pl) p.guard with
  |some false=>true
  |_=>false)
 |none=>false
def PF(X:Cx)(nd:List (Nat×Cells))(ops:Array Oper)(base:Env)(Pl Sl:List (Nat×Value)):Prop:=
 (∀j u,(j,u)∈Sl→sD ops X.n base Pl j=true→∀s,eT X.C X.fn X.az ops X.n X.D j u (cg ops base j Pl) s)∧
 ∀j u B,(j,u)∈Sl→(j,B)∈nd→∀s,Ext ⟨X.ro,[]⟩ s→(∀x∈B,s.has x.1 x.2)→eT X.C X.fn X.az ops X.n X.D j u (cg ops base j Pl) s
def ndK:List (Nat×Cells)→List Nat
 | []=>[]
 | (i,_)::l=>i::ndK l
theorem LG:∀ {l:List (Nat×Cells)},(i,B)∈l→i∈ndK l
 | (j,C)::l,h=>by
  simp only[ndK]
  rcases List.mem_cons.1 h with h|h
  ·cases h;exact List.mem_cons_self
  exact List.mem_cons_of_mem _ (LG h)
def JP(X:Cx)(kn:Kn)(e:Env)(w:List Sg):Pos→Prop
 | .ops ops todo k=>ab X.C X.fn X.az ops todo (KQ X k) (A X.n e X.D) ⟨X.ro,den w⟩
 | .code c k=>Wp X.C X.fn X.az c (KQ X k) (A X.n e X.D) ⟨X.ro,den w⟩
 | .nxt K=>K (A X.n e X.D) ⟨X.ro,den w⟩
 | .G4 ops base Pl Sl k=>PF X kn.nd ops base Pl Sl→td X.C X.fn X.az ops X.n X.D base Pl Sl (KQ X k) ⟨X.ro,den w⟩
 | .fin e'=>X.Q e' (A X.n e X.D) ⟨X.ro,den w⟩
def J(X:Cx):Option JS→Prop
 |none=>False
 |some s=>Knows X.ro s.kn.c→JP X s.kn s.env s.rw s.pos
def Oz:List KI→Pos
 | []=> .fin .normal
 | .seq b::k=> .code b k
 | .block _::k=>Oz k
 | .next K::_=> .nxt K
theorem tI{w:List Sg}:∀ {k:List KI},JP X kn e w (Oz k)→KQ X k .normal (A X.n e X.D) ⟨X.ro,den w⟩
 | [],h=>h
 | .seq _::_,h=>h
 | .block _::k,h=>tI (k:=k) h
 | .next _::_,h=>h
def AM(id:Nat):List KI→Option Pos
 | []=>some (.fin (.exit id))
 | .seq _::k=>AM id k
 | .block i::k=>bif Nat.beq id i then some (Oz k) else AM id k
 | .next _::k=>AM id k
theorem wu{w:List Sg}{p:Pos}:∀ {k:List KI},AM id k=some p→JP X kn e w p→KQ X k (.exit id) (A X.n e X.D) ⟨X.ro,den w⟩
 | [],h,hj=>by simp only[AM,Option.some.injEq] at h;subst h;exact hj
 | .seq _::k,h,hj=>wu (k:=k) h hj
 | .next _::k,h,hj=>wu (k:=k) h hj
 | .block i::k,h,hj=>by
  simp only[AM] at h
  cases hb:Nat.beq id i with
  |true=>
   rw[hb] at h;simp only[cond_true,Option.some.injEq] at h;subst h
   have:=Nat.eq_of_beq_eq_true hb;subst this
   exact Ds (tI hj)
  |false=>
   rw[hb] at h;simp only[cond_false] at h
   exact Dr hb (wu (k:=k) h hj)
theorem zx{a:Act}(h:X.Q .ret a s):∀(k:List KI),KQ X k .ret a s
 | []=>h
 | .seq _::k=>zx h k
 | .next _::k=>zx h k
 | .block _::k=>zx h k
def ax4:Op→Bool
 | .move _| .assign _| .pick .. | .makeFunc .. | .extract .. | .nilCheck _| .fieldAddr .. | .makeInterface .. | .indexAddr .. | .index .. | .field .. | .binOp .. | .unOp .. | .convert .. | .build .. | .load .. | .lookup .. | .slice .. =>true
 | .call ⟨.builtin .len,_,_⟩| .call ⟨.builtin .cap,_,_⟩| .call ⟨.builtin .min,_,_⟩| .call ⟨.builtin .max,_,_⟩=>true
 |_=>false
def ax5(ops:Array Oper)(i:Nat):Bool:=match ops[i]? with
 |some o=>ax4 o.op
 |none=>false
def enabled(ops:Array Oper)(ks:List Nat)(i:Nat):Bool:= !aY i ks&&fO (bk ops i) ks
def agD(f:Nat→Bool):Nat→Nat→Option Nat
 |0,_=>none
 |k+1,i=>bif f i then some i else agD f k (i+1)
def amo(ops:Array Oper)(ks:List Nat):Option Nat:=
 match agD (fun i=>enabled ops ks i&&ax5 ops i) ops.size 0 with
 |some i=>some i
 |none=>agD (enabled ops ks) ops.size 0
def qt(n:Nat):JS→Option (Bool×Oper×Env)
 | ⟨.ops ops (i::_) _,e,_,_⟩=>match ops[i]? with
  |some o=>match we ops n e o.guard with
   |some g=>some (g,o,e)
   |none=>none
  |none=>none
 | ⟨.G4 ops base Pl _ _,_,_,_⟩=>match amo ops (aj Pl) with
  |some i=>match ops[i]? with
   |some o=>match we ops n (cg ops base i Pl) o.guard with
    |some g=>some (g,o,cg ops base i Pl)
    |none=>none
   |none=>none
  |none=>none
 |_=>none
def Fz(v:Value):JS→Option JS
 | ⟨.ops ops (i::todo) k,e,w,kn⟩=>match ops[i]? with
  |some o=>some ⟨.ops ops todo k,upd o.dst v e,w,kn⟩
  |none=>none
 | ⟨.G4 ops base Pl Sl k,e,w,kn⟩=>match amo ops (aj Pl) with
  |some i=>bif !aY i (aj Pl)&&(fO (bk ops i) (aj Pl)&&(oV ops (aj Pl)&&(fO (aj Sl) (aj Pl)&& !aY i (ndK kn.nd)))) then some ⟨.G4 ops base ((i,v)::Pl) ((i,v)::Sl) k,e,w,kn⟩ else none
  |none=>none
 |_=>none
theorem nN{ops:Array Oper}{g:Option (Nat×Bool)}(h:we ops n e g=some true)(rest:Env):ax ops n (e++rest) g=true:=by
 unfold we at h
 split at h
 ·rfl
 rename_i j want
 split at h<;>try (cases h;done)
 rename_i d hd
 have hd:(ops[j]?).bind (·.dst)=some d:=hd
 split at h<;>try (cases h;done)
 ·rename_i hb;simp only[Option.some.injEq] at h;subst h
  exact tw hd (aZ hb) rfl
 rename_i hb;simp only[Option.some.injEq,Bool.not_eq_true'] at h;subst h
 exact tw hd (aZ hb) rfl
section
variable {X:Cx}
theorem yU{ops:Array Oper}{Q:Post}(ho:ops[i]?=some o) (h:we ops X.n e o.guard=some false) (rest:Env) (hk:ab X.C X.fn X.az ops todo Q (A X.n (upd o.dst undef (e++rest)) X.D) s):ab X.C X.fn X.az ops (i::todo) Q (A X.n (e++rest) X.D) s:=by
 unfold we at h
 split at h
 ·cases h
 rename_i j want hg
 split at h<;>try (cases h;done)
 rename_i d hd
 have hd:(ops[j]?).bind (·.dst)=some d:=hd
 split at h<;>try (cases h;done)
 ·rename_i hb;simp only[Option.some.injEq] at h;subst h
  exact tP X.hC ho hg hd (aZ hb) rfl hk
 ·rename_i hb;simp only[Option.some.injEq,Bool.not_eq_false'] at h;subst h
  exact tP X.hC ho hg hd (aZ hb) rfl hk
 rename_i hb
 rcases o with ⟨dst,op,ty,pos,cZ,g⟩
 dsimp only at hg;subst hg
 exact aj5 X.hC ho hd (aZ hb) hk
def Hy(X:Cx)(e:Env)(o:Oper)(s:St)(v:Value):Prop:=
 ∀(ops:Array Oper) (i:Nat),ops[i]?=some o→∀rest,ax ops X.n (e++rest) o.guard=true→∀s',Ext s s'→∀todo Q,ab X.C X.fn X.az ops todo Q (A X.n (upd o.dst v (e++rest)) X.D) s'→ab X.C X.fn X.az ops (i::todo) Q (A X.n (e++rest) X.D) s'
theorem jyS{s:JS}{v:Value}(hh:qt X.n s=some (g,o,e))(hp:Fz v s=some s')
 (hv:match g with|true=>(Knows X.ro s.kn.c→Hy X e o ⟨X.ro,den s.rw⟩ v)∧(C7 o.op=true→∀s,Hy X e o s v)|false=>v=undef)(hj:J X (some s')):J X (some s):=by
 intro bV
 rcases s with ⟨p,e0,w,kn⟩
 cases p with
 |ops ops todo k=>
  cases todo with
  |nil=>cases hh
  |cons i todo=>
   simp only[qt] at hh
   split at hh<;>try (cases hh;done)
   rename_i o1 ho
   split at hh<;>try (cases hh;done)
   rename_i g1 hg
   cases hh
   simp only[Fz,ho,Option.some.injEq] at hp;subst hp
   have hk:ab X.C X.fn X.az ops todo (KQ X k) (A X.n (upd o.dst v e) X.D) ⟨X.ro,den w⟩:=hj bV
   show ab X.C X.fn X.az ops (i::todo) (KQ X k) (A X.n e X.D) ⟨X.ro,den w⟩
   cases g with
   |true=>
    have:=hv.1 bV ops i ho [] (nN hg []) _ (Ext.refl _) todo (KQ X k)
    rw[List.append_nil] at this
    exact this hk
   |false=>
    dsimp only at hv;subst hv
    have:=yU (Q:=KQ X k) (s:=⟨X.ro,den w⟩) (todo:=todo) ho hg []
    rw[List.append_nil] at this
    exact this hk
 |G4 ops base Pl Sl k=>
  simp only[qt] at hh
  split at hh<;>try (cases hh;done)
  rename_i i hi
  split at hh<;>try (cases hh;done)
  rename_i o1 ho
  split at hh<;>try (cases hh;done)
  rename_i g1 hg
  cases hh
  simp only[Fz,hi] at hp
  cases hc:(!aY i (aj Pl)&&(fO (bk ops i) (aj Pl)&&(oV ops (aj Pl)&&(fO (aj Sl) (aj Pl)&& !aY i (ndK kn.nd))))) with
  |false=>rw[hc] at hp;cases hp
  |true=>
   rw[hc] at hp;simp only[cond_true,Option.some.injEq] at hp;subst hp
   simp only[Bool.and_eq_true,Bool.not_eq_true'] at hc
   have Ee:aP ops i=o.dst:=by simp only[aP,ho,Option.bind_some]
   intro hpf
   have qL:∀j,j∈aj Sl→i∉bk ops j:=fun j hj hd=>by
    have h1:=bL.1 hc.2.2.2.1 j hj
    have h2:=bL.1 (List.all_eq_true.1 hc.2.2.1 j h1) i hd
    rw[aH.2 h2] at hc;exact absurd hc.1 (by simp)
   refine Hv i hc.1 hc.2.1 hc.2.2.1 hc.2.2.2.1 ?_ (hj bV ⟨fun j u HL hp s0=>?_,fun j u B HL hB s0 Gk uW=>?_⟩)
   ·intro s1 hx rest todo Q hk
    rw[Ee] at hk
    cases g with
    |true=>exact hv.1 bV ops _ ho rest (nN hg rest) _ hx _ _ hk
    |false=>dsimp only at hv;subst hv;exact yU ho hg rest hk
   ·have hii:i∉bk ops i:=fun hd=>by
     have h2:=bL.1 hc.2.1 i hd
     rw[aH.2 h2] at hc;exact absurd hc.1 (by simp)
    rcases List.mem_cons.1 HL with h1|h1
    ·obtain⟨zf,rfl⟩:=Prod.mk.inj h1
     subst zf
     rw[cQ hii]
     intro s1 hx rest todo Q hk
     rw[Ee] at hk
     cases g with
     |true=>
      have hpk:C7 o.op=true:=by
       simp only[sD,ho,cQ hii,hg,Bool.or_false] at hp
       exact hp
      exact hv.2 hpk s0 ops _ ho rest (nN hg rest) _ hx _ _ hk
     |false=>dsimp only at hv;subst hv;exact yU ho hg rest hk
    have Np:j∈aj Sl:=aN.2 ⟨u,h1⟩
    rw[cQ (qL j Np)]
    exact hpf.1 j u h1 (by simp only[sD,cQ (qL j Np)] at hp;exact hp) s0
   rcases List.mem_cons.1 HL with h1|h1
   ·obtain⟨zf,rfl⟩:=Prod.mk.inj h1
    subst zf
    have:=LG hB
    rw[aH.2 this] at hc;exact absurd hc.2.2.2.2 (by simp)
   rw[cQ (qL j (aN.2 ⟨u,h1⟩))]
   exact hpf.2 j u B h1 hB s0 Gk uW
 |_=>cases hh
def ajU(B:Cells)(v:Value):JS→Option JS
 | ⟨.ops ops (i::todo) k,e,w,kn⟩=>match ops[i]? with
  |some o=>some ⟨.ops ops todo k,upd o.dst v e,w,kn⟩
  |none=>none
 | ⟨.G4 ops base Pl Sl k,e,w,kn⟩=>match amo ops (aj Pl) with
  |some i=>bif !aY i (aj Pl)&&(fO (bk ops i) (aj Pl)&&(oV ops (aj Pl)&&(fO (aj Sl) (aj Pl)&& !aY i (ndK kn.nd)))) then some ⟨.G4 ops base ((i,v)::Pl) ((i,v)::Sl) k,e,w,⟨kn.c,(i,B)::kn.nd⟩⟩ else none
  |none=>none
 |_=>none
theorem jyN{s:JS}{v:Value}(hh:qt X.n s=some (true,o,e))(hp:ajU B v s=some s')(hB:∀x∈B,(⟨X.ro,den s.rw⟩:St).has x.1 x.2)(hnp:C7 o.op=false)
 (hv:∀s0,Ext ⟨X.ro,[]⟩ s0→(∀x∈B,s0.has x.1 x.2)→Hy X e o s0 v)(hj:J X (some s')):J X (some s):=by
 intro bV
 rcases s with ⟨p,e0,w,kn⟩
 cases p with
 |ops ops todo k=>
  have:Fz v ⟨.ops ops todo k,e0,w,kn⟩=some s':=by
   cases todo with
   |nil=>cases hh
   |cons i todo=>exact hp
  exact jyS hh this ⟨fun _=>hv _ MA hB,fun h=>by rw[hnp] at h;cases h⟩ hj bV
 |G4 ops base Pl Sl k=>
  simp only[qt] at hh
  split at hh<;>try (cases hh;done)
  rename_i i hi
  split at hh<;>try (cases hh;done)
  rename_i o1 ho
  split at hh<;>try (cases hh;done)
  rename_i g1 hg
  cases hh
  simp only[ajU,hi] at hp
  cases hc:(!aY i (aj Pl)&&(fO (bk ops i) (aj Pl)&&(oV ops (aj Pl)&&(fO (aj Sl) (aj Pl)&& !aY i (ndK kn.nd))))) with
  |false=>rw[hc] at hp;cases hp
  |true=>
   rw[hc] at hp;simp only[cond_true,Option.some.injEq] at hp;subst hp
   simp only[Bool.and_eq_true,Bool.not_eq_true'] at hc
   have Ee:aP ops i=o.dst:=by simp only[aP,ho,Option.bind_some]
   intro hpf
   have qL:∀j,j∈aj Sl→i∉bk ops j:=fun j hj hd=>by
    have h1:=bL.1 hc.2.2.2.1 j hj
    have h2:=bL.1 (List.all_eq_true.1 hc.2.2.1 j h1) i hd
    rw[aH.2 h2] at hc;exact absurd hc.1 (by simp)
   have hii:i∉bk ops i:=fun hd=>by
    have h2:=bL.1 hc.2.1 i hd
    rw[aH.2 h2] at hc;exact absurd hc.1 (by simp)
   have bS:∀s0,Ext ⟨X.ro,[]⟩ s0→(∀x∈B,s0.has x.1 x.2)→eT X.C X.fn X.az ops X.n X.D i v (cg ops base i Pl) s0:=by
    intro s0 Gk uW s1 hx rest todo Q hk
    rw[Ee] at hk
    exact hv s0 Gk uW ops _ ho rest (nN hg rest) _ hx _ _ hk
   have aQa:sD ops X.n base ((i,v)::Pl) i=false:=by
    simp only[sD,ho,hnp,cQ hii,hg,Bool.or_false]
   refine Hv i hc.1 hc.2.1 hc.2.2.1 hc.2.2.2.1 (bS _ MA hB) (hj bV ⟨fun j u HL hp s0=>?_,fun j u B' HL hB' s0 Gk uW=>?_⟩)
   ·rcases List.mem_cons.1 HL with h1|h1
    ·obtain⟨zf,rfl⟩:=Prod.mk.inj h1
     subst zf
     rw[aQa] at hp;cases hp
    have Np:j∈aj Sl:=aN.2 ⟨u,h1⟩
    rw[cQ (qL j Np)]
    exact hpf.1 j u h1 (by simp only[sD,cQ (qL j Np)] at hp;exact hp) s0
   rcases List.mem_cons.1 HL with h1|h1
   ·obtain⟨zf,rfl⟩:=Prod.mk.inj h1
    subst zf
    rw[cQ hii]
    rcases List.mem_cons.1 hB' with h2|h2
    ·cases h2;exact bS s0 Gk uW
    have:=LG h2
    rw[aH.2 this] at hc;exact absurd hc.2.2.2.2 (by simp)
   have Np:j∈aj Sl:=aN.2 ⟨u,h1⟩
   rw[cQ (qL j Np)]
   rcases List.mem_cons.1 hB' with h2|h2
   ·obtain⟨zf,rfl⟩:=Prod.mk.inj h2
    subst zf
    have h3:=bL.1 hc.2.2.2.1 _ Np
    rw[aH.2 h3] at hc;exact absurd hc.1 (by simp)
   exact hpf.2 j u B' h1 h2 s0 Gk uW
 |_=>cases hh
theorem jy{s:JS}{v:Value}(hh:qt X.n s=some (g,o,e))(hp:Fz v s=some s')
 (hv:match g with|true=>ez o.op=true∧(Knows X.ro s.kn.c→Yields X.P X.n e o ⟨X.ro,den s.rw⟩ v)∧(C7 o.op=true→∀s,Yields X.P X.n e o s v)|false=>v=undef)(hj:J X (some s')):J X (some s):=by
 refine jyS hh hp ?_ hj
 cases g with
 |true=>exact⟨fun bV ops i ho rest hw s' hx todo Q hk=>lJ X.hC ho rest hw hv.1 (hv.2.1 bV) hx hk,fun hp s ops i ho rest hw s' hx todo Q hk=>lJ X.hC ho rest hw hv.1 (hv.2.2 hp s) hx hk⟩
 |false=>exact hv
end
def yy:List Sg→Nat→Option Sg
 | [],_=>none
 |x::_,0=>some x
 |_::l,i+1=>yy l i
def Sb:List Sg→Nat→Sg→List Sg
 | [],_,_=>[]
 |_::l,0,y=>y::l
 |x::l,i+1,y=>x::Sb l i y
def akc:Cells→Nat→Option (Nat×Obj)
 | [],_=>none
 |x::_,0=>some x
 |_::l,i+1=>akc l i
def AV(w:List Sg)(kn:Cells)(h:Nat):Option (Nat×List Value):=
 match yy w h with
 |some (.b b (.cells ⟨l⟩ _ _))=>some (b,l)
 |some _=>none
 |none=>match akc kn (h-64) with
  |some (b,.cells ⟨l⟩ _ _)=>some (b,l)
  |_=>none
def abB(P:Program)(n:Nat)(e:Env)(w:List Sg)(h:Nat):Op→Option (List Sg×Nat×Nat)
 | .store T x y=>match bh n e x with
  |some (.pointer (some ⟨b,off,none⟩))=>match bh n e y with
   |some v=>match yy w h with
    |some (.b b' (.cells ⟨c⟩ t (0,0)))=>match aW P T with
     |some ti=>bif Nat.beq (dV v).length ti.size&&(Nat.ble (off+(dV v).length) c.length&&(dV v).all single) then some (Sb w h (.b b' (.cells ⟨du c off (dV v)⟩ t (0,0))),b,b') else none
     |none=>none
    |_=>none
   |none=>none
  |_=>none
 |_=>none
abbrev ao7:=Option (JS×List Nat×List (Nat×Nat))
def au5(n:Nat)(e:Env)(k:List KI):Code→Option Pos
 | .skip=>some (Oz k)
 | .seq a b=>some (.code a (.seq b::k))
 | .block id c=>some (.code c (.block id::k))
 | .region _ ops d=>bif d then (bif yZ ops then some (.G4 ops e [] [] k) else none) else some (.ops ops (List.range ops.size) k)
 | .exit id=>AM id k
 | .ret=>some (.fin .ret)
 | .scope c=>some (.code c k)
 | .label _=>some (Oz k)
 | .cond c a b=>match bh n e c with
  |some (.bool true)=>some (.code a k)
  |some (.bool false)=>some (.code b k)
  |_=>none
 |_=>none
def aha(ops:Array Oper)(Pl:List (Nat×Value)):Bool:=fM ops&&(nodupB (aj Pl)&&(fO (List.range ops.size) (aj Pl)&&fO (aj Pl) (List.range ops.size)))
def opJ(P:Program)(n:Nat)(hs:List Nat)(s:JS):ao7:=
 match qt n s with
 |some (g,o,e)=>bif g then (match o.op with
  | .store .. =>match s,hs with
   | ⟨.ops ops (_::todo) k,_,w,kn⟩,h::hs=>match abB P n e w h o.op with
    |some (w',b,b')=>some (⟨.ops ops todo k,upd o.dst undef e,w',kn⟩,hs,[(b,b')])
    |none=>none
   |_,_=>none
  | .load T x=>match hs with
   |h::hs=>match bh n e x with
    |some (.pointer (some ⟨b,off,none⟩))=>match AV s.rw s.kn.c h with
     |some (b',l)=>match ldv P T l off with
      |some v=>match Fz v s with
       |some s'=>some (s',hs,[(b',b)])
       |none=>none
      |none=>none
     |none=>none
    |_=>none
   | []=>none
  |_=>bif ez o.op then (match aa6 P n e o with
   |some v=>match Fz v s with
    |some s'=>some (s',hs,[])
    |none=>none
   |none=>none) else none) else (match Fz undef s with
  |some s'=>some (s',hs,[])
  |none=>none)
 |none=>none
def stepJ(P:Program)(n:Nat)(hs:List Nat)(s:JS):ao7:=
 match s.pos with
 | .ops _ [] k=>some (⟨Oz k,s.env,s.rw,s.kn⟩,hs,[])
 | .code c k=>match au5 n s.env k c with
  |some p=>some (⟨p,s.env,s.rw,⟨s.kn.c,[]⟩⟩,hs,[])
  |none=>none
 | .G4 ops base Pl _ k=>match amo ops (aj Pl) with
  |none=>bif aha ops Pl then some (⟨Oz k,iZ ops base Pl,s.rw,s.kn⟩,hs,[]) else none
  |some _=>opJ P n hs s
 |_=>opJ P n hs s
section
variable {X:Cx}
theorem zw:∀ {w:List Sg} {h b:Nat} {o:Obj},yy w h=some (.b b o)→∃L R,den w=L++(b,o)::R∧∀o',den (Sb w h (.b b o'))=L++(b,o')::R
 | [],_,_,_,h=>by cases h
 |x::w,0,b,o,h=>by
  simp only[yy,Option.some.injEq] at h;subst h
  exact⟨[],den w,by simp[iI],fun o'=>by simp[Sb,iI]⟩
 |x::w,i+1,b,o,h=>by
  obtain⟨L,R,h1,h2⟩:=zw (w:=w) (h:=i) h
  cases x with
  |b i' o1=>exact⟨(i',o1)::L,R,by simp[iI,h1],fun o'=>by simp[Sb,iI,h2]⟩
  |l L1=>exact⟨L1++L,R,by simp[gE,h1],fun o'=>by simp[Sb,gE,h2]⟩
theorem OY:∀ {l:Cells} {i:Nat} {x:Nat×Obj},akc l i=some x→x∈l
 | [],_,_,h=>by cases h
 |y::l,0,x,h=>by simp only[akc,Option.some.injEq] at h;subst h;exact List.mem_cons_self
 |y::l,i+1,x,h=>List.mem_cons_of_mem _ (OY (l:=l) h)
theorem y3{w:List Sg}{kn:Cells}{h b:Nat}(hk:Knows X.ro kn)(hc:AV w kn h=some (b,l)):∃t fz,(⟨X.ro,den w⟩:St).has b (.cells ⟨l⟩ t fz):=by
 unfold AV at hc
 split at hc
 ·rename_i hn
  cases hc
  obtain⟨L,R,h1,_⟩:=zw hn
  exact⟨_,_,.inr (by show (_,_)∈den w;rw[h1];exact fD)⟩
 ·cases hc
 split at hc<;>try (cases hc;done)
 rename_i hn
 cases hc
 exact⟨_,_,.inl (hk _ (OY hn))⟩
theorem amr{w:List Sg}{k:List KI}{c:Code}{p:Pos}(h:au5 X.n e k c=some p)(hj:JP X ⟨kn.c,[]⟩ e w p):JP X kn e w (.code c k):=by
 unfold au5 at h
 split at h
 ·cases h;exact wp_skip X.hC (tI hj)
 ·cases h;exact wp_seq X.hC hj
 ·cases h;exact wp_block X.hC hj
 ·rename_i id ops d
  cases d with
  |true=>
   simp only[cond_true] at h
   cases hd:yZ ops with
   |false=>rw[hd] at h;cases h
   |true=>
    rw[hd] at h;simp only[cond_true,Option.some.injEq] at h;subst h
    exact Z6 X.hC X.hm hd (hj ⟨fun _ _ h=>(List.not_mem_nil h).elim,fun _ _ _ h=>(List.not_mem_nil h).elim⟩)
  |false=>simp only[cond_false,Option.some.injEq] at h;subst h;exact wp_region X.hC hj
 ·exact wp_exit X.hC (wu h hj)
 ·cases h;exact wp_ret (zx hj k)
 ·cases h;exact Nz X.hC hj
 ·cases h;exact wp_label X.hC (tI hj)
 ·split at h<;>try (cases h;done)
  ·rename_i hc;cases h;exact UT X.hC hc rfl hj
  rename_i hc;cases h;exact UU X.hC hc rfl hj
 cases h
theorem acA{s:JS}{q:List (Nat×Nat)}(h:opJ X.P X.n hs s=some (s',ni,q))(hq:∀p∈q,p.1=p.2)(hj:J X (some s')):J X (some s):=by
 unfold opJ at h
 split at h<;>try (cases h;done)
 rename_i g o e hh
 cases g with
 |false=>
  simp only[cond_false] at h
  split at h<;>try (cases h;done)
  rename_i s1 hp
  cases h
  exact jy hh hp rfl hj
 |true=>
  simp only[cond_true] at h
  split at h
  ·rename_i T x y ay
   split at h<;>try (cases h;done)
   rename_i ops i todo k e1 w kn h0 hsx
   split at h<;>try (cases h;done)
   rename_i w' b b' bS
   cases h
   have Iz:b=b':=hq _ List.mem_cons_self
   subst Iz
   simp only[qt] at hh
   split at hh<;>try (cases hh;done)
   rename_i o1 ho
   split at hh<;>try (cases hh;done)
   rename_i g1 hg
   simp only[Option.some.injEq,Prod.mk.injEq] at hh
   obtain⟨rfl,rfl,rfl⟩:=hh
   intro bV
   have hj:=hj bV
   rw[ay] at bS
   simp only[abB] at bS
   split at bS<;>try (cases bS;done)
   rename_i b0 off hx
   split at bS<;>try (cases bS;done)
   rename_i v hy
   split at bS<;>try (cases bS;done)
   rename_i b1 c t hn
   split at bS<;>try (cases bS;done)
   rename_i ti dM
   cases hc:(Nat.beq (dV v).length ti.size&&(Nat.ble (off+(dV v).length) c.length&&(dV v).all single)) with
   |false=>rw[hc] at bS;cases bS
   |true=>
    rw[hc] at bS
    simp only[cond_true,Option.some.injEq,Prod.mk.injEq] at bS
    obtain⟨rfl,rfl,rfl⟩:=bS
    simp only[Bool.and_eq_true,Nat.ble_eq] at hc
    obtain⟨bw,tf⟩:=av dM
    obtain⟨L,R,h1,h2⟩:=zw hn
    rcases o1 with ⟨dst,op,ty,pos,cZ,gd⟩
    dsimp only at ay;subst ay
    have hw:=nN hg []
    rw[List.append_nil] at hw
    refine EI (v:=v) (l:=dV v) (L:=L) (R:=R) (c:=c) (e:=t) X.hC ho hw tf hx hy (by rw[mb]) (Nat.eq_of_beq_eq_true hc.1) (List.all_eq_true.1 hc.2.2) h1 hc.2.1 ?_
    have hj:ab X.C X.fn X.az ops todo (KQ X k) _ ⟨X.ro,den _⟩:=hj
    rw[h2] at hj
    exact hj
  ·rename_i T x ay
   split at h<;>try (cases h;done)
   rename_i h0 bW
   split at h<;>try (cases h;done)
   rename_i b off hx
   split at h<;>try (cases h;done)
   rename_i b' l hc
   split at h<;>try (cases h;done)
   rename_i v hv
   split at h<;>try (cases h;done)
   rename_i s1 hp
   cases h
   have Iz:b'=b:=hq _ List.mem_cons_self
   subst Iz
   refine jy hh hp ⟨by rw[ay];rfl,fun bV=>?_,fun hk=>by rw[ay] at hk;cases hk⟩ hj
   obtain⟨t,fz,hb⟩:=y3 bV hc
   exact adl ay hx hb hv
  cases hn:ez o.op with
  |false=>rw[hn] at h;cases h
  |true=>
   rw[hn] at h;simp only[cond_true] at h
   split at h<;>try (cases h;done)
   rename_i v hv
   split at h<;>try (cases h;done)
   rename_i s1 hp
   cases h
   exact jy hh hp ⟨hn,fun _=>zq hv,fun _ _=>zq hv⟩ hj
theorem abC{s:JS}{q:List (Nat×Nat)}(h:stepJ X.P X.n hs s=some (s',ni,q))(hq:∀p∈q,p.1=p.2)(hj:J X (some s')):J X (some s):=by
 unfold stepJ at h
 split at h
 ·rename_i ops k hp
  cases h
  rcases s with ⟨p,e,w,kn⟩
  dsimp only at hp;subst hp
  exact fun bV=>tM X.hC (tI (hj bV))
 ·rename_i c k hp
  rcases s with ⟨p,e,w,kn⟩
  dsimp only at hp;subst hp
  split at h<;>try (cases h;done)
  rename_i p hc
  cases h
  exact fun bV=>amr hc (hj bV)
 ·rename_i ops base Pl Sl k hp
  split at h
  ·cases hd:aha ops Pl with
   |false=>rw[hd] at h;cases h
   |true=>
    rw[hd] at h;simp only[cond_true,Option.some.injEq,Prod.mk.injEq] at h
    obtain⟨rfl,rfl,rfl⟩:=h
    rcases s with ⟨p,e,w,kn⟩
    dsimp only at hp;subst hp
    simp only[aha,Bool.and_eq_true] at hd
    exact fun bV _=>ahJ X.hC hd.1 hd.2.1 hd.2.2.1 hd.2.2.2 (tI (hj bV))
  exact acA h hq hj
 exact acA h hq hj
end
def aae(P:Program)(n:Nat):Nat→List Nat→JS→List (Nat×Nat)→Option (JS×List (Nat×Nat))
 |0,_,s,q=>some (s,q)
 |k+1,hs,s,q=>match stepJ P n hs s with
  |some (s',ni,q')=>aae P n k ni s' (q'++q)
  |none=>none
def adv(P:Program)(n k:Nat)(hs:List Nat):Option JS→Option (JS×List (Nat×Nat))
 |some s=>aae P n k hs s []
 |none=>none
def res:Option (JS×List (Nat×Nat))→Option JS
 |some (s,_)=>some s
 |none=>none
def T4:List (Nat×Nat)→List Nat
 | []=>[]
 | (a,_)::l=>a::T4 l
def R8:List (Nat×Nat)→List Nat
 | []=>[]
 | (_,b)::l=>b::R8 l
def lhs:Option (JS×List (Nat×Nat))→List Nat
 |some (_,q)=>T4 q
 |none=>[0]
def rhs:Option (JS×List (Nat×Nat))→List Nat
 |some (_,q)=>R8 q
 |none=>[1]
theorem lZ:∀ {q:List (Nat×Nat)},T4 q=R8 q→∀p∈q,p.1=p.2
 | (a,b)::l,h,p,hp=>by
  simp only[T4,R8,List.cons.injEq] at h
  rcases List.mem_cons.1 hp with rfl|hp
  ·exact h.1
  exact lZ h.2 p hp
theorem Xx:∀ {k:Nat} {hs:List Nat} {s s':JS} {q q':List (Nat×Nat)},aae X.P X.n k hs s q=some (s',q')→(∀p∈q',p.1=p.2)→(J X (some s')→J X (some s))∧∀p∈q,p∈q'
 |0,_,_,_,_,_,h,_=>by simp only[aae,Option.some.injEq,Prod.mk.injEq] at h;obtain⟨rfl,rfl⟩:=h;exact⟨id,fun _ h=>h⟩
 |k+1,hs,s,s',q,q',h,hq=>by
  simp only[aae] at h
  split at h<;>try (cases h;done)
  rename_i s1 bW q1 bS
  obtain⟨h1,h2⟩:=Xx h hq
  exact⟨fun hj=>abC bS (fun p hp=>hq p (h2 p (List.mem_append_left _ hp))) (h1 hj),fun p hp=>h2 p (List.mem_append_right _ hp)⟩
theorem jd{o:Option JS}(k:Nat)(hs:List Nat)(h:J X (res (adv X.P X.n k hs o)))(he:lhs (adv X.P X.n k hs o)=rhs (adv X.P X.n k hs o):=by kernel_rfl):J X o:=by
 cases o with
 |none=>exact h
 |some s=>
  simp only[adv] at he h
  cases hc:aae X.P X.n k hs s [] with
  |none=>rw[hc] at h;exact h.elim
  |some x=>
   rcases x with ⟨s',q⟩
   rw[hc] at he h
   exact(Xx hc (lZ he)).1 h
attribute [irreducible] adv res lhs rhs
def dE(n:Nat)(f:Oper→Env→Option β):Option JS→Option β
 |some s=>match qt n s with
  |some (true,p,e)=>f p e
  |_=>none
 |none=>none
def j8(v:Value):Option JS→Option JS
 |some s=>Fz v s
 |none=>none
def OB:List Nat→List Sg→Option (List Sg)
 | [],_=>some []
 |i::is,w=>match yy w i with
  |some x=>match OB is w with
   |some r=>some (x::r)
   |none=>none
  |none=>none
def dz(is:List Nat):Nat→List Sg→List Sg
 |_,[]=>[]
 |k,x::w=>bif aY k is then dz is (k+1) w else x::dz is (k+1) w
def FN:List Nat→Bool
 | []=>true
 |i::is=> !aY i is&&FN is
def qX(is:List Nat):Option JS→Option (List Sg)
 |some s=>bif FN is then OB is s.rw else none
 |none=>none
def dS(is:List Nat)(o:Option JS):Option Cells:=match qX is o with
 |some w=>some (den w)
 |none=>none
def lkE:List Nat→Env→Option Env
 | [],_=>some []
 |t::ts,e=>match gX e t with
  |some v=>match lkE ts e with
   |some r=>some ((t,v)::r)
   |none=>none
  |none=>none
def pw:Env→List Nat
 | []=>[]
 | (t,_)::e=>t::pw e
def uz(ts:List Nat):Option JS→Option Env
 |some s=>lkE ts s.env
 |none=>none
theorem sL{ts:List Nat}{s:JS}:uz ts (some s)=lkE ts s.env:=rfl
theorem kJ:∀ {ts:List Nat} {r:Env},lkE ts e=some r→kQ e r
 | [],r,h=>by simp only[lkE,Option.some.injEq] at h;subst h;trivial
 |t::ts,r,h=>by
  simp only[lkE] at h
  split at h<;>try (cases h;done)
  rename_i v hv
  split at h<;>try (cases h;done)
  rename_i r' hr
  cases h
  exact⟨hv,kJ hr⟩
theorem lv:∀(a b:List Sg),den (a++b)=den a++den b
 | [],b=>rfl
 | .b i o::a,b=>by simp[iI,lv a b]
 | .l L::a,b=>by simp[gE,lv a b]
theorem xk:∀(w:List Sg) (k:Nat),dz [] k w=w
 | [],_=>rfl
 |x::w,k=>by simp[dz,aY,xk w (k+1)]
theorem G5:∀ {w:List Sg} {i k:Nat} {is:List Nat} {x:Sg},yy w i=some x→aY (k+i) is=false→(den (dz is k w)).Perm (den [x]++den (dz ((k+i)::is) k w))
 | [],_,_,_,_,h,_=>by cases h
 |y::w,0,k,is,x,h,hi=>by
  simp only[yy,Option.some.injEq] at h;subst h
  have hz:∀(w:List Sg) (j:Nat),k <j→dz (k::is) j w=dz is j w:=by
   intro w
   induction w with
   |nil=>intro j _;rfl
   |cons z w ih=>
    intro j hj
    have:Nat.beq j k=false:=beq_false (by omega)
    simp only[dz,aY,this,Bool.false_or,ih (j+1) (by omega)]
  simp only[Nat.add_zero] at hi ⊢
  simp only[dz,hi,cond_false,aY,Nat.beq_refl,Bool.true_or,cond_true,hz w (k+1) (by omega)]
  cases y with
  |b i o=>rw[iI];exact .refl _
  |l L=>rw[gE];exact .refl _
 |y::w,i+1,k,is,x,h,hi=>by
  have e:k+(i+1)=(k+1)+i:=by omega
  rw[e] at hi ⊢
  have hr:=G5 (w:=w) (k:=k+1) (is:=is) h hi
  have dR:Nat.beq k ((k+1)+i)=false:=beq_false (by omega)
  simp only[dz,aY,dR,Bool.false_or]
  cases aY k is with
  |true=>simp only[cond_true];exact hr
  |false=>
   simp only[cond_false]
   cases y with
   |b i' o=>rw[iI,iI];exact(hr.cons _).trans List.perm_middle.symm
   |l L=>
    rw[gE,gE]
    refine(hr.append_left L).trans ?_
    rw[←List.append_assoc,←List.append_assoc]
    exact List.Perm.append_right _ List.perm_append_comm
theorem wY{w:List Sg}:∀ {is:List Nat} {r:List Sg},OB is w=some r→FN is=true→(den w).Perm (den r++den (dz is 0 w))
 | [],r,h,_=>by simp only[OB,Option.some.injEq] at h;subst h;rw[xk];exact .refl _
 |i::is,r,h,ho=>by
  simp only[OB] at h
  split at h<;>try (cases h;done)
  rename_i x hx
  split at h<;>try (cases h;done)
  rename_i r' hr
  cases h
  simp only[FN,Bool.and_eq_true,Bool.not_eq_true'] at ho
  have h1:=wY hr ho.2
  have h2:=G5 (k:=0) (is:=is) hx (by rw[Nat.zero_add];exact ho.1)
  rw[Nat.zero_add] at h2
  refine h1.trans ((List.Perm.append_left _ h2).trans ?_)
  have:den (x::r')=den [x]++den r':=by rw[←lv];rfl
  rw[this,←List.append_assoc]
  exact List.Perm.append_right _ List.perm_append_comm
theorem lI{is:List Nat}{s:JS}{w:List Sg}(h:qX is (some s)=some w):(den s.rw).Perm (den w++den (dz is 0 s.rw)):=by
 simp only[qX] at h
 cases ho:FN is with
 |false=>rw[ho] at h;cases h
 |true=>rw[ho] at h;exact wY h ho
theorem bD{is:List Nat}{s:JS}{L:Cells}(h:dS is (some s)=some L):(den s.rw).Perm (L++den (dz is 0 s.rw)):=by
 simp only[dS] at h
 split at h<;>try (cases h;done)
 rename_i w hw
 cases h
 exact lI hw
theorem Qz{is:List Nat}{s:JS}{L:Cells}(h:dS is (some s)=some L):∀x∈L,(⟨X.ro,den s.rw⟩:St).has x.1 x.2:=fun x hx=> .inr ((bD h).mem_iff.2 (List.mem_append_left _ hx))
section
variable {X:Cx} {o:Option JS}
theorem si{f:Oper→Env→Option β}{r:β}(h:dE n f o=some r):∃s p e,o=some s∧qt n s=some (true,p,e)∧f p e=some r:=by
 unfold dE at h
 split at h<;>try (cases h;done)
 rename_i s
 split at h<;>try (cases h;done)
 rename_i p e hh
 exact⟨s,p,e,rfl,hh,h⟩
theorem jG{v:Value}{f:Oper→Env→Option β}{r:β}(h:dE X.n f o=some r)(hy:∀s p e,o=some s→qt X.n s=some (true,p,e)→f p e=some r→ez p.op=true∧(Knows X.ro s.kn.c→Yields X.P X.n e p ⟨X.ro,den s.rw⟩ v)∧(C7 p.op=true→∀s,Yields X.P X.n e p s v))(hj:J X (j8 v o)):J X o:=by
 obtain⟨s,p,e,rfl,hh,hf⟩:=si h
 obtain⟨h1,h2,h3⟩:=hy s p e rfl hh hf
 simp only[j8] at hj
 cases hp:Fz v s with
 |none=>rw[hp] at hj;exact hj.elim
 |some s'=>rw[hp] at hj;exact jy hh hp ⟨h1,h2,h3⟩ hj
theorem jGS{v:Value}{f:Oper→Env→Option β}{r:β}(h:dE X.n f o=some r)(hy:∀s p e,o=some s→f p e=some r→Hy X e p ⟨X.ro,den s.rw⟩ v∧(C7 p.op=true→∀s,Hy X e p s v))(hj:J X (j8 v o)):J X o:=by
 obtain⟨s,p,e,rfl,hh,hf⟩:=si h
 simp only[j8] at hj
 cases hp:Fz v s with
 |none=>rw[hp] at hj;exact hj.elim
 |some s'=>rw[hp] at hj;exact jyS hh hp ⟨fun _=>(hy s p e rfl hf).1,(hy s p e rfl hf).2⟩ hj
def Lh(B:Cells)(v:Value):Option JS→Option JS
 |some s=>ajU B v s
 |none=>none
theorem jGN{v:Value}{f:Oper→Env→Option β}{r:β}(h:dE X.n f o=some r)(hB:dS ps o=some B)(hy:∀s p e,o=some s→qt X.n s=some (true,p,e)→f p e=some r→C7 p.op=false∧∀s0,Ext ⟨X.ro,[]⟩ s0→(∀x∈B,s0.has x.1 x.2)→Hy X e p s0 v)(hj:J X (Lh B v o)):J X o:=by
 obtain⟨s,p,e,rfl,hh,hf⟩:=si h
 obtain⟨h1,h2⟩:=hy s p e rfl hh hf
 simp only[Lh] at hj
 cases hp:ajU B v s with
 |none=>rw[hp] at hj;exact hj.elim
 |some s'=>rw[hp] at hj;exact jyN hh hp (Qz hB) h1 h2 hj
theorem Rf{v:Value}{f:Oper→Env→Option β}{r:β}(h:dE X.n f o=some r)(hy:∀s p e,o=some s→f p e=some r→∀s0,Hy X e p s0 v)(hj:J X (j8 v o)):J X o:=
 jGS h (fun s p e ho hf=>⟨hy s p e ho hf _,fun _=>hy s p e ho hf⟩) hj
def apB(P:Program)(n:Nat)(p:Oper)(e:Env):Option Value:=bif ez p.op then aa6 P n e p else none
theorem je(v:Value){w:Value}(hw:w=v)(hj:J X (j8 v o))(hv:dE X.n (apB X.P X.n) o=some w:=by kernel_rfl):J X o:=by
 subst hw
 refine jG hv (fun s p e _ _ hf=>?_) hj
 unfold apB at hf
 cases hn:ez p.op with
 |false=>rw[hn] at hf;cases hf
 |true=>rw[hn] at hf;exact⟨rfl,fun _=>zq hf,fun _ _=>zq hf⟩
theorem ja(r:Int)(h: -9223372036854775808≤r∧r≤9223372036854775807)(hj:J X (j8 (.int .i64 r) o))(hv:dE X.n (apB X.P X.n) o=some (.int .i64 (IntKind.i64.wrap r)):=by kernel_rfl):J X o:=je _ (by rw[kz r h]) hj hv
def ldA(P:Program)(n k:Nat)(vs:List Value)(p:Oper)(e:Env):Option (Option Addr):=match p.op with
 | .load T x=>match ldv P T vs k with
  |some _=>match bh n e x with
   |some (.pointer a)=>some a
   |_=>none
  |none=>none
 |_=>none
def ldW(P:Program)(n k:Nat)(vs:List Value)(o:Option JS):Value:=(dE n (fun p _=>match p.op with
 | .load T _=>ldv P T vs k
 |_=>none) o).getD undef
theorem oQ{b m:Nat}(k:Nat)(ps:List Nat)(B:Cells)(hr:∀s:St,Ext ⟨X.ro,[]⟩ s→(∀x∈B,s.has x.1 x.2)→cy s b off m vs)(hj:J X (Lh B (ldW X.P X.n k vs o) o))(hv:dE X.n (ldA X.P X.n k vs) o=some (some ⟨b,off+k,none⟩):=by kernel_rfl)(hB:dS ps o=some B:=by kernel_rfl):J X o:=by
 refine jGN hv hB (fun s p e ho hh hf=>?_) hj
 subst ho
 unfold ldA at hf
 split at hf<;>try (cases hf;done)
 rename_i T x ay
 split at hf<;>try (cases hf;done)
 rename_i v hv2
 split at hf<;>try (cases hf;done)
 rename_i a hx
 simp only[Option.some.injEq] at hf;subst hf
 have hw:ldW X.P X.n k vs (some s)=v:=by simp only[ldW,dE,hh,ay,hv2,Option.getD_some]
 rw[hw]
 exact⟨by rw[ay];rfl,fun s0 Gk uW ops i ho rest hwt s' hs todo Q hk=>lJ X.hC ho rest hwt (by rw[ay];rfl) (arn k ay hx (hr s0 Gk uW) hv2) hs hk⟩
theorem jl{b m:Nat}(k:Nat)(hr:cy ⟨X.ro,[]⟩ b off m vs)(hj:J X (Lh [] (ldW X.P X.n k vs o) o))(hv:dE X.n (ldA X.P X.n k vs) o=some (some ⟨b,off+k,none⟩):=by kernel_rfl):J X o:=by
 have hB:dS [] o=some []:=by
  obtain⟨s,_,_,rfl,_⟩:=si hv
  rfl
 exact oQ k [] [] (fun s hs _=>hr.ext hs) hj hv hB
def ixA(P:Program)(n:Nat)(p:Oper)(e:Env):Option (Value×Int×Nat):=match p.op with
 | .indexAddr T x y=>match aW P T with
  |some ⟨.slice E,_,_,_⟩=>match aW P E with
   |some te=>match bh n e x with
    |some v=>match bh n e y with
     |some (.int _ ix)=>some (v,ix,te.size)
     |_=>none
    |none=>none
   |none=>none
  |_=>none
 |_=>none
theorem jix{a:Option Addr}{b len:Nat}(ix:Int)(cap sz:Nat)(ha:a=some ⟨b,off,none⟩)(hi:0≤ix∧ix <len)(hj:J X (j8 (.pointer (some ⟨b,off+ix.toNat*sz,none⟩)) o))(hv:dE X.n (ixA X.P X.n) o=some (.slice a len cap,ix,sz):=by kernel_rfl):J X o:=by
 refine jG hv (fun s p e ho hh hf=>?_) hj
 unfold ixA at hf
 split at hf<;>try (cases hf;done)
 rename_i T x y ay
 split at hf<;>try (cases hf;done)
 rename_i E _ _ _ dM
 split at hf<;>try (cases hf;done)
 rename_i te tV
 split at hf<;>try (cases hf;done)
 rename_i v hx
 split at hf<;>try (cases hf;done)
 rename_i ik ix' hy
 simp only[Option.some.injEq,Prod.mk.injEq] at hf
 obtain⟨rfl,rfl,rfl⟩:=hf
 subst ha
 obtain⟨bw,tf⟩:=av dM
 obtain⟨AX,qM⟩:=av tV
 have key:∀s,Yields X.P X.n e p s (.pointer (some ⟨b,off+ix'.toNat*te.size,none⟩)):=by
  intro s s' ni f hf K E hK
  simp only[execOp,ay,Instr.indexAt,hf _ _ hx,hf _ _ hy,asIntOf,aa,ae,aX tf,hi,and_self,if_true,cd qM,dK]
  exact hK
 exact⟨by rw[ay];rfl,fun _=>key _,fun _=>key⟩
theorem iK{ps:List α}{b:Nat}{x:α}{a:Option Addr}(cap sz:Nat)(ha:∀k,k <ps.length→a=some ⟨b,off,none⟩)(hx:ps[k]?=some x) (hj:J X (j8 (.pointer (some ⟨b,off+k*sz,none⟩)) o)) (hv:dE X.n (ixA X.P X.n) o=some (.slice a ps.length cap,(k:Int),sz):=by kernel_rfl):J X o:=
 have hk:k <ps.length:=(List.getElem?_eq_some_iff.1 hx).1
 jix (k:Int) cap sz (ha k hk) (by omega) hj hv
theorem Nk{ps:List α}{b:Nat}{x:α}{a:Option Addr}(ix:Int)(cap sz:Nat)(ha:∀k,k <ps.length→a=some ⟨b,off,none⟩)(hx:ps[k]?=some x) (he:ix=(k:Int)) (hj:J X (j8 (.pointer (some ⟨b,off+k*sz,none⟩)) o)) (hv:dE X.n (ixA X.P X.n) o=some (.slice a ps.length cap,ix,sz):=by kernel_rfl):J X o:=by
 subst he;exact iK cap sz ha hx hj hv
theorem jxo{v:Value}{enc:α→List Value}{ps:List α}{L:Cells}{x:α}(sz:Nat)(kM:aA v szo T2 enc ps L)(hx:ps[k]?=some x) (hj:∀b,M8 v b→J X (j8 (.pointer (some ⟨b,k*sz,none⟩)) o)) (hv:dE X.n (ixA X.P X.n) o=some (v,(k:Int),sz):=by kernel_rfl):J X o:=by
 have hk:k <ps.length:=(List.getElem?_eq_some_iff.1 hx).1
 obtain⟨b,hb⟩:=azj kM hk
 have gh:=hb
 obtain⟨n0,c,rfl⟩:=gh
 have hn:n0=ps.length:=by
  obtain⟨a,c',he⟩:=kM.form
  cases he;rfl
 subst hn
 have hj:=hj b hb
 exact jix (off:=0) (k:Int) c sz rfl (by omega) (by rw[Nat.zero_add];exact hj) hv
theorem qh{v:Value}{enc:α→List Value}{ps:List α}{L:Cells}{x:α}(ix:Int)(sz:Nat)(kM:aA v szo T2 enc ps L)(hx:ps[k]?=some x) (he:ix=(k:Int)) (hj:∀b,M8 v b→J X (j8 (.pointer (some ⟨b,k*sz,none⟩)) o)) (hv:dE X.n (ixA X.P X.n) o=some (v,ix,sz):=by kernel_rfl):J X o:=by
 subst he;exact jxo sz kM hx hj hv
end
attribute [irreducible] dE j8 Lh dS qX uz ldW
section
variable {X:Cx} {o:Option JS}
theorem Nf{D:List Deferred}{t:Nat}{v:Value}(h:gX e t=some v):A n ((t,v)::e) D=A n e D:=by
 simp only[A]
 congr 1
 congr 1
 funext i
 simp only[get]
 cases hb:Nat.beq t i with
 |false=>rfl
 |true=>
  have:=Nat.eq_of_beq_eq_true hb
  subst this
  exact(mS h).symm
def N8(j:Nat)(v:Value):List (Nat×Value)→List (Nat×Value)
 | []=>[]
 | (i,w)::r=>bif Nat.beq i j then (i,v)::r else (i,w)::N8 j v r
theorem Fp{j:Nat}{v:Value}:∀ {l:List (Nat×Value)},OA l j=some v→N8 j v l=l
 | (i,w)::r,h=>by
  simp only[OA] at h
  simp only[N8]
  cases hb:Nat.beq i j with
  |true=>rw[hb] at h;simp only[cond_true,Option.some.injEq] at h;subst h;rfl
  |false=>rw[hb] at h;simp only[cond_false] at h ⊢;rw[Fp h]
def anq(t:Nat):JS→Option Value
 | ⟨.G4 _ _ Pl _ _,_,_,_⟩=>OA Pl t
 |s=>gX s.env t
def I3(t:Nat):Option JS→Option Value
 |some s=>anq t s
 |none=>none
def XV(t:Nat)(v:Value):JS→JS
 | ⟨.G4 ops base Pl Sl k,e,w,kn⟩=>⟨.G4 ops base (N8 t v Pl) Sl k,e,w,kn⟩
 | ⟨p,e,w,kn⟩=>⟨p,(t,v)::e,w,kn⟩
def N9(t:Nat)(v:Value):Option JS→Option JS
 |some s=>some (XV t v s)
 |none=>none
theorem jw(t:Nat)(v:Value){w:Value}(hw:w=v)(hj:J X (N9 t v o))(hv:I3 t o=some w:=by kernel_rfl):J X o:=by
 subst hw
 cases o with
 |none=>exact hj
 |some s=>
  rcases s with ⟨p,e,H4,kn⟩
  intro bV
  have hj:=hj
  cases p with
  |G4 ops base Pl Sl k=>
   simp only[I3,anq] at hv
   have:N8 t w Pl=Pl:=Fp hv
   simp only[N9,XV,this] at hj
   exact hj bV
  |ops a b c=>have:=hj bV;simp only[XV,JP] at this;rw[Nf hv] at this;exact this
  |code a b=>have:=hj bV;simp only[XV,JP] at this;rw[Nf hv] at this;exact this
  |nxt a=>have:=hj bV;simp only[XV,JP] at this;rw[Nf hv] at this;exact this
  |fin a=>have:=hj bV;simp only[XV,JP] at this;rw[Nf hv] at this;exact this
theorem ji(t:Nat){c b:Bool}(h:c=b)(hj:J X (N9 t (.bool b) o))(hv:I3 t o=some (.bool c):=by kernel_rfl):J X o:=jw t _ (by rw[h]) hj hv
theorem js(t:Nat)(c:Bool)(h1:c=true→J X (N9 t (.bool true) o))(h2:c=false→J X (N9 t (.bool false) o))(hv:I3 t o=some (.bool c):=by kernel_rfl):J X o:=by
 cases hc:c with
 |true=>exact ji t hc (h1 hc) hv
 |false=>exact ji t hc (h2 hc) hv
def azF(P:Program)(n:Nat)(p:Oper)(e:Env):Option (Obj×Option Nat):=match p.op with
 | .alloc T=>match aW P T with
  |some ti=>some (.cells ⟨ti.zero⟩ T (0,0),none)
  |none=>none
 | .box T x=>match bh n e x with
  |some v=>some (.cells ⟨dV v⟩ T (0,0),none)
  |none=>none
 | .buildSlice T m ps=>match aW P T with
  |some ⟨.slice E,_,_,_⟩=>match aW P E with
   |some te=>match Nq n e ps.toList with
    |some pv=>match oJ (fun i=>some (i*te.size,te.size)) (cS te.zero m) (tJ pv) with
     |some l=>bif Nat.beq te.zero.length te.size&&Nat.ble (m*te.size) 16777216 then some (.cells ⟨l⟩ E (0,0),some m) else none
     |none=>none
    |none=>none
   |none=>none
  |_=>none
 | .range T x=>match aW P T with
  |some ⟨.string,_,_,_⟩=>match bh n e x with
   |some (.string b)=>some (.stringIter b 0,none)
   |_=>none
  |_=>none
 |_=>none
def acS(b:Nat):Option Nat→Value
 |some m=> .slice (some ⟨b,0,none⟩) m m
 |none=> .pointer (some ⟨b,0,none⟩)
def aq1(P:Program)(n b:Nat):Option JS→Option JS
 |some ⟨.ops ops (i::todo) k,e,w,kn⟩=>match qt n ⟨.ops ops (i::todo) k,e,w,kn⟩ with
  |some (true,p,_)=>match azF P n p e with
   |some (ob,m)=>some ⟨.ops ops todo k,upd p.dst (acS b m) e,.b b ob::w,kn⟩
   |none=>none
  |_=>none
 |_=>none
theorem PW{ops:Array Oper}{k:List KI}{e':Env}{w:List Sg}(h:qt n ⟨.ops ops (i::todo) k,e,w,kn⟩=some (g,p,e')):ops[i]?=some p∧e'=e∧(g=true→ax ops n e p.guard=true):=by
 simp only[qt] at h
 split at h<;>try (cases h;done)
 rename_i p1 ho
 split at h<;>try (cases h;done)
 rename_i g1 hg
 cases h
 refine⟨ho,rfl,fun hg'=>?_⟩
 subst hg'
 have:=nN hg []
 rwa[List.append_nil] at this
theorem jn(hj:∀b,J X (aq1 X.P X.n b o)):J X o:=by
 unfold aq1 at hj
 split at hj
 ·rename_i ops i todo k e w kn
  split at hj
  ·rename_i p e' hh
   obtain⟨ho,rfl,hw⟩:=PW hh
   have hw:=hw rfl
   intro bV
   rcases p with ⟨dst,op,ty,pos,cZ,g⟩
   split at hj
   ·rename_i ob m hn
    have key:∀b,ab X.C X.fn X.az ops todo (KQ X k) (A X.n (upd dst (acS b m) e') X.D) ⟨X.ro,(b,ob)::den w⟩:=fun b=>by
     have:=hj b bV
     simp only[JP,iI] at this
     exact this
    unfold azF at hn
    split at hn
    ·rename_i T ay
     dsimp only at ay;subst ay
     split at hn<;>try (cases hn;done)
     rename_i ti dM
     cases hn
     obtain⟨bw,tf⟩:=av dM
     exact akb X.hC ho hw tf fun b _=>key b
    ·rename_i T x ay
     dsimp only at ay;subst ay
     split at hn<;>try (cases hn;done)
     rename_i v hx
     cases hn
     exact azx X.hC ho hw hx (by rw[mb]) fun b _=>key b
    ·rename_i T m0 ps ay
     dsimp only at ay;subst ay
     split at hn<;>try (cases hn;done)
     rename_i E _ _ _ dM
     split at hn<;>try (cases hn;done)
     rename_i te tV
     split at hn<;>try (cases hn;done)
     rename_i pv Is
     split at hn<;>try (cases hn;done)
     rename_i l hl
     cases hc:(Nat.beq te.zero.length te.size&&Nat.ble (m0*te.size) 16777216) with
     |false=>rw[hc] at hn;cases hn
     |true=>
      rw[hc] at hn;simp only[cond_true,Option.some.injEq,Prod.mk.injEq] at hn
      obtain⟨rfl,rfl⟩:=hn
      simp only[Bool.and_eq_true] at hc
      obtain⟨bw,tf⟩:=av dM
      obtain⟨AX,qM⟩:=av tV
      exact Lx X.hC ho hw tf qM hc.1 Is hc.2 hl fun b _=>key b
    ·rename_i T x ay
     dsimp only at ay;subst ay
     split at hn<;>try (cases hn;done)
     rename_i dM
     split at hn<;>try (cases hn;done)
     rename_i bs hx
     cases hn
     obtain⟨bw,tf⟩:=av dM
     exact SG X.hC ho hw tf hx fun b _=>key b
    cases hn
   exact(hj 0).elim
  exact(hj 0).elim
 exact(hj 0).elim
def ahz(n:Nat)(p:Oper)(e:Env):Option (FuncId×List Value):=match p.op with
 | .call ⟨.value x,xs,_⟩=>match bh n e x with
  |some (.func (.func f) ⟨fi⟩ ⟨ca⟩)=>match xN n e xs.toList with
   |some vs=>some (f,fi++vs++ca)
   |none=>none
  |_=>none
 |_=>none
def x6(P:Program)(n:Nat)(p:Oper)(e:Env):Option (FuncId×List Value):=match ahz n p e with
 |some (f,vs)=>bif Bq P f then some (f,vs) else none
 |none=>none
theorem qE(h:x6 P n p e=some (f,vs)):FF P f∧∃x xs at_ fi ca ws,p.op= .call ⟨.value x,xs,at_⟩∧bh n e x=some (.func (.func f) ⟨fi⟩ ⟨ca⟩)∧ve n e xs=some ws∧vs=fi++ws++ca:=by
 unfold x6 at h
 split at h<;>try (cases h;done)
 rename_i f' oe hc
 cases hb:Bq P f' with
 |false=>rw[hb] at h;cases h
 |true=>
  rw[hb] at h;simp only[cond_true,Option.some.injEq,Prod.mk.injEq] at h
  obtain⟨rfl,rfl⟩:=h
  refine⟨kU hb,?_⟩
  unfold ahz at hc
  split at hc<;>try (cases hc;done)
  rename_i x xs at_ ay
  split at hc<;>try (cases hc;done)
  rename_i f fi ca hx
  split at hc<;>try (cases hc;done)
  rename_i ws rR
  cases hc
  exact⟨x,xs,at_,fi,ca,ws,ay,hx,rR,rfl⟩
theorem QT(a b c:List Value):(⟨a⟩:Array Value)++⟨b⟩++⟨c⟩=⟨a++b++c⟩:=by simp
def nj(ps:List Nat)(v:Value)(Y:Cells):Option JS→Option JS
 |some ⟨.ops ops (i::todo) k,e,w,kn⟩=>match ops[i]? with
  |some p=>some ⟨.ops ops todo k,upd p.dst v e,.l Y::dz ps 0 w,kn⟩
  |none=>none
 |_=>none
def fg(n:Nat)(f:Oper→Env→Option β):Option JS→Option β
 |some ⟨.ops a b c,e,w,kn⟩=>dE n f (some ⟨.ops a b c,e,w,kn⟩)
 |_=>none
theorem dr{f:Oper→Env→Option β}{r:β}(h:fg n f o=some r):∃ops i todo k e w kn p,o=some ⟨.ops ops (i::todo) k,e,w,kn⟩∧ops[i]?=some p∧ax ops n e p.guard=true∧f p e=some r:=by
 unfold fg at h
 split at h<;>try (cases h;done)
 rename_i ops todo k e w kn
 obtain⟨s,p,e',hs,hh,hf⟩:=si h
 cases hs
 cases todo with
 |nil=>cases hh
 |cons i todo=>
  obtain⟨ho,rfl,hw⟩:=PW hh
  exact⟨ops,i,todo,k,e',w,kn,p,rfl,ho,hw rfl,hf⟩
def anU(ps lp:List Nat):Option JS→Option Cells
 |some s=>dS lp (some {s with rw:=dz ps 0 s.rw})
 |none=>none
theorem n9{ops:Array Oper}{k:List KI}{w:List Sg}{v:Value}(ho:ops[i]?=some p):nj ps v Y (some ⟨.ops ops (i::todo) k,e,w,kn⟩)=some ⟨.ops ops todo k,upd p.dst v e,.l Y::dz ps 0 w,kn⟩:=by
 simp only[nj,ho]
theorem jcL{own:Cells}(ps lp:List Nat)(B:Cells)(hf:∀aB,Sub X.ro aB→Knows aB B→eE X.P f vs aB own Φ)(hj:∀v Y,Φ v Y→J X (nj ps v Y o))(h1:fg X.n (x6 X.P X.n) o=some (f,vs):=by kernel_rfl)(h2:dS ps o=some own:=by kernel_rfl)(h3:anU ps lp o=some B:=by kernel_rfl):J X o:=by
 obtain⟨ops,i,todo,k,e,w,kn,p,rfl,ho,hw,hc⟩:=dr h1
 obtain⟨ff,x,xs,at_,fi,ca,ws,ay,hx,rR,rfl⟩:=qE hc
 intro bV
 rcases p with ⟨dst,op,ty,pos,cZ,g⟩
 dsimp only at ay;subst ay
 have hp:=bD h2
 refine acK (own:=own) (B:=B) (Φ:=Φ) X.hC ho hw hx ff rR (QT fi ws ca) hp (fun y hy=>(bD h3).mem_iff.2 (List.mem_append_left _ hy)) (fun aB hs hB=>hf aB hs hB) (fun v Y qi=>?_)
 have:=hj v Y qi
 simp only[nj,ho] at this
 have:=this bV
 simp only[JP,gE] at this
 exact this
theorem jc{own:Cells}(ps:List Nat)(hf:eE X.P f vs X.ro own Φ)(hj:∀v Y,Φ v Y→J X (nj ps v Y o))(h1:fg X.n (x6 X.P X.n) o=some (f,vs):=by kernel_rfl)(h2:dS ps o=some own:=by kernel_rfl):J X o:=by
 obtain⟨ops,i,todo,k,e,w,kn,p,rfl,ho,hw,hc⟩:=dr h1
 obtain⟨ff,x,xs,at_,fi,ca,ws,ay,hx,rR,rfl⟩:=qE hc
 intro bV
 rcases p with ⟨dst,op,ty,pos,cZ,g⟩
 dsimp only at ay;subst ay
 have hp:=bD h2
 refine tR (fi:=⟨fi⟩) (ca:=⟨ca⟩) (ws:=fi++ws++ca) X.hC ho hw hx ff rR (QT fi ws ca) (Fn.weaken X.hC (eE.axq (s:=⟨X.ro,den w⟩) hp hf)) (fun v' s' hr=>?_) (fun ch s' hr=>by obtain⟨_,_,e,_⟩:=hr;cases e) (fun s' hr=>by obtain⟨_,_,e,_⟩:=hr;cases e)
 obtain⟨v,Y,hv,qi,hle⟩:=hr
 cases hv
 have:=hj _ Y qi
 simp only[nj,ho] at this
 have:=this bV
 simp only[JP,gE] at this
 exact this.more X.hC hle
theorem jp{V:Value}(lp:List Nat)(B:Cells)(hf:∀aB,Sub X.ro aB→Knows aB B→de X.P f vs aB V)(hj:J X (Lh B V o))(h1:dE X.n (x6 X.P X.n) o=some (f,vs):=by kernel_rfl)(h3:dS lp o=some B:=by kernel_rfl):J X o:=by
 refine jGN h1 h3 (fun s p e ho hh hc=>?_) hj
 obtain⟨ff,x,xs,at_,fi,ca,ws,ay,hx,rR,rfl⟩:=qE hc
 rcases p with ⟨dst,op,ty,pos,cZ,g⟩
 dsimp only at ay;subst ay
 refine⟨rfl,fun s0 Gk uW ops i sO rest hw s' hs todo Q hk=>?_⟩
 have hez:Ext ⟨X.ro,B⟩ s':=fun b ob hb=>hs _ _ (hb.elim (fun h=>Gk _ _ (.inl h)) fun h=>uW (b,ob) h)
 exact OW X.hC sO hw (aZ hx) ff (xg rR) (QT fi ws ca) hez (fun aB h1=>hf aB (Ff h1) fun y hy=>h1 _ _ (.inr hy)) hk
end
attribute [irreducible] fg N9 I3 aq1 nj anU
def sV(P:Program)(f:FuncId):Func:=match P.funcs[f]? with
 |some fn=>fn
 |none=>default
abbrev RX(ro:Nat→Option Obj)(Φ:Value→Cells→Prop):Ending→St→Prop:=fun en s'=>∃v X,en= .returned v∧s'=⟨ro,X⟩∧Φ v X
def X0(P:Program)(hm:P.follows .mixedOrders=true)(f:FuncId)(ro:Nat→Option Obj)(R:Ending→St→Prop):Cx:=⟨P,CP P,eY,hm,f,none,(sV P f).ntmps,[],ro,rq P (sV P f) R⟩
def kS(P:Program)(f:FuncId)(args:List Value)(own:List Sg)(kn:Cells):Option JS:=match P.funcs[f]? with
 |some fn=>match fn.body with
  |some c=>bif Nat.ble args.length fn.ntmps then some ⟨.code c [],fU 0 args,own,⟨kn,[]⟩⟩ else none
  |none=>none
 |none=>none
theorem aAb{hm:P.follows .mixedOrders=true}{ro:Nat→Option Obj}(own:List Sg)(kn:Cells)(hk:Knows ro kn)(h:J (X0 P hm f ro R) (kS P f args own kn)):Fn (CP P) P f ⟨args⟩ ⟨ro,den own⟩ R:=by
 unfold kS at h
 split at h<;>try exact h.elim
 rename_i fn hf
 split at h<;>try exact h.elim
 rename_i c hc
 cases hl:Nat.ble args.length fn.ntmps with
 |false=>rw[hl] at h;exact h.elim
 |true=>
  rw[hl] at h
  have uC:sV P f=fn:=by simp only[sV,hf]
  have:=h hk
  simp only[JP,X0,KQ,uC] at this
  exact Qk eY hf hc rfl hl this
theorem bA(hm:P.follows .mixedOrders=true){ro:Nat→Option Obj}{L:Cells}(own:List Sg)(kn:Cells)(hk:Knows ro kn)(h:J (X0 P hm f ro (RX ro Φ)) (kS P f args own kn))(hL:den own=L:=by rfl):eE P f args ro L Φ:=by
 subst hL;exact aAb own kn hk h
def BE(P:Program)(n:Nat)(e:Env)(w:List Sg)(kn:Cells):List Nat→List ResultVar→Option (List Value×List (Nat×Nat))
 |_,[]=>some ([],[])
 |hs,.tmp t::rs=>match bh n e (.tmp t) with
  |some v=>match BE P n e w kn hs rs with
   |some (vs,q)=>some (v::vs,q)
   |none=>none
  |none=>none
 |h::hs,.cell t T::rs=>match bh n e (.tmp t) with
  |some (.pointer (some ⟨b,off,none⟩))=>match AV w kn h with
   |some (b',l)=>match ldv P T l off with
    |some v=>match BE P n e w kn hs rs with
     |some (vs,q)=>some (v::vs,(b',b)::q)
     |none=>none
    |none=>none
   |none=>none
  |_=>none
 | [],.cell _ _::_=>none
def jQ(P:Program)(n:Nat)(f:FuncId)(hs:List Nat):Option JS→Option (Value×List (Nat×Nat))
 |some ⟨.fin _,e,w,kn⟩=>match BE P n e w kn.c hs (sV P f).results.toList with
  |some (vs,q)=>some (uy vs,q)
  |none=>none
 |_=>none
def sS:Option (Value×List (Nat×Nat))→Option Value
 |some (v,_)=>some v
 |none=>none
def Rw:Option (Value×List (Nat×Nat))→List Nat
 |some (_,q)=>T4 q
 |none=>[0]
def Rv:Option (Value×List (Nat×Nat))→List Nat
 |some (_,q)=>R8 q
 |none=>[1]
theorem tE{w:List Sg}{kn:Cells}(bV:Knows X.ro kn):∀ {hs:List Nat} {rs:List ResultVar} {vs:List Value} {q:List (Nat×Nat)},BE X.P X.n e w kn hs rs=some (vs,q)→(∀p∈q,p.1=p.2)→Et X.P ⟨X.ro,den w⟩ X.n e rs vs
 |_,[],vs,q,h,_=>by simp only[BE,Option.some.injEq,Prod.mk.injEq] at h;obtain⟨rfl,rfl⟩:=h;exact .nil
 |hs,.tmp t::rs,vs,q,h,hq=>by
  simp only[BE] at h
  split at h<;>try (cases h;done)
  rename_i v hv
  split at h<;>try (cases h;done)
  rename_i oe q' hr
  simp only[Option.some.injEq,Prod.mk.injEq] at h;obtain⟨rfl,rfl⟩:=h
  exact .tmp hv (tE bV hr hq)
 | [],.cell _ _::_,vs,q,h,_=>by simp only[BE] at h;cases h
 |h0::hs,.cell t T::rs,vs,q,h,hq=>by
  simp only[BE] at h
  split at h<;>try (cases h;done)
  rename_i b off hv
  split at h<;>try (cases h;done)
  rename_i b' l hc
  split at h<;>try (cases h;done)
  rename_i v hld
  split at h<;>try (cases h;done)
  rename_i oe q' hr
  simp only[Option.some.injEq,Prod.mk.injEq] at h;obtain⟨rfl,rfl⟩:=h
  have hb:b'=b:=hq _ List.mem_cons_self
  subst hb
  obtain⟨t',fz,hh⟩:=y3 (X:=X) bV hc
  have ih:=tE bV hr fun p hp=>hq p (List.mem_cons_of_mem _ hp)
  unfold ldv at hld
  split at hld<;>try (cases hld;done)
  rename_i ti dM
  obtain⟨bw,tf⟩:=av dM
  cases ha:ti.agg with
  |true=>
   rw[ha] at hld tf;simp only[cond_true] at hld
   split at hld<;>try (cases hld;done)
   rename_i vs2 Eb
   cases hld
   exact .agg tf hv ⟨_,_,_,hh,Eb⟩ ih
  |false=>
   rw[ha] at hld tf;simp only[cond_false] at hld
   exact .cell tf hv ⟨_,_,_,hh,hld⟩ ih
def Cq:Option JS→Bool
 |some ⟨.fin .ret,_,_,_⟩=>true
 |some ⟨.fin .normal,_,_,_⟩=>true
 |_=>false
theorem sX{o:Option JS}(h:Cq o=true):∃ex e w kn,o=some ⟨.fin ex,e,w,kn⟩∧(ex= .ret∨ex= .normal):=by
 unfold Cq at h
 split at h
 ·exact⟨_,_,_,_,rfl,.inl rfl⟩
 ·exact⟨_,_,_,_,rfl,.inr rfl⟩
 cases h
def adh:Option JS→Bool
 |some ⟨.ops ..,_,_,_⟩=>true
 |some ⟨.code ..,_,_,_⟩=>true
 |_=>false
structure QR(X:Cx)(R:Ending→St→Prop):Prop where
 q:X.Q=rq X.P (sV X.P X.fn) R
 d:X.D=[]
theorem q0{hm:P.follows .mixedOrders=true}{ro:Nat→Option Obj}:QR (X0 P hm f ro R) R:=⟨rfl,rfl⟩
theorem QR.a{ro:Nat→Option Obj}(h:QR X R):QR (X.at ro) R:=⟨h.q,h.d⟩
theorem a8{ro:Nat→Option Obj}:Knows ro []:=fun _ h=>by cases h
section
variable {X:Cx} {o:Option JS}
theorem aE{pz:Nat→Option Obj}(hq:QR X R)(v:Value)(hs ps:List Nat)(Y:Cells)(fJ:Sub pz X.ro)(hR:R (.returned v) ⟨pz,Y⟩)(h1:sS (jQ X.P X.n X.fn hs o)=some v:=by kernel_rfl)(h2:Rw (jQ X.P X.n X.fn hs o)=Rv (jQ X.P X.n X.fn hs o):=by kernel_rfl)(h3:dS ps o=some Y:=by kernel_rfl)(h4:Cq o=true:=by kernel_rfl):J X o:=by
 obtain⟨ex,e,w,kn,rfl,hex⟩:=sX h4
 simp only[jQ] at h1 h2
 cases hr:BE X.P X.n e w kn.c hs (sV X.P X.fn).results.toList with
 |none=>rw[hr] at h1;cases h1
 |some x=>
  rcases x with ⟨vs,q⟩
  simp only[hr,sS,Option.some.injEq,Rw,Rv] at h1 h2
  intro bV
  have rV:=tE bV hr (lZ h2)
  have hp:=bD h3
  show X.Q ex (A X.n e X.D) ⟨X.ro,den w⟩
  rw[hq.q,hq.d]
  exact Od (s0:=⟨pz,Y⟩) hex rV h1 (dL hp fJ) hR
def wP(X:Cx)(K:Act→St→Prop)(ef:ι→Env)(wf:ι→List Sg)(Inv:ι→Prop)(μ:ι→Nat)(m:Nat):Prop:=
 ∀j,Inv j→μ j <m→∀(e:Env) (s:St),kQ e (ef j)→(⟨X.ro,den (wf j)⟩:St).le s→K (A X.n e X.D) s
def xO:List Nat→List (Act→St→Prop)→Code→List KI→Option (Code×List KI)
 | [],_,c,k=>some (c,k)
 |0::p,Ks,.seq a b,k=>xO p Ks a (.seq b::k)
 |1::p,Ks,.seq _ b,k=>xO p Ks b k
 |2::p,K::Ks,.seq a _,k=>xO p Ks a (.next K::k)
 |_::p,Ks,.block id c,k=>xO p Ks c (.block id::k)
 |_::p,Ks,.scope c,k=>xO p Ks c k
 |0::p,Ks,.cond _ a _,k=>xO p Ks a k
 |_::p,Ks,.cond _ _ b,k=>xO p Ks b k
 |_::p,K::Ks,.loop c,k=>xO p Ks c (.next K::k)
 |_::p,Ks,.rangeFunc _ _ _ b,_=>xO p Ks b []
 |_,_,_,_=>none
def IP(P:Program)(f:FuncId)(p:List Nat)(Ks:List (Act→St→Prop)):Option (Code×List KI):=match (sV P f).body with
 |some c=>xO p Ks c []
 |none=>none
def stC(e:Env)(w:List Sg):Option (Code×List KI)→Option JS
 |some (c,k)=>some ⟨.code c k,e,w,⟨[],[]⟩⟩
 |none=>none
def stW(P:Program)(f:FuncId)(p:List Nat)(Ks:List (Act→St→Prop))(e:Env)(w:List Sg):Option JS:=stC e w (IP P f p Ks)
def xZ:Option JS→Option (Code×List KI)
 |some ⟨.code c k,_,_,_⟩=>some (c,k)
 |_=>none
def lpB(K:Act→St→Prop):Option (Code×List KI)→Option (Code×List KI)
 |some (.loop c,k)=>some (c,.next K::k)
 |_=>none
theorem dW(p:List Nat)(Ks:List (Act→St→Prop))(ef:ι→Env)(wf:ι→List Sg)(Inv:ι→Prop)(μ:ι→Nat)(i0:ι)(h0:Inv i0)(ps:List Nat)(hb:∀i,Inv i→∀K,wP X K ef wf Inv μ (μ i)→∀rest,J X (stW X.P X.fn p (Ks++[K]) (ef i++rest) (wf i)))
 (h1:uz (pw (ef i0)) o=some (ef i0):=by kernel_rfl)(hd:∀i,lkE (pw (ef i)) (ef i)=some (ef i):=by intro _;kernel_rfl)(h2:qX ps o=some (wf i0):=by kernel_rfl)(hp:∀K,IP X.P X.fn p (Ks++[K])=lpB K (xZ o):=by intro _;kernel_rfl):J X o:=by
 have hT:∀i,wP X (fun _ _=>True) ef wf Inv μ (μ i):=fun _ _ _ _ _ _ _ _=>trivial
 have bad:∀(K:Act→St→Prop),lpB K (xZ o)=none→(∀i,wP X K ef wf Inv μ (μ i))→J X o:=fun K h hK=>by
  have:=hb i0 h0 K (hK i0) []
  simp only[stW,hp,h,stC] at this
  exact this.elim
 cases o with
 |none=>exact bad _ rfl hT
 |some s=>
  rcases s with ⟨q,e,w,kn⟩
  cases q with
  |code c k=>
   cases c with
   |loop c=>
    intro bV
    refine aaQ X.hC ef (fun i=>⟨X.ro,den (wf i)⟩) Inv μ i0 h0 (kJ (by rw[sL] at h1;exact h1)) (kJ (hd i0)) (dL (lI h2) (Sub.refl _)) fun i hi rest=>?_
    have:=hb i hi _ (fun j hj hm e s hc hle=>ake j hj hm hc (kJ (hd j)) hle) rest
    simp only[stW,hp,xZ,lpB,stC] at this
    exact this fun _ h=>(List.not_mem_nil h).elim
   |_=>exact bad _ rfl hT
  |_=>exact bad _ rfl hT
def Yw:Option JS→Option (Act→St→Prop)
 |some ⟨.nxt K,_,_,_⟩=>some K
 |_=>none
theorem bO{K:Act→St→Prop}{ef:ι→Env}{wf:ι→List Sg}{Inv:ι→Prop}{μ:ι→Nat}{m:Nat}(hK:wP X1 K ef wf Inv μ m)(j:ι)(h:Inv j)(hm:μ j <m)(ps:List Nat)(hs:Sub X1.ro X.ro)
 (h0:Yw o=some K:=by kernel_rfl)(h1:uz (pw (ef j)) o=some (ef j):=by kernel_rfl)(h2:qX ps o=some (wf j):=by kernel_rfl)(hn:X1.n=X.n:=by rfl)(hD:X1.D=X.D:=by rfl):J X o:=by
 unfold Yw at h0
 split at h0<;>try (cases h0;done)
 rename_i K' e w kn
 cases h0
 intro _
 rw[sL] at h1
 have:=hK j h hm e ⟨X.ro,den w⟩ (kJ h1) (dL (lI h2) hs)
 rw[hn,hD] at this
 exact this
def gS:List (List Nat)→List Sg→Option (List Cells)
 | [],_=>some []
 |p::r,w=>match OB p w with
  |some x=>match gS r w with
   |some y=>some (den x::y)
   |none=>none
  |none=>none
def gO(ps:List (List Nat)):Option JS→Option (List Cells)
 |some s=>bif FN ps.flatten then gS ps s.rw else none
 |none=>none
def XY:List Sg→List Cells
 | []=>[]
 |x::w=>den [x]::XY w
theorem Fq:∀(w:List Sg),(XY w).flatten=den w
 | []=>rfl
 | .b i o::w=>by simp[XY,iI,Fq w];rfl
 | .l L::w=>by simp[XY,gE,Fq w];rfl
theorem Vz:∀ {a b:List Nat} {w x y:List Sg},OB a w=some x→OB b w=some y→OB (a++b) w=some (x++y)
 | [],b,w,x,y,h,h2=>by simp only[OB,Option.some.injEq] at h;subst h;exact h2
 |i::a,b,w,x,y,h,h2=>by
  simp only[OB] at h
  split at h<;>try (cases h;done)
  rename_i z hz
  split at h<;>try (cases h;done)
  rename_i r hr
  cases h
  simp only[List.cons_append,OB,hz,Vz hr h2]
theorem aoI:∀ {ps:List (List Nat)} {w:List Sg} {l:List Cells},gS ps w=some l→∃z,OB ps.flatten w=some z∧den z=l.flatten
 | [],w,l,h=>by simp only[gS,Option.some.injEq] at h;subst h;exact⟨[],rfl,rfl⟩
 |p::r,w,l,h=>by
  simp only[gS] at h
  split at h<;>try (cases h;done)
  rename_i x hx
  split at h<;>try (cases h;done)
  rename_i y hy
  cases h
  obtain⟨z,h1,h2⟩:=aoI hy
  exact⟨x++z,by simpa using Vz hx h1,by simp[lv,h2]⟩
theorem Nl{K:Act→St→Prop}{ef:ι→Env}{wf:ι→List Sg}{Inv:ι→Prop}{μ:ι→Nat}{m:Nat}(hK:wP X1 K ef wf Inv μ m)(j:ι)(h:Inv j)(hm:μ j <m)(ps:List (List Nat))(hs:Sub X1.ro X.ro)
 (h0:Yw o=some K:=by kernel_rfl)(h1:uz (pw (ef j)) o=some (ef j):=by kernel_rfl)(h2:gO ps o=some (XY (wf j)):=by kernel_rfl)(hn:X1.n=X.n:=by rfl)(hD:X1.D=X.D:=by rfl):J X o:=by
 unfold Yw at h0
 split at h0<;>try (cases h0;done)
 rename_i K' e w kn
 cases h0
 intro _
 rw[sL] at h1
 have hp:(den w).Perm (den (wf j)++den (dz ps.flatten 0 w)):=by
  simp only[gO] at h2
  cases ho:FN ps.flatten with
  |false=>rw[ho] at h2;cases h2
  |true=>
   rw[ho] at h2
   obtain⟨z,h3,h4⟩:=aoI h2
   rw[Fq] at h4
   rw[←h4]
   exact wY h3 ho
 have:=hK j h hm e ⟨X.ro,den w⟩ (kJ h1) (dL hp hs)
 rw[hn,hD] at this
 exact this
def aGw:Option (Code×List KI)→Option (Code×List KI)
 |some (_,.seq y::k)=>some (y,k)
 |_=>none
def au3(K:Act→St→Prop):Option JS→Option JS
 |some ⟨.code x (.seq _::k),e,w,kn⟩=>some ⟨.code x (.next K::k),e,w,kn⟩
 |_=>none
theorem JO(p:List Nat)(Ks:List (Act→St→Prop))(ef:ι→Env)(wf:ι→List Sg)(Inv:ι→Prop)(hj:∀i,Inv i→∀rest,J X (stW X.P X.fn p Ks (ef i++rest) (wf i)))(h:∀K,wP X K ef wf Inv (fun _=>0) 1→J X (au3 K o))(hd:∀i,lkE (pw (ef i)) (ef i)=some (ef i):=by intro _;kernel_rfl)(hp:IP X.P X.fn p Ks=aGw (xZ o):=by kernel_rfl):J X o:=by
 unfold au3 at h
 split at h
 ·rename_i x y k e w kn
  intro bV
  refine h (fun a s=>Wp X.C X.fn X.az y (KQ X k) a s) (fun j hI _ e s hc hle=>?_) bV
  obtain⟨r,hr⟩:=gu (n:=X.n) (D:=X.D) hc (kJ (hd j))
  rw[hr]
  have:=hj j hI r
  simp only[stW,hp,xZ,aGw,stC] at this
  exact(this fun _ h=>(List.not_mem_nil h).elim).more X.hC hle
 exact(h (fun _ _=>True) fun _ _ _ _ _ _ _=>trivial).elim
def expand:Cells→List Sg
 | []=>[]
 |x::l=> .b x.1 x.2::expand l
def Ud:Nat→List Sg→List Sg
 |_,[]=>[]
 |0,.l L::w=>expand L++w
 |0,x::w=>x::w
 |i+1,x::w=>x::Ud i w
theorem UL{w w':List Sg}{p:Pos}(h:den w'=den w)(hj:JP X kn e w' p):JP X kn e w p:=by
 cases p<;>simp only[JP,h] at hj ⊢ <;>exact hj
def aFF(i:Nat):Option JS→Option JS
 |some s=>some {s with rw:=Ud i s.rw}
 |none=>none
def Xn:List Sg→Cells
 | []=>[]
 | .b i o::w=>(i,o)::Xn w
 | .l _::w=>Xn w
theorem xu:∀ {w:List Sg} {x:Nat×Obj},x∈Xn w→x∈den w
 | .b i o::w,x,h=>by
  rw[iI]
  rcases List.mem_cons.1 h with rfl|h
  ·exact List.mem_cons_self
  exact List.mem_cons_of_mem _ (xu h)
 | .l L::w,x,h=>by rw[gE];exact List.mem_append_right _ (xu (w:=w) h)
def al8(ps:List Nat):Option JS→Option JS
 |some s=>match OB ps s.rw with
  |some w=>some {s with rw:=dz ps 0 s.rw,kn:=⟨Xn w++s.kn.c,s.kn.nd⟩}
  |none=>none
 |none=>none
theorem HB:∀(k:List KI),KQ (X.at aI) k=KQ X k
 | []=>rfl
 | .seq _::k=>by simp only[KQ,HB k];rfl
 | .block _::k=>by simp only[KQ,HB k]
 | .next _::k=>by simp only[KQ,HB k]
theorem jf(ps:List Nat)(L:Cells)(h:∀aI,Sub X.ro aI→Knows aI L→J (X.at aI) (al8 ps o))(h2:dS ps o=some L:=by kernel_rfl)(hp:adh o=true:=by kernel_rfl):J X o:=by
 have hpk:∀ {s:JS},dS ps (some s)=some L→∃w,OB ps s.rw=some w∧den w=L:=by
  intro s hs
  simp only[dS,qX] at hs
  cases hk:FN ps with
  |false=>rw[hk] at hs;cases hs
  |true=>
   rw[hk] at hs;simp only[cond_true] at hs
   split at hs<;>try (cases hs;done)
   rename_i w hw
   cases hs
   exact⟨w,hw,rfl⟩
 unfold adh at hp
 split at hp
 ·rename_i ops todo k e w kn
  intro bV
  obtain⟨w1,hw1,rfl⟩:=hpk h2
  refine SD X.hC (bD h2) fun aI hs hk=>?_
  have:=h aI hs hk
  simp only[al8,hw1] at this
  have:=this (fun x hx=>(List.mem_append.1 hx).elim (fun hx=>hk x (xu hx)) fun hx=>hs _ _ (bV x hx))
  simp only[JP,HB] at this
  exact this
 ·rename_i c k e w kn
  intro bV
  obtain⟨w1,hw1,rfl⟩:=hpk h2
  refine XI X.hC (bD h2) fun aI hs hk=>?_
  have:=h aI hs hk
  simp only[al8,hw1] at this
  have:=this (fun x hx=>(List.mem_append.1 hx).elim (fun hx=>hk x (xu hx)) fun hx=>hs _ _ (bV x hx))
  simp only[JP,HB] at this
  exact this
 cases hp
def geO:Option JS→Option JS
 |some s=>some {s with rw:= .l []::s.rw}
 |none=>none
theorem pE(h:J X (geO o)):J X o:=by
 cases o with
 |none=>exact h
 |some s=>exact fun bV=>UL (by simp[gE]) (h bV)
def sgS:Nat→List Sg→List Sg→List Sg
 |_,_,[]=>[]
 |0,l,_::w=>l++w
 |i+1,l,x::w=>x::sgS i l w
theorem Vg{l:List Sg}:∀ {i:Nat} {w:List Sg} {x:Sg},yy w i=some x→den [x]=den l→den (sgS i l w)=den w
 |_,[],_,h,_=>by cases h
 |0,y::w,x,h,hd=>by
  simp only[yy,Option.some.injEq] at h;subst h
  have:den (y::w)=den [y]++den w:=by rw[←lv];rfl
  rw[this,hd,←lv];rfl
 |i+1,y::w,x,h,hd=>by
  have:=Vg (w:=w) (i:=i) h hd
  cases y<;>simp[sgS,iI,gE,this]
def sgO(i:Nat)(l:List Sg):Option JS→Option JS
 |some s=>some {s with rw:=sgS i l s.rw}
 |none=>none
theorem jg(i:Nat)(l:List Sg)(h:J X (sgO i l o))(h2:dS [i] o=some (den l):=by kernel_rfl):J X o:=by
 cases o with
 |none=>exact h
 |some s=>
  have hn:∃x,yy s.rw i=some x∧den [x]=den l:=by
   simp only[dS,qX,FN,aY,OB,Bool.not_false,Bool.true_and,cond_true] at h2
   cases hx:yy s.rw i with
   |none=>rw[hx] at h2;cases h2
   |some x=>rw[hx] at h2;simp only[Option.some.injEq] at h2;exact⟨x,rfl,h2⟩
  obtain⟨x,hx,hd⟩:=hn
  exact fun bV=>UL (Vg hx hd) (h bV)
theorem jmw(i:Nat)(l:List Sg){L:Cells}(h:L=den l)(hj:J X (sgO i l o))(h2:dS [i] o=some L:=by kernel_rfl):J X o:=by
 subst h;exact jg i l hj h2
end
def Cx.wd(X:Cx)(D:List Deferred):Cx:={X with D:=D}
theorem Q4{D:List Deferred}:∀(k:List KI),KQ (X.wd D) k=KQ X k
 | []=>rfl
 | .seq _::k=>by simp only[KQ,Q4 k];rfl
 | .block _::k=>by simp only[KQ,Q4 k]
 | .next _::k=>by simp only[KQ,Q4 k]
def EY(X:Cx)(K:Act→St→Prop)(ef:ι→Env)(wf:ι→List Sg)(df:ι→List Deferred)(Inv:ι→Prop)(μ:ι→Nat)(m:Nat):Prop:=
 ∀j,Inv j→μ j <m→∀(e:Env) (s:St),kQ e (ef j)→(⟨X.ro,den (wf j)⟩:St).le s→K (A X.n e (df j)) s
section
variable {X:Cx} {o:Option JS}
theorem aaR{C:Class}{fn:FuncId}{az:Option Nat}{Q:Post}{env:Env}(hC:∀main T,C main T→Closed X.P main T)(pM:ι→Env)(sf:ι→St)(df:ι→List Deferred)(Inv:ι→Prop)(μ:ι→Nat){c:Code}(i0:ι)(h0:Inv i0)(hc:kQ env (pM i0))(hd:∀i,kQ (pM i) (pM i))(hs:(sf i0).le s)
 (round:∀i,Inv i→∀rest,Wp C fn az c (lQ (fun a s=>∃j,Inv j∧μ j <μ i∧(∃e,kQ e (pM j)∧a=A n e (df j))∧(sf j).le s) Q) (A n (pM i++rest) (df i)) (sf i)):Wp C fn az (.loop c) Q (A n env (df i0)) s:=by
 obtain⟨r0,u7⟩:=gu (n:=n) (D:=df i0) hc (hd i0)
 rw[u7]
 intro main T hT b k cs h1 h2 h3 h4
 have key:∀m i rest s,μ i=m→Inv i→(sf i).le s→T (G (aJ b (A n (pM i++rest) (df i)) (.code c:: .inLoop c::k)) cs) s:=by
  intro m
  induction m using Nat.strongRecOn with
  |_ m ih=>
   intro i rest s hm hI hle
   refine(hC main T hT).mono _ _ _ hle ?_
   refine round i hI rest main T hT b (.inLoop c::k) cs h1 h2 h3 fun e a' s' q=>?_
   cases e with
   |normal=>
    obtain⟨j,yT,cG,⟨e,he,rfl⟩,xI⟩:=q
    obtain⟨abT,hr⟩:=gu (n:=n) (D:=df j) he (hd j)
    rw[hr]
    exact(hC main T hT).go rfl rfl (g':=G (aJ b _ (.code c:: .inLoop c::k)) cs) (fun w=>by simp[G,stepG,stepG.exec,aJ]) (ih _ (hm▸cG) j abT s' rfl yT xI)
   |exit id=>exact(h4 _ _ _ q).push rfl (by simp)
   |ret=>exact(h4 _ _ _ q).push (x:= .inLoop c) rfl (by simp)
   |panic ch=>exact(h4 _ _ _ q).push (x:= .inLoop c) rfl (by simp)
   |goto l=>exact(h4 _ _ _ q).elim
   |outgrown=>exact(h4 _ _ _ q).elim
 exact(hC main T hT).go rfl rfl (g':=G (aJ b (A n (pM i0++r0) (df i0)) (.code c:: .inLoop c::k)) cs) (fun w=>by simp[G,stepG,stepG.exec,aJ]) (key _ i0 r0 s rfl h0 hs)
theorem aAf(p:List Nat)(Ks:List (Act→St→Prop))(ef:ι→Env)(wf:ι→List Sg)(df:ι→List Deferred)(Inv:ι→Prop)(μ:ι→Nat)(i0:ι)(h0:Inv i0)(ps:List Nat)(hb:∀i,Inv i→∀K,EY X K ef wf df Inv μ (μ i)→∀rest,J (X.wd (df i)) (stW X.P X.fn p (Ks++[K]) (ef i++rest) (wf i)))
 (h1:uz (pw (ef i0)) o=some (ef i0):=by kernel_rfl)(hd:∀i,lkE (pw (ef i)) (ef i)=some (ef i):=by intro _;kernel_rfl)(h2:qX ps o=some (wf i0):=by kernel_rfl)(hp:∀K,IP X.P X.fn p (Ks++[K])=lpB K (xZ o):=by intro _;kernel_rfl)(hD:X.D=df i0:=by rfl):J X o:=by
 have hT:∀i,EY X (fun _ _=>True) ef wf df Inv μ (μ i):=fun _ _ _ _ _ _ _ _=>trivial
 have bad:∀(K:Act→St→Prop),lpB K (xZ o)=none→(∀i,EY X K ef wf df Inv μ (μ i))→J X o:=fun K h hK=>by
  have:=hb i0 h0 K (hK i0) []
  simp only[stW,hp,h,stC] at this
  exact this.elim
 cases o with
 |none=>exact bad _ rfl hT
 |some s=>
  rcases s with ⟨q,e,w,kn⟩
  cases q with
  |code c k=>
   cases c with
   |loop c=>
    intro bV
    show Wp X.C X.fn X.az (.loop c) (KQ X k) (A X.n e X.D) ⟨X.ro,den w⟩
    rw[hD]
    refine aaR (X:=X) X.hC ef (fun i=>(⟨X.ro,den (wf i)⟩:St)) df Inv μ i0 h0 (kJ (by rw[sL] at h1;exact h1)) (fun i=>kJ (hd i)) (dL (lI h2) (Sub.refl _)) fun i hi rest=>?_
    have:=hb i hi (fun a s=>∃j,Inv j∧μ j <μ i∧(∃e,kQ e (ef j)∧a=A X.n e (df j))∧(⟨X.ro,den (wf j)⟩:St).le s) (fun j hj hm e s hc hle=>⟨j,hj,hm,⟨e,hc,rfl⟩,hle⟩) rest
    simp only[stW,hp,xZ,lpB,stC] at this
    have:=this fun _ h=>(List.not_mem_nil h).elim
    simp only[JP,KQ,Q4] at this
    exact this
   |_=>exact bad _ rfl hT
  |_=>exact bad _ rfl hT
theorem jnD{K:Act→St→Prop}{ef:ι→Env}{wf:ι→List Sg}{df:ι→List Deferred}{Inv:ι→Prop}{μ:ι→Nat}{m:Nat}(hK:EY X1 K ef wf df Inv μ m)(j:ι)(h:Inv j)(hm:μ j <m)(ps:List (List Nat))(hs:Sub X1.ro X.ro)
 (h0:Yw o=some K:=by kernel_rfl)(h1:uz (pw (ef j)) o=some (ef j):=by kernel_rfl)(h2:gO ps o=some (XY (wf j)):=by kernel_rfl)(hn:X1.n=X.n:=by rfl)(hD:X.D=df j:=by rfl):J X o:=by
 have hK':wP (X1.wd (df j)) K ef wf (fun i=>i=j) μ m:=fun i hi hm e s hc hle=>by subst hi;exact hK _ h hm e s hc hle
 exact Nl hK' j rfl hm ps hs h0 h1 h2 hn hD.symm
end
attribute [irreducible] gO geO sV kS au3 stW xZ IP aFF al8 sgO Cq adh jQ Rw Rv sS Yw
section
variable {X:Cx} {o:Option JS}
def MX(n:Nat)(p:Oper)(e:Env):Option (BinOp×TypeId×Value×Value):=match p.op with
 | .binOp op T x y _=>match bh n e x with
  |some v=>match bh n e y with
   |some w=>some (op,T,v,w)
   |none=>none
  |none=>none
 |_=>none
theorem ug{op:BinOp}{v w:Value}(h:MX n p e=some (op,T,v,w)):∃x y T',p.op= .binOp op T x y T'∧bh n e x=some v∧bh n e y=some w:=by
 unfold MX at h
 split at h<;>try (cases h;done)
 rename_i ay
 split at h<;>try (cases h;done)
 rename_i hx
 split at h<;>try (cases h;done)
 rename_i hy
 cases h
 exact⟨_,_,_,ay,hx,hy⟩
theorem jsa{a:ByteArray}(T:TypeId)(hb:(a.size:Int)+b.size≤9223372036854775807)(hj:J X (j8 (.string (a++b)) o))(hv:dE X.n (MX X.n) o=some (.add,T,.string a,.string b):=by kernel_rfl):J X o:=by
 refine Rf hv (fun s p e _ hf=>?_) hj
 obtain⟨x,y,T',ay,hx,hy⟩:=ug hf
 rcases p with ⟨dst,op,ty,pos,cZ,g⟩
 dsimp only at ay;subst ay
 exact fun s0 ops i sO rest hw s' hs todo Q hk=>aqV X.hC sO hw (aZ hx) (aZ hy) hb hk
theorem jrm{k:IntKind}{a b:Int}(T:TypeId)(hb:b≠0)(hj:J X (j8 (.int k (a.tmod b)) o))(hv:dE X.n (MX X.n) o=some (.rem,T,.int k a,.int k b):=by kernel_rfl):J X o:=by
 refine Rf hv (fun s p e _ hf=>?_) hj
 obtain⟨x,y,T',ay,hx,hy⟩:=ug hf
 rcases p with ⟨dst,op,ty,pos,cZ,g⟩
 dsimp only at ay;subst ay
 exact fun s0 ops i sO rest hw s' hs todo Q hk=>azq X.hC sO hw (aZ hx) (aZ hy) hb hk
theorem jsr{k k':IntKind}{a b:Int}(T:TypeId)(hb:0≤b)(hj:J X (j8 (.int k (aR k a b)) o))(hv:dE X.n (MX X.n) o=some (.shr,T,.int k a,.int k' b):=by kernel_rfl):J X o:=by
 refine Rf hv (fun s p e _ hf=>?_) hj
 obtain⟨x,y,T',ay,hx,hy⟩:=ug hf
 rcases p with ⟨dst,op,ty,pos,cZ,g⟩
 dsimp only at ay;subst ay
 exact fun s0 ops i sO rest hw s' hs todo Q hk=>azo X.hC sO hw (aZ hx) (aZ hy) hb hk
theorem jsh{k k':IntKind}{a b:Int}(T:TypeId)(hb:0≤b)(hj:J X (j8 (.int k (dv k a b)) o))(hv:dE X.n (MX X.n) o=some (.shl,T,.int k a,.int k' b):=by kernel_rfl):J X o:=by
 refine Rf hv (fun s p e _ hf=>?_) hj
 obtain⟨x,y,T',ay,hx,hy⟩:=ug hf
 rcases p with ⟨dst,op,ty,pos,cZ,g⟩
 dsimp only at ay;subst ay
 exact fun s0 ops i sO rest hw s' hs todo Q hk=>azp X.hC sO hw (aZ hx) (aZ hy) hb hk
theorem jeq{m:List Value}{r:Bool}(hg:od X.P T)(he:EqV X.P T (.agg ⟨l⟩) (.agg ⟨m⟩) r)(hj:J X (j8 (.bool r) o))(hv:dE X.n (MX X.n) o=some (.eql,T,.agg ⟨l⟩,.agg ⟨m⟩):=by kernel_rfl):J X o:=by
 refine Rf hv (fun s p e _ hf=>?_) hj
 obtain⟨x,y,T',ay,hx,hy⟩:=ug hf
 rcases p with ⟨dst,op,ty,pos,cZ,g⟩
 dsimp only at ay;subst ay
 exact fun s0 ops i sO rest hw s' hs todo Q hk=>aj9 X.hC sO hw (aZ hx) (aZ hy) hg he hk
theorem jne{m:List Value}{r:Bool}(hg:od X.P T)(he:EqV X.P T (.agg ⟨l⟩) (.agg ⟨m⟩) r)(hj:J X (j8 (.bool !r) o))(hv:dE X.n (MX X.n) o=some (.neq,T,.agg ⟨l⟩,.agg ⟨m⟩):=by kernel_rfl):J X o:=by
 refine Rf hv (fun s p e _ hf=>?_) hj
 obtain⟨x,y,T',ay,hx,hy⟩:=ug hf
 rcases p with ⟨dst,op,ty,pos,cZ,g⟩
 dsimp only at ay;subst ay
 exact fun s0 ops i sO rest hw s' hs todo Q hk=>acF X.hC sO hw (aZ hx) (aZ hy) hg he hk
def Gf(P:Program)(T:TypeId):Bool:=match aW P T with
 |some ⟨.slice _,_,_,_⟩=>true
 |_=>false
theorem Ge(h:Gf P T=true):∃E sz bw z ag,TF P T (.slice E) sz bw z ag:=by
 unfold Gf at h
 split at h<;>try (cases h;done)
 rename_i dM
 obtain⟨bw,tf⟩:=av dM
 exact⟨_,_,_,_,_,tf⟩
theorem jsn{a:Option Addr}{l c:Nat}(T:TypeId)(hj:J X (j8 (.bool a.isNone) o))(hv:dE X.n (MX X.n) o=some (.eql,T,.slice a l c,.slice none 0 0):=by kernel_rfl)(hT:Gf X.P T=true:=by kernel_rfl):J X o:=by
 refine Rf hv (fun s p e _ hf=>?_) hj
 obtain⟨x,y,T',ay,hx,hy⟩:=ug hf
 obtain⟨E,sz,bw,z,ag,tf⟩:=Ge hT
 rcases p with ⟨dst,op,ty,pos,cZ,g⟩
 dsimp only at ay;subst ay
 exact fun s0 ops i sO rest hw s' hs todo Q hk=>aj4 X.hC sO hw tf (aZ hx) (aZ hy) hk
def DW(n:Nat)(e:Env):Option Operand→Option (Option Int)
 |none=>some none
 |some x=>match bh n e x with
  |some (.int _ a)=>some (some a)
  |_=>none
def abz(P:Program)(n:Nat)(p:Oper)(e:Env):Option (ByteArray×Option Int×Option Int):=match p.op with
 | .slice T x y z none=>match aW P T with
  |some ⟨.string,_,_,_⟩=>match bh n e x with
   |some (.string b)=>match DW n e y with
    |some lo=>match DW n e z with
     |some hi=>some (b,lo,hi)
     |none=>none
    |none=>none
   |_=>none
  |_=>none
 |_=>none
def ajx(P:Program)(n:Nat)(p:Oper)(e:Env):Option (Value×Option Int×Option Int×Nat):=match p.op with
 | .slice T x y z none=>match aW P T with
  |some ⟨.slice E,_,_,_⟩=>match aW P E with
   |some te=>match bh n e x with
    |some v=>match DW n e y with
     |some lo=>match DW n e z with
      |some hi=>some (v,lo,hi,te.size)
      |none=>none
     |none=>none
    |none=>none
   |none=>none
  |_=>none
 |_=>none
theorem nH{x:Option Operand}{a:Int}(h:DW n e x=some (some a)):∃y k,x=some y∧bh n e y=some (.int k a):=by
 unfold DW at h
 split at h
 ·cases h
 split at h<;>try (cases h;done)
 rename_i hx
 cases h
 exact⟨_,_,rfl,hx⟩
theorem BT{x:Option Operand}(h:DW n e x=some none):x=none:=by
 unfold DW at h
 split at h
 ·rfl
 split at h<;>cases h
theorem KM{lo hi:Option Int}(h:abz P n p e=some (b,lo,hi)):∃T x y z sz bw zz ag,p.op= .slice T x y z none∧TF P T .string sz bw zz ag∧bh n e x=some (.string b)∧DW n e y=some lo∧DW n e z=some hi:=by
 unfold abz at h
 split at h<;>try (cases h;done)
 rename_i ay
 split at h<;>try (cases h;done)
 rename_i dM
 obtain⟨bw,tf⟩:=av dM
 split at h<;>try (cases h;done)
 rename_i hx
 split at h<;>try (cases h;done)
 rename_i hy
 split at h<;>try (cases h;done)
 rename_i hz
 cases h
 exact⟨_,_,_,_,_,_,_,_,ay,tf,hx,hy,hz⟩
theorem Vf{v:Value}{lo hi:Option Int}(h:ajx P n p e=some (v,lo,hi,k)):∃T x y z E sz bw zz ag d AX z2 ag2,p.op= .slice T x y z none∧TF P T (.slice E) sz bw zz ag∧TF P E d k AX z2 ag2∧bh n e x=some v∧DW n e y=some lo∧DW n e z=some hi:=by
 unfold ajx at h
 split at h<;>try (cases h;done)
 rename_i ay
 split at h<;>try (cases h;done)
 rename_i dM
 obtain⟨bw,tf⟩:=av dM
 split at h<;>try (cases h;done)
 rename_i te tV
 obtain⟨AX,qM⟩:=av tV
 split at h<;>try (cases h;done)
 rename_i hx
 split at h<;>try (cases h;done)
 rename_i hy
 split at h<;>try (cases h;done)
 rename_i hz
 cases h
 exact⟨_,_,_,_,_,_,_,_,_,_,_,_,_,ay,tf,qM,hx,hy,hz⟩
theorem jtB(hl:0≤lo∧lo≤hi∧hi≤b.size)(hj:J X (j8 (.string (b.extract lo.toNat hi.toNat)) o))(hv:dE X.n (abz X.P X.n) o=some (b,some lo,some hi):=by kernel_rfl):J X o:=by
 refine Rf hv (fun s p e _ hf=>?_) hj
 obtain⟨T,x,y,z,sz,bw,zz,ag,ay,tf,hx,hy,hz⟩:=KM hf
 obtain⟨y,k,rfl,Gg⟩:=nH hy
 obtain⟨z,k',rfl,hz1⟩:=nH hz
 rcases p with ⟨dst,op,ty,pos,cZ,g⟩
 dsimp only at ay;subst ay
 exact fun s0 ops i sO rest hw s' hs todo Q hk=>SF X.hC sO hw tf (aZ hx) (aZ Gg) (aZ hz1) hl hk
theorem jtH(hl:0≤hi∧hi≤b.size)(hj:J X (j8 (.string (b.extract 0 hi.toNat)) o))(hv:dE X.n (abz X.P X.n) o=some (b,none,some hi):=by kernel_rfl):J X o:=by
 refine Rf hv (fun s p e _ hf=>?_) hj
 obtain⟨T,x,y,z,sz,bw,zz,ag,ay,tf,hx,hy,hz⟩:=KM hf
 have hy:=BT hy;subst hy
 obtain⟨z,k',rfl,hz1⟩:=nH hz
 rcases p with ⟨dst,op,ty,pos,cZ,g⟩
 dsimp only at ay;subst ay
 exact fun s0 ops i sO rest hw s' hs todo Q hk=>OS X.hC sO hw tf (aZ hx) (aZ hz1) hl hk
theorem jtL(hl:0≤lo∧lo≤b.size)(hj:J X (j8 (.string (b.extract lo.toNat b.size)) o))(hv:dE X.n (abz X.P X.n) o=some (b,some lo,none):=by kernel_rfl):J X o:=by
 refine Rf hv (fun s p e _ hf=>?_) hj
 obtain⟨T,x,y,z,sz,bw,zz,ag,ay,tf,hx,hy,hz⟩:=KM hf
 have hz:=BT hz;subst hz
 obtain⟨y,k,rfl,Gg⟩:=nH hy
 rcases p with ⟨dst,op,ty,pos,cZ,g⟩
 dsimp only at ay;subst ay
 exact fun s0 ops i sO rest hw s' hs todo Q hk=>OQ X.hC sO hw tf (aZ hx) (aZ Gg) hl hk
theorem jcH{v:Value}{enc:α→List Value}{ps:List α}(hs:bE X.ro v sz enc ps)(hl:0≤hi∧hi≤ps.length)(hj:∀v',bE X.ro v' sz enc (ps.take hi.toNat)→J X (j8 v' o))(hv:dE X.n (ajx X.P X.n) o=some (v,none,some hi,sz):=by kernel_rfl):J X o:=by
 obtain⟨a,b,off,cap,rfl,h2,h3,h4⟩:=id hs
 have hp:=bE.part hs (l:=0) (h:=hi.toNat) (by omega) (by omega)
 rw[List.drop_zero] at hp
 refine Rf hv (fun s p e _ hf=>?_) (hj _ hp)
 obtain⟨T,x,y,z,E,s1,bw,zz,ag,d,AX,z2,ag2,ay,tf,qM,hx,hy,hz⟩:=Vf hf
 have hy:=BT hy;subst hy
 obtain⟨z,k',rfl,hz1⟩:=nH hz
 rcases p with ⟨dst,op,ty,pos,cZ,g⟩
 dsimp only at ay;subst ay
 intro s0 ops i sO rest hw s' ni todo Q hk
 refine bR X.hC sO hw (by simp) ?_
 have hb:0≤hi∧hi≤(cap:Int):=by omega
 have gh:(0:Int)≤0∧(0:Int)≤(hi.toNat:Int):=by omega
 rw[←aV] at hk
 simp only[execOp,Option.map_some,Option.map_none,Instr.sliceAt,Instr.slice,aD (aZ (rest:=rest) hx),aD (aZ (rest:=rest) hz1),aa,aX tf,Instr.sliceBounds,Instr.sliceBound,asIntOf,ae,hb,gh,and_self,if_true,cd qM]
 exact hk
theorem jcB{v:Value}{enc:α→List Value}{ps:List α}(hs:bE X.ro v sz enc ps)(hl:0≤lo∧lo≤hi∧hi≤ps.length)(hj:∀v',bE X.ro v' sz enc ((ps.take hi.toNat).drop lo.toNat)→J X (j8 v' o))(hv:dE X.n (ajx X.P X.n) o=some (v,some lo,some hi,sz):=by kernel_rfl):J X o:=by
 obtain⟨a,b,off,cap,rfl,h2,h3,h4⟩:=id hs
 have hp:=bE.part hs (l:=lo.toNat) (h:=hi.toNat) (by omega) (by omega)
 refine Rf hv (fun s p e _ hf=>?_) (hj _ hp)
 obtain⟨T,x,y,z,E,s1,bw,zz,ag,d,AX,z2,ag2,ay,tf,qM,hx,hy,hz⟩:=Vf hf
 obtain⟨y,k,rfl,Gg⟩:=nH hy
 obtain⟨z,k',rfl,hz1⟩:=nH hz
 rcases p with ⟨dst,op,ty,pos,cZ,g⟩
 dsimp only at ay;subst ay
 intro s0 ops i sO rest hw s' ni todo Q hk
 refine bR X.hC sO hw (by simp) ?_
 have hb:0≤hi∧hi≤(cap:Int):=by omega
 have gh:0≤lo∧lo≤(hi.toNat:Int):=by omega
 rw[←aV] at hk
 simp only[execOp,Option.map_some,Option.map_none,Instr.sliceAt,Instr.slice,aD (aZ (rest:=rest) hx),aD (aZ (rest:=rest) Gg),aD (aZ (rest:=rest) hz1),aa,aX tf,Instr.sliceBounds,Instr.sliceBound,asIntOf,ae,hb,gh,and_self,if_true,cd qM]
 exact hk
def lnV(P:Program)(n:Nat)(p:Oper)(e:Env):Option Value:=match p.op with
 | .call ⟨.builtin .len,⟨[x]⟩,⟨[T]⟩⟩=>bif Gf P T then bh n e x else none
 |_=>none
theorem Ao{v:Value}{enc:α→List Value}{ps:List α}{L:Cells}(kM:aA v sz T2 enc ps L)(hj:J X (j8 (.int .i64 ps.length) o))(hv:dE X.n (lnV X.P X.n) o=some v:=by kernel_rfl):J X o:=by
 refine Rf hv (fun s p e _ hf=>?_) hj
 unfold lnV at hf
 split at hf<;>try (cases hf;done)
 rename_i x T ay
 cases hT:Gf X.P T with
 |false=>rw[hT] at hf;cases hf
 |true=>
  rw[hT] at hf;simp only[cond_true] at hf
  obtain⟨E,s1,bw,z,ag,tf⟩:=Ge hT
  rcases p with ⟨dst,op,ty,pos,cZ,g⟩
  dsimp only at ay;subst ay
  exact fun s0 ops i sO rest hw s' hs todo Q hk=>acG X.hC sO hw tf (aZ hf) kM hk
def Yx(ps:List Nat)(v:Value)(L':Cells):Option JS→Option JS:=nj ps v L'
theorem VK{ops:Array Oper}{k:List KI}{w:List Sg}{v:Value}{L':Cells}(ho:ops[i]?=some p):Yx ps v L' (some ⟨.ops ops (i::todo) k,e,w,kn⟩)=some ⟨.ops ops todo k,upd p.dst v e,.l L'::dz ps 0 w,kn⟩:=by
 unfold Yx
 simp only[n9 ho]
def aju(P:Program)(n:Nat)(p:Oper)(e:Env):Option (Addr×List Value×Nat):=match p.op with
 | .store T x y=>match aW P T with
  |some ti=>match bh n e x with
   |some (.pointer (some a))=>match bh n e y with
    |some v=>some (a,dV v,ti.size)
    |none=>none
   |_=>none
  |none=>none
 |_=>none
theorem Vd{a:Addr}(h:aju P n p e=some (a,l,sz)):∃T x y d bw z ag v,p.op= .store T x y∧TF P T d sz bw z ag∧bh n e x=some (.pointer (some a))∧bh n e y=some v∧v.cells=⟨l⟩:=by
 unfold aju at h
 split at h<;>try (cases h;done)
 rename_i ay
 split at h<;>try (cases h;done)
 rename_i ti dM
 obtain⟨bw,tf⟩:=av dM
 split at h<;>try (cases h;done)
 rename_i hx
 split at h<;>try (cases h;done)
 rename_i hy
 cases h
 exact⟨_,_,_,_,_,_,_,_,ay,tf,hx,hy,by rw[mb]⟩
theorem Re{v:Value}{enc:α→List Value}{ps:List α}{L:Cells}{b:Nat}{a:α}(i f:Nat)(c:List Value)(e:α)(kM:aA v sz E enc ps L)(hb:M8 v b)(hk:ps[k]?=some a) (he:enc e=du (enc a) f c) (h1:c.all single=true) (hf:f+c.length≤sz) (hj:∀L',aA v sz E enc (ps.set k e) L'→J X (Yx [i] undef L' o)) (hv:fg X.n (aju X.P X.n) o=some (⟨b,k*sz+f,none⟩,c,c.length):=by kernel_rfl) (h2:dS [i] o=some L:=by kernel_rfl):J X o:=by
 obtain⟨ops,i0,todo,kk,ev,w,kn,p,rfl,ho,hw,hc⟩:=dr hv
 obtain⟨T,x,y,d,bw,z,ag,u,ay,tf,hx,hy,hu⟩:=Vd hc
 intro bV
 rcases p with ⟨dst,op,ty,pos,cZ,g⟩
 dsimp only at ay;subst ay
 refine vG X.hC (bD h2)<|azl X.hC ho hw tf hx hy hu rfl (List.all_eq_true.1 h1) kM hb hk he hf fun L' hL'=>?_
 have:=hj L' hL'
 rw[VK ho] at this
 have:=this bV
 simp only[JP,gE] at this
 exact this
def apV(P:Program)(n:Nat)(p:Oper)(e:Env):Option (Value×Value×TypeId×Nat):=match p.op with
 | .call ⟨.builtin .append,⟨[x,y]⟩,⟨[T,U]⟩⟩=>match aW P T with
  |some ⟨.slice E,_,_,_⟩=>bif Gf P U then (match aW P E with
   |some te=>match P.info? E with
    |some ie=>bif Nat.beq te.zero.length te.size&&Nat.ble ie.bytes 65536 then (match bh n e x with
     |some v=>match bh n e y with
      |some w=>some (v,w,E,te.size)
      |none=>none
     |none=>none) else none
    |none=>none
   |none=>none) else none
  |_=>none
 |_=>none
theorem avh{v w:Value}(h:apV P n p e=some (v,w,E,sz)):∃x y T U s1 b1 z1 a1 E2 s2 b2 z2 a2 d bw z ag,p.op= .call ⟨.builtin .append,#[x,y],#[T,U]⟩∧TF P T (.slice E) s1 b1 z1 a1∧TF P U (.slice E2) s2 b2 z2 a2∧TF P E d sz bw z ag∧z.length=sz∧bw≤65536∧bh n e x=some v∧bh n e y=some w:=by
 unfold apV at h
 split at h<;>try (cases h;done)
 rename_i x y T U ay
 split at h<;>try (cases h;done)
 rename_i E' _ _ _ dM
 obtain⟨b1,tf1⟩:=av dM
 cases hU:Gf P U with
 |false=>rw[hU] at h;cases h
 |true=>
  rw[hU] at h;simp only[cond_true] at h
  obtain⟨E2,s2,b2,z2,a2,qM⟩:=Ge hU
  split at h<;>try (cases h;done)
  rename_i te tV
  obtain⟨b3,tf3⟩:=av tV
  split at h<;>try (cases h;done)
  rename_i ie hie
  cases hb:(Nat.beq te.zero.length te.size&&Nat.ble ie.bytes 65536) with
  |false=>rw[hb] at h;cases h
  |true=>
   rw[hb] at h;simp only[cond_true] at h
   split at h<;>try (cases h;done)
   rename_i hx
   split at h<;>try (cases h;done)
   rename_i hy
   simp only[Option.some.injEq,Prod.mk.injEq] at h
   obtain⟨rfl,rfl,rfl,rfl⟩:=h
   simp only[Bool.and_eq_true,Nat.ble_eq] at hb
   obtain⟨i2,g1,_,g3,_⟩:=tf3.info
   rw[hie] at g1;cases g1
   exact⟨x,y,T,U,_,b1,_,_,E2,s2,b2,z2,a2,_,b3,_,_,ay,tf1,qM,tf3,Nat.eq_of_beq_eq_true hb.1,by omega,hx,hy⟩
theorem kL{v w:Value}{enc:α→List Value}{ps qs:List α}{L:Cells}(is lp:List Nat)(B:Cells)(kM:aA v sz E enc ps L)(JV:∀s:St,Ext ⟨X.ro,[]⟩ s→(∀x∈B,s.has x.1 x.2)→Sl s w sz enc qs)(hq:∀p∈qs,∀c∈enc p,single c=true)(hb:ps.length+qs.length≤1048576)(hj:∀v' L',aA v' sz E enc (ps++qs) L'→J X (Yx is v' L' o))
 (hv:fg X.n (apV X.P X.n) o=some (v,w,E,sz):=by kernel_rfl)(h2:dS is o=some L:=by kernel_rfl)(h3:dS lp o=some B:=by kernel_rfl):J X o:=by
 obtain⟨ops,i0,todo,kk,ev,w0,kn,p,rfl,ho,hw,hc⟩:=dr hv
 obtain⟨x,y,T,U,s1,b1,z1,a1,E2,s2,b2,z2,a2,d,bw,z,ag,ay,tf1,qM,tf3,hz,hby,hx,hy⟩:=avh hc
 intro bV
 rcases p with ⟨dst,op,ty,pos,cZ,g⟩
 dsimp only at ay;subst ay
 have hp:=bD h2
 refine vG X.hC hp<|oap X.hC ho hw tf1 qM tf3 hz hx hy kM (JV _ MA fun u hu=>?_) hq ⟨hb,hby⟩ fun v' L' hL'=>?_
 ·rcases Qz (X:=X) h3 u hu with h|h
  ·exact .inl h
  exact .inr (hp.mem_iff.1 h)
 have:=hj v' L' hL'
 rw[VK ho] at this
 have:=this bV
 simp only[JP,gE] at this
 exact this
theorem aOE{w:Value}(enc:α→List Value){qs:List α}(lp:List Nat)(B:Cells)(JV:∀s:St,Ext ⟨X.ro,[]⟩ s→(∀x∈B,s.has x.1 x.2)→Sl s w sz enc qs)(hq:∀p∈qs,∀c∈enc p,single c=true)(hb:qs.length≤1048576)(hj:∀v' L',aA v' sz E enc qs L'→J X (Yx [] v' L' o))
 (hv:fg X.n (apV X.P X.n) o=some (.slice none 0 0,w,E,sz):=by kernel_rfl)(h3:dS lp o=some B:=by kernel_rfl)(h2:dS [] o=some []:=by kernel_rfl):J X o:=
 kL (ps:=[]) [] lp B (aA.nil sz E enc) JV hq (by simpa using hb) (fun v' L' h=>hj v' L' h) hv h2 h3
end
attribute [irreducible] Yx
end Go.L

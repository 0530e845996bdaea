/- Part 4 of the proof. -/
import Derived.Test.YtknkndglfcfhkaaGreatDoorV3
import Derived.KernelRfl
import GoSem.Extern.Table
set_option maxRecDepth 100000
set_option linter.all false
namespace Go.L
open Go Go.Conc
variable {ro aG:Nat→Option Obj} {x y:Operand} {α ι β:Type} {vs l args z':List Value} {T E T' T2 U:TypeId} {f:FuncId} {e:Env} {b sz k n off i szo iq vg cap id:Nat} {P:Program} {R:Ending→St→Prop} {Φ:Value→Cells→Prop} {s:St} {todo mU hs ps:List Nat} {fz:Nat×Nat} {o p:Oper} {xs:Array Operand} {at_:Array TypeId} {Y B rw' fr:Cells} {g w9:Bool} {lo hi:Int}
theorem cB.part{o m:Nat}{ws:List Value}(h:cB s b o m vs)(j k:Nat)(hj:sub vs j k=some ws):cB s b (o+j) k ws:=by
 obtain⟨l,t,fz,h1,h2⟩:=h
 obtain⟨h3,h4⟩:=sub_eq _ _ _ _ h2
 obtain⟨h5,h6⟩:=sub_eq _ _ _ _ hj
 refine⟨l,t,fz,h1,?_⟩
 have hlen:(o+j)+k≤l.length:=by
  rcases Nat.eq_zero_or_pos k with h0|h0
  ·subst h0
   have:o+j≤l.length:=by
    have h7:sub vs j 0=some ws:=hj
    have hjl:j≤vs.length:=by
     have key:∀(l:List Value) (j:Nat) (ws:List Value),sub l j 0=some ws→j≤l.length:=by
      intro l
      induction l with
      |nil=>intro j ws h;cases j with
       |zero=>simp
       |succ j=>simp[sub] at h
      |cons x l ih=>intro j ws h;cases j with
       |zero=>simp
       |succ j=>have:=ih j ws (by simpa [sub] using h);simp;omega
     exact key _ _ _ h7
    have hol:o+m≤l.length∨m=0:=by
     rcases Nat.eq_zero_or_pos m with h8|h8
     ·exact .inr h8
     left
     have:=h4 (m-1) vs[m-1] (by rw[List.getElem?_eq_getElem])
     have:=(List.getElem?_eq_some_iff.1 this).1
     omega
    rcases hol with h9|h9
    ·omega
    have aO1:∀(l:List Value) (o:Nat) (ws:List Value),sub l o 0=some ws→o≤l.length:=by
     intro l
     induction l with
     |nil=>intro j ws h;cases j with
      |zero=>simp
      |succ j=>simp[sub] at h
     |cons x l ih=>intro j ws h;cases j with
      |zero=>simp
      |succ j=>have:=ih j ws (by simpa [sub] using h);simp;omega
    rw[h9] at h2
    have:=aO1 _ _ _ h2
    omega
   omega
  have:=h6 (k-1) ws[k-1] (by rw[List.getElem?_eq_getElem])
  have:=h4 _ _ this
  have:=(List.getElem?_eq_some_iff.1 this).1
  omega
 rw[iO hlen]
 congr 1
 apply List.ext_getElem?
 intro i
 by_cases hi:i <k
 ·have h7:=h4 _ _ (h6 i ws[i] (by rw[List.getElem?_eq_getElem]))
  rw[List.getElem?_take_of_lt hi,List.getElem?_drop,List.getElem?_eq_getElem (show i <ws.length by omega),←h7,Nat.add_assoc]
 rw[List.getElem?_eq_none (by simp;omega),List.getElem?_eq_none (by omega)]
def GH(ag:Bool)(l:List Value)(o sz:Nat):Option Value:=bif ag then (match sub l o sz with|some m=>some (.agg ⟨m⟩)|none=>none) else nth l o
theorem Xm{t:TypeId}{z:List Value}{d:TypeDesc}{bC:Nat}{ag:Bool}(tf:TF P t d sz bC z ag){o:Nat}{v:Value}(hv:GH ag l o sz=some v){k:Value→Sem α}{Q:α→St→Prop}{E:Halt→St→Prop}:bP P (part t ⟨l⟩ o >>= k) s Q E=bP P (k v) s Q E:=by
 cases ag with
 |false=>exact MT tf hv
 |true=>
  simp only[GH,cond_true] at hv
  split at hv
  ·rename_i m hm
   cases hv
   exact MS tf hm
  cases hv
section rules
variable {P:Program} {C:Class} {fn:FuncId} {az:Option Nat} {Q:Post} {s:St} {n:Nat} {env:Env} {D:List Deferred}
variable {ops:Array Oper} {i:Nat} {rest:List Nat} {dst:Option Tmp} {ty:TypeId} {pos:String} {cZ:Array Edge} {g:Option (Nat×Bool)}
variable {T:TypeId} {d:TypeDesc} {sz bC:Nat} {z:List Value} {ag:Bool}
theorem afE(hC:∀main T,C main T→Closed P main T){k:IntKind}{ix:Int}{len:Nat}{d':TypeDesc}{v:Value}(ho:ops[i]?=some ⟨dst,.index T x y,ty,pos,cZ,g⟩) (hw:aw ops n env g=true)
 (tf:TF P T (.array len E) sz bC z ag) (jN:TF P E d' iq vg z' w9) (hx:bn n env x=some (.agg ⟨l⟩)) (hy:bn n env y=some (.int k ix)) (hi:0≤ix∧ix <len) (hv:GH w9 l (ix.toNat*iq) iq=some v)
 (h:ab C fn az ops rest Q (A n (upd dst v env) D) s):ab C fn az ops (i::rest) Q (A n env D) s:=by
 refine bR hC ho hw (by simp) ?_
 simp only[execOp,Instr.index,aF hx,aF hy,asIntOf,asAgg,aa,ae,aZ tf,hi,and_self,if_true,cg jN]
 rw[Xm jN hv,←aW] at*
 exact h
end rules
section rules
variable {P:Program} {C:Class} {fn:FuncId} {az:Option Nat} {Q:Post} {s:St} {n:Nat} {env:Env} {D:List Deferred}
variable {ops:Array Oper} {i:Nat} {rest:List Nat} {dst:Option Tmp} {ty:TypeId} {pos:String} {cZ:Array Edge} {g:Option (Nat×Bool)}
theorem wr(hC:∀main T,C main T→Closed P main T){l:List Nat}(hl:List.range ops.size=l)(h:ab C fn az ops l Q (A n env D) s):Wp C fn az (.region id ops false) Q (A n env D) s:=wp_region hC (hl▸h)
theorem on(hC:∀main T,C main T→Closed P main T){K:Act→St→Prop}(h:K (A n env D) s):ab C fn az ops [] (lR K Q) (A n env D) s:=tV hC h
end rules
theorem c:∀main T,CP P main T→Closed P main T:=eQ
def aS(k:IntKind)(a b:Int):Int:=a.fdiv (2^(min b.toNat k.bits))
def dC(k:IntKind)(a b:Int):Int:=k.wrap (a*2^(min b.toNat k.bits))
def U3(k:IntKind)(a b:Int):Int:=k.wrap (BitVec.ofInt k.bits a&&& BitVec.ofInt k.bits b).toNat
def LX(k:IntKind)(a b:Int):Int:=k.wrap (BitVec.ofInt k.bits a|||BitVec.ofInt k.bits b).toNat
def c8(k:IntKind)(a b:Int):Int:=k.wrap (BitVec.ofInt k.bits a^^^BitVec.ofInt k.bits b).toNat
theorem Pv(k:IntKind)(h:k.signed=false)(n:Int):0≤k.wrap n∧k.wrap n <2^k.bits:=by
 have hp:(0:Int) <2^k.bits:=Int.pow_pos (by decide)
 simp only[IntKind.wrap,h,Bool.false_and,Bool.false_eq_true,if_false]
 exact⟨Int.emod_nonneg _ (by omega),Int.emod_lt_of_pos _ hp⟩
theorem sE(k:IntKind)(h:k.signed=false)(n:Int)(h0:0≤n)(h1:n <2^k.bits):k.wrap n=n:=by
 simp only[IntKind.wrap,h,Bool.false_and,Bool.false_eq_true,if_false]
 exact Int.emod_eq_of_lt h0 h1
theorem ug(a b:Int):0≤c8 .u64 a b∧c8 .u64 a b <18446744073709551616:=Pv .u64 rfl _
theorem aOG{p0 p1 p2 p3 x:Int}(h: [p0,p1,p2,p3][k]?=some x):nth [.int .i64 p0,.int .i64 p1,.int .i64 p2,.int .i64 p3] k=some (.int .i64 x):=by
 rcases k with _|_|_|_|k
 all_goals first| (simp at h;subst h;rfl)|simp at h
theorem dO.aBz{own:Cells}(hp:s.rw.Perm (own++fr))(hf:dO P f vs s.ro own Φ):
 Fn (CP P) P f ⟨vs⟩ s (fun en s'=>∃v X,en= .returned v∧Φ v X∧(⟨s.ro,X++fr⟩:St).le s'):=by
 refine Fn.mono (Fn.frame (fr:=fr) (B:=[]) (ro:=s.ro) (s:=s) hf (fun _ h=>(by cases h)) ⟨hp,fun b o hb=> .inl hb,Sub.refl _⟩) fun en s' DR=>?_
 obtain⟨yN,⟨v,X,rfl,rfl,qj⟩,hc⟩:=DR
 exact⟨v,X,rfl,qj,[],by simpa using hc.rw,fun b o hb=> .inl (hc.keep b o hb)⟩
def Knows(ro:Nat→Option Obj)(X:Cells):Prop:=∀x∈X,ro x.1=some x.2
theorem Knows.up{X:Cells}(h:Knows ro X)(hs:Sub ro aG):Knows aG X:=fun x hx=>hs _ _ (h x hx)
theorem Knows.left{X:Cells}(h:Knows ro (X++Y)):Knows ro X:=fun x hx=>h x (List.mem_append_left _ hx)
theorem Knows.right{X:Cells}(h:Knows ro (X++Y)):Knows ro Y:=fun x hx=>h x (List.mem_append_right _ hx)
theorem Knows.tail{x:Nat×Obj}(h:Knows ro (x::Y)):Knows ro Y:=fun y hy=>h y (List.mem_cons_of_mem _ hy)
theorem Knows.head{x:Nat×Obj}(h:Knows ro (x::Y)):ro x.1=some x.2:=h x List.mem_cons_self
theorem xo{enc:α→List Value}{ps:List α}(h:s.has b (.cells ⟨(ps.map enc).flatten⟩ T fz))(hl:∀p∈ps,(enc p).length=sz){x:α}(hx:ps[k]?=some x):cB s b (0+k*sz) sz (enc x):=by
 have h2:=CY ps hl k x hx
 have hm:x∈ps:=List.mem_of_getElem? hx
 have h3:=hl x hm
 refine⟨_,T,fz,h,?_⟩
 rw[Nat.zero_add,iO,h2]
 rw[j6 ps hl]
 have:=(List.getElem?_eq_some_iff.1 hx).1
 calc k*sz+sz=(k+1)*sz:=by rw[Nat.succ_mul]
  _≤ps.length*sz:=Nat.mul_le_mul_right _ (by omega)
theorem bU{enc:α→List Value}(ps:List α)(h:ro b=some (.cells ⟨(ps.map enc).flatten⟩ T fz))(hl:∀p∈ps,(enc p).length=sz):bD ro (.slice (some ⟨b,0,none⟩) ps.length ps.length) sz enc ps:=
 ⟨_,b,0,_,rfl,Nat.le_refl _,fun _ _=>rfl,fun _ _ hx=>xo (.inl h) hl hx⟩
section rules
variable {P:Program} {C:Class} {fn:FuncId} {az:Option Nat} {Q:Post} {s:St} {n:Nat} {env:Env} {D:List Deferred}
variable {ops:Array Oper} {i:Nat} {rest:List Nat} {dst:Option Tmp} {ty:TypeId} {pos:String} {cZ:Array Edge} {g:Option (Nat×Bool)}
variable {T:TypeId} {d:TypeDesc} {sz bC:Nat} {z:List Value} {ag:Bool}
theorem aD4(hC:∀main T,C main T→Closed P main T){k k':IntKind}{a b:Int}(ho:ops[i]?=some ⟨dst,.binOp .shr T x y T',ty,pos,cZ,g⟩) (hw:aw ops n env g=true)
 (hx:bn n env x=some (.int k a)) (hy:bn n env y=some (.int k' b)) (hb:0≤b) (h:ab C fn az ops rest Q (A n (upd dst (.int k (aS k a b)) env) D) s):ab C fn az ops (i::rest) Q (A n env D) s:=by
 refine sY hC ho hw (by simp) ?_ h
 simp only[execOp,aF hx,aF hy]
 have he:eqGuard .shr T x y (.int k a) (.int k' b)=Sem.pure ():=rfl
 have hv:binOp .shr T (.int k a) (.int k' b)=Sem.pure (.int k (aS k a b)):=by
  show Op.shift .shr k a k' b=_
  simp only[Op.shift,show ¬b <0 by omega,if_false];rfl
 rw[he]
 show Sem.bind (Sem.bind (Sem.pure ()) fun _=>binOp .shr T (.int k a) (.int k' b)) _=_
 simp only[Sem.bind,hv]
 rfl
theorem aD5(hC:∀main T,C main T→Closed P main T){k k':IntKind}{a b:Int}(ho:ops[i]?=some ⟨dst,.binOp .shl T x y T',ty,pos,cZ,g⟩) (hw:aw ops n env g=true)
 (hx:bn n env x=some (.int k a)) (hy:bn n env y=some (.int k' b)) (hb:0≤b) (h:ab C fn az ops rest Q (A n (upd dst (.int k (dC k a b)) env) D) s):ab C fn az ops (i::rest) Q (A n env D) s:=by
 refine sY hC ho hw (by simp) ?_ h
 simp only[execOp,aF hx,aF hy]
 have he:eqGuard .shl T x y (.int k a) (.int k' b)=Sem.pure ():=rfl
 have hv:binOp .shl T (.int k a) (.int k' b)=Sem.pure (.int k (dC k a b)):=by
  show Op.shift .shl k a k' b=_
  simp only[Op.shift,show ¬b <0 by omega,if_false];rfl
 rw[he]
 show Sem.bind (Sem.bind (Sem.pure ()) fun _=>binOp .shl T (.int k a) (.int k' b)) _=_
 simp only[Sem.bind,hv]
 rfl
end rules
theorem bK{enc:α→List Value}(ps:List α)(h:s.has b (.cells ⟨(ps.map enc).flatten⟩ T fz))(hl:∀p∈ps,(enc p).length=sz):Sl s (.slice (some ⟨b,0,none⟩) ps.length cap) sz enc ps:=
 ⟨_,b,0,cap,rfl,fun _ _=>rfl,fun _ _ hx=>xo h hl hx⟩
theorem bA{enc:α→List Value}:ax (.slice (some ⟨b,0,none⟩) 0 0) sz T enc ([]:List α) [(b,.cells ⟨[]⟩ T (0,0))]:=
 .inr ⟨b,[],0,rfl,rfl,by simp,by simp,by simp,by simp⟩
theorem ax.form{v:Value}{enc:α→List Value}{ps:List α}{L:Cells}(h:ax v sz T enc ps L):∃a c,v= .slice a ps.length c:=by
 rcases h with ⟨h1,h2,_⟩| ⟨b,l,cap,h1,_⟩
 ·subst h2;exact⟨none,0,h1⟩
 exact⟨_,cap,h1⟩
def OT(v:Value)(b:Nat):Prop:=∃n c,v= .slice (some ⟨b,0,none⟩) n c
theorem cK{v:Value}{enc:α→List Value}{ps:List α}{L:Cells}(h:ax v sz T enc ps L)(hb:OT v b)(hs:∀x∈L,s.has x.1 x.2){x:α}(hx:ps[k]?=some x):cB s b (k*sz) sz (enc x):=by
 obtain⟨a,b',o,c,h1,h2,h3⟩:=h.sl hs
 have hk:=(List.getElem?_eq_some_iff.1 hx).1
 have h4:=h2 k hk
 obtain⟨n,c',h5⟩:=hb
 rw[h1] at h5
 cases h5
 cases h4
 have:=h3 k x hx
 rwa[Nat.zero_add] at this
theorem aDY{v:Value}{enc:α→List Value}{ps:List α}{L:Cells}(h:ax v sz T enc ps L)(hk:k <ps.length):∃b,OT v b:=by
 rcases h with ⟨_,h2,_⟩| ⟨b,l,cap,h1,_⟩
 ·subst h2;simp at hk
 exact⟨b,_,_,h1⟩
theorem Ss{enc:α→List Value}:∀(ps:List α),(∀p∈ps,(enc p).length=sz)→∀(k:Nat) (x:α),(enc x).length=sz→k <ps.length→∀l:List Value,l.take (ps.length*sz)=(ps.map enc).flatten→(dB l (k*sz) (enc x)).take (ps.length*sz)=((ps.set k x).map enc).flatten:=by
 intro ps Vl k x hx hk l hl
 have hle:ps.length*sz≤l.length:=by
  have h1:=j6 ps Vl
  rw[←hl,List.length_take] at h1
  omega
 have hks:k*sz+sz≤ps.length*sz:=by
  have:(k+1)*sz≤ps.length*sz:=Nat.mul_le_mul_right _ (by omega)
  rw[Nat.succ_mul] at this;exact this
 have hA:((ps.take k).map enc).flatten.length=k*sz:=by
  rw[j6 _ (fun p hp=>Vl p (List.mem_of_mem_take hp)),List.length_take,Nat.min_eq_left (by omega)]
 have hC:((ps.drop (k+1)).map enc).flatten.length=(ps.length-(k+1))*sz:=by
  rw[j6 _ (fun p hp=>Vl p (List.mem_of_mem_drop hp)),List.length_drop]
 have hB:=Vl ps[k] (List.getElem_mem hk)
 have awb:(ps.map enc).flatten=((ps.take k).map enc).flatten++(enc ps[k]++((ps.drop (k+1)).map enc).flatten):=by
  have h3:ps=ps.take k++ps[k]::ps.drop (k+1):=by rw[←List.drop_eq_getElem_cons hk,List.take_append_drop]
  have h4:=congrArg (fun q:List α=>(q.map enc).flatten) h3
  simp only[List.map_append,List.map_cons,List.flatten_append,List.flatten_cons] at h4
  exact h4
 have qO:l=((ps.take k).map enc).flatten++(enc ps[k]++(((ps.drop (k+1)).map enc).flatten++l.drop (ps.length*sz))):=by
  have h3:=(List.take_append_drop (ps.length*sz) l).symm
  rw[hl,awb] at h3
  simp only[List.append_assoc] at h3
  exact h3
 have oS:((ps.set k x).map enc).flatten=((ps.take k).map enc).flatten++(enc x++((ps.drop (k+1)).map enc).flatten):=by
  rw[List.set_eq_take_append_cons_drop,if_pos hk]
  simp only[List.map_append,List.map_cons,List.flatten_append,List.flatten_cons]
 have aQz:dB l (k*sz) (enc x)=((ps.take k).map enc).flatten++(enc x++(((ps.drop (k+1)).map enc).flatten++l.drop (ps.length*sz))):=by
  rw[qY _ _ _ (by omega),hx,List.append_assoc]
  congr 1
  ·conv=>lhs;rw[qO]
   rw[←hA,List.take_left]
  congr 1
  conv=>lhs;rw[qO]
  rw[←List.append_assoc,←List.append_assoc,List.append_assoc _ _ (List.drop _ _)]
  rw[show k*sz+sz=(((ps.take k).map enc).flatten++enc ps[k]).length by rw[List.length_append,hA,hB],List.drop_left]
 rw[aQz,oS,←List.append_assoc,←List.append_assoc]
 have hlen:(((ps.take k).map enc).flatten++enc x++((ps.drop (k+1)).map enc).flatten).length=ps.length*sz:=by
  rw[List.length_append,List.length_append,hA,hx,hC]
  have:ps.length*sz=(k+1+(ps.length-(k+1)))*sz:=by congr 1;omega
  rw[this,Nat.add_mul,Nat.succ_mul]
 rw[←hlen,List.take_left,List.append_assoc]
section rules
variable {P:Program} {C:Class} {fn:FuncId} {az:Option Nat} {Q:Post} {s:St} {n:Nat} {env:Env} {D:List Deferred}
variable {ops:Array Oper} {i:Nat} {rest:List Nat} {dst:Option Tmp} {ty:TypeId} {pos:String} {cZ:Array Edge} {g:Option (Nat×Bool)}
variable {T:TypeId} {d:TypeDesc} {sz bC:Nat} {z:List Value} {ag:Bool}
theorem UG(hC:∀main T,C main T→Closed P main T){w:Operand}{k k':IntKind}{b:ByteArray}(ho:ops[i]?=some ⟨dst,.slice T x (some y) (some w) none,ty,pos,cZ,g⟩) (hw:aw ops n env g=true) (tf:TF P T .string sz bC z ag)
 (hx:bn n env x=some (.string b)) (hy:bn n env y=some (.int k lo)) (hz:bn n env w=some (.int k' hi)) (hl:0≤lo∧lo≤hi∧hi≤b.size) (h:ab C fn az ops rest Q (A n (upd dst (.string (b.extract lo.toNat hi.toNat)) env) D) s):ab C fn az ops (i::rest) Q (A n env D) s:=by
 refine bR hC ho hw (by simp) ?_
 have h1:0≤hi∧hi≤(b.size:Int):=by omega
 have h2:0≤lo∧lo≤(hi.toNat:Int):=by omega
 simp only[execOp,Option.map_some,Option.map_none,Instr.sliceAt,Instr.slice,aF hx,aF hy,aF hz,aa,aZ tf,Instr.sliceBounds,Instr.sliceBound,asIntOf,ae,Option.isSome_none,Bool.false_eq_true,if_false,h1,h2,and_self,if_true]
 rw[←aW] at h
 exact h
theorem QH(hC:∀main T,C main T→Closed P main T){w:Operand}{k':IntKind}{b:ByteArray}(ho:ops[i]?=some ⟨dst,.slice T x none (some w) none,ty,pos,cZ,g⟩) (hw:aw ops n env g=true) (tf:TF P T .string sz bC z ag)
 (hx:bn n env x=some (.string b)) (hz:bn n env w=some (.int k' hi)) (hl:0≤hi∧hi≤b.size) (h:ab C fn az ops rest Q (A n (upd dst (.string (b.extract 0 hi.toNat)) env) D) s):ab C fn az ops (i::rest) Q (A n env D) s:=by
 refine bR hC ho hw (by simp) ?_
 simp only[execOp,Option.map_some,Option.map_none,Instr.sliceAt,Instr.slice,aF hx,aF hz,aa,aZ tf,Instr.sliceBounds,Instr.sliceBound,asIntOf,ae,Option.isSome_none,Bool.false_eq_true,if_false,hl,and_self,if_true]
 rw[←aW] at h
 exact h
theorem QG(hC:∀main T,C main T→Closed P main T){k:IntKind}{b:ByteArray}(ho:ops[i]?=some ⟨dst,.slice T x (some y) none none,ty,pos,cZ,g⟩) (hw:aw ops n env g=true) (tf:TF P T .string sz bC z ag)
 (hx:bn n env x=some (.string b)) (hy:bn n env y=some (.int k lo)) (hl:0≤lo∧lo≤b.size) (h:ab C fn az ops rest Q (A n (upd dst (.string (b.extract lo.toNat b.size)) env) D) s):ab C fn az ops (i::rest) Q (A n env D) s:=by
 refine bR hC ho hw (by simp) ?_
 simp only[execOp,Option.map_some,Option.map_none,Instr.sliceAt,Instr.slice,aF hx,aF hy,aa,aZ tf,Instr.sliceBounds,Instr.sliceBound,asIntOf,ae,Option.isSome_none,Bool.false_eq_true,if_false,hl,and_self,if_true]
 rw[←aW] at h
 exact h
theorem bD.part{a:Option Addr}{len:Nat}{enc:α→List Value}{ps:List α}(hs:bD ro (.slice a len cap) sz enc ps){l h:Nat}(hl:l≤h)(hh:h≤ps.length):bD ro (.slice (if cap=l then a else a.map (·.add (l*sz))) (h-l) (cap-l)) sz enc ((ps.take h).drop l):=by
 obtain⟨a',b,o,aUJ,h1,h2,h3,h4⟩:=hs
 cases h1
 have hlen:((ps.take h).drop l).length=h-l:=by rw[List.length_drop,List.length_take];omega
 refine⟨_,b,o+l*sz,_,by rw[hlen],by omega,fun k hk=>?_,fun i p hp=>?_⟩
 ·have:=h3 0 (by omega)
  subst this
  rw[if_neg (by omega)]
  simp[dI]
 rw[List.getElem?_drop] at hp
 have hi:l+i <h:=by
  have:=(List.getElem?_eq_some_iff.1 hp).1
  rw[List.length_take] at this;omega
 rw[List.getElem?_take_of_lt hi] at hp
 have:=h4 _ _ hp
 rwa[show o+(l+i)*sz=o+l*sz+i*sz by rw[Nat.add_mul];omega] at this
theorem afC(hC:∀main T,C main T→Closed P main T){v:Value}{enc:α→List Value}{ps:List α}{L:Cells}(ho:ops[i]?=some ⟨dst,.call ⟨.builtin .len,#[x],#[T]⟩,ty,pos,cZ,g⟩) (hw:aw ops n env g=true)
 (tf:TF P T (.slice E) sz bC z ag) (hx:bn n env x=some v) (kJ:ax v szo T2 enc ps L) (h:ab C fn az ops rest Q (A n (upd dst (.int .i64 ps.length) env) D) s):ab C fn az ops (i::rest) Q (A n env D) s:=by
 obtain⟨a,c,rfl⟩:=kJ.form
 exact aD9 hC ho hw tf hx h
end rules
theorem dJ{K J:Cells}(hp:rw'.Perm (K++J))(h:Sub ro aG):(⟨ro,K⟩:St).le ⟨aG,rw'⟩:=⟨J,hp,fun b o hb=> .inl (h b o hb)⟩
theorem aj(h:l.all single=true):∀v∈l,single v=true:=List.all_eq_true.1 h
section any
variable {P:Program} {C:Class} {fn:FuncId} {az:Option Nat} {Q:Post} {s:St} {n:Nat} {D:List Deferred} {ops:Array Oper} {base:Env}
def asD(C:Class)(fn:FuncId)(az:Option Nat)(ops:Array Oper)(n:Nat)(D:List Deferred)(base:Env)(Pl Sl:List (Nat×Value))(Q:Post)(s:St)(i:Nat):Prop:=
 ∀rest todo,(∀v s',(∀j w,(j,w)∈pending ops i Sl→eN C fn az ops n D j w (cw ops base j Pl) s→eN C fn az ops n D j w (cw ops base j Pl) s')→
  tD C fn az ops n D base ((i,v)::Pl) (pending ops i Sl) Q s'→ab C fn az ops todo Q (A n (upd (aQ ops i) v (cw ops base i Pl++rest)) D) s')→
  ab C fn az ops (i::todo) Q (A n (cw ops base i Pl++rest) D) s
def xQ(C:Class)(fn:FuncId)(az:Option Nat)(ops:Array Oper)(n:Nat)(D:List Deferred)(base:Env)(Pl Sl:List (Nat×Value))(Q:Post)(s:St):List Nat→Prop
 | []=>True
 |i::is=>asD C fn az ops n D base Pl Sl Q s i∧xQ C fn az ops n D base Pl Sl Q s is
theorem xQ.mem{Pl Sl:List (Nat×Value)}:∀ {is:List Nat},xQ C fn az ops n D base Pl Sl Q s is→∀i∈is,asD C fn az ops n D base Pl Sl Q s i
 | [],_,i,hi=>by cases hi
 |k::is,h,i,hi=>by
  rcases List.mem_cons.1 hi with rfl|hi
  ·exact h.1
  exact xQ.mem h.2 i hi
def afx(ops:Array Oper)(ks:List Nat)(is:List Nat):Bool:=
 (List.range ops.size).all fun j=>bh j ks||bh j is||(bp ops j).any fun k=> !bh k ks
theorem acy{Pl Sl:List (Nat×Value)}(is:List Nat)(mJ:fD ops=true)(his:(is.all fun i=>Nat.blt i ops.size&& !bh i (ak Pl))=true)(lZ:nodupB (ak Pl)=true)(jI:oR ops (ak Pl)=true)(hs:fE (ak Sl) (ak Pl)=true)(ho:afx ops (ak Pl) is=true)
 (h:xQ C fn az ops n D base Pl Sl Q s is)(dL:is.isEmpty=false):tD C fn az ops n D base Pl Sl Q s:=by
 have qN:∀i∈is,i∉ak Pl:=fun i hi hm=>by
  have:=(List.all_eq_true.1 his) i hi
  rw[aJ.2 hm] at this;simp at this
 have J1:∀i∈is,i <ops.size:=fun i hi=>by
  have:=(List.all_eq_true.1 his) i hi
  simp only[Bool.and_eq_true,Nat.blt_eq] at this
  exact this.1
 have Hq:∀(l:List (Nat×Value)),nodupB (ak l)=true→∀j v w,(j,v)∈l→(j,w)∈l→w=v:=by
  intro l
  induction l with
  |nil=>intro _ j v w h;cases h
  |cons x l ih=>
   rcases x with ⟨k,u⟩
   intro hb j v w h1 h2
   simp only[ak,nodupB,Bool.and_eq_true,Bool.not_eq_true'] at hb
   have hk:k∉ak l:=fun hm=>by rw[aJ.2 hm] at hb;cases hb.1
   rcases List.mem_cons.1 h1 with h1|h1<;>rcases List.mem_cons.1 h2 with h2|h2
   ·cases h1;cases h2;rfl
   ·cases h1;exact absurd (aP.2 ⟨_,h2⟩) hk
   ·cases h2;exact absurd (aP.2 ⟨_,h1⟩) hk
   exact ih hb.2 j v w h1 h2
 intro hSl X l
 induction l generalizing X with
 |nil=>
  intro env hX hl oT hf
  cases is with
  |nil=>cases dL
  |cons i is=>exact absurd (hX i (oT i (J1 i List.mem_cons_self))) (qN i List.mem_cons_self)
 |cons j l ih=>
  intro env hX hl oT hf
  obtain⟨h1,h2,h3,h4⟩:=oT
  by_cases hj:j∈ak Pl
  ·
   obtain⟨w,hw⟩:=aP.1 hj
   obtain⟨rest,hr⟩:=wI (n:=n) (D:=D) hf j h3 h2
   rw[hr]
   refine hSl j w (hl j w hw h2) s (Ext.refl s) rest l Q ?_
   rw[←Dl hr]
   refine ih (j::X) _ (fun k hk=>?_) (fun k u hk BL=>hl k u hk (fun h=>BL (List.mem_cons_of_mem _ h))) h4 (tt mJ hf h1 h2 h3 (fun u hu=>Hq Pl lZ j w u hw hu))
   rcases List.mem_cons.1 hk with rfl|hk
   ·exact hj
   exact hX k hk
  by_cases Ae:j∈is
  ·have h:=xQ.mem h j Ae
   have qN:=qN j Ae
   obtain⟨rest,hr⟩:=wI (n:=n) (D:=D) hf j h3 h2
   rw[hr]
   refine h rest l fun v s' hp ha=>?_
   rw[←Dl hr]
   have N4:∀k,k∈ak Pl→j∉bp ops k:=by
    intro k hk hm
    have:=(List.all_eq_true.1 jI) k hk
    exact qN (bN.1 this j hm)
   have Vl:∀k u,(k,u)∈pending ops j Sl→(k,u)∈Sl:=fun k u hk=>(List.mem_filter.1 hk).1
   refine ha (fun k u hk=>?_) (j::X) l _ (fun k hk=>?_) (fun k u hk BL=>?_) h4 ?_
   ·rw[cW (N4 k (bN.1 hs k (aP.2 ⟨u,Vl k u hk⟩)))]
    exact hp k u hk (hSl k u (Vl k u hk))
   ·rcases List.mem_cons.1 hk with rfl|hk
    ·simp[ak]
    exact List.mem_cons_of_mem _ (hX k hk)
   ·rcases List.mem_cons.1 hk with hk|hk
    ·cases hk;exact absurd (by simp) BL
    have N1:k∉X:=fun h=>BL (List.mem_cons_of_mem _ h)
    refine List.mem_filter.2 ⟨hl k u hk N1,?_⟩
    cases hm:bh k (bp ops j) with
    |false=>rfl
    |true=>exact absurd (h3 k (aJ.1 hm)) N1
   refine tt mJ (CZ hf h2) h1 h2 h3 fun u hu=>?_
   rcases List.mem_cons.1 hu with hu|hu
   ·cases hu;rfl
   exact absurd (aP.2 ⟨_,hu⟩) qN
  exfalso
  have:=(List.all_eq_true.1 ho) j (List.mem_range.2 h1)
  have e1:bh j (ak Pl)=false:=by
   cases hm:bh j (ak Pl) with
   |false=>rfl
   |true=>exact absurd (aJ.1 hm) hj
  have e2:bh j is=false:=by
   cases hm:bh j is with
   |false=>rfl
   |true=>exact absurd (aJ.1 hm) Ae
  rw[e1,e2] at this
  simp only[Bool.false_or,List.any_eq_true,Bool.not_eq_true'] at this
  obtain⟨k,hk,bX⟩:=this
  have:=hX k (h3 k hk)
  rw[aJ.2 this] at bX;cases bX
end any
section rules
variable {P:Program} {C:Class} {fn:FuncId} {az:Option Nat} {Q:Post} {s:St} {n:Nat} {env:Env} {D:List Deferred}
variable {ops:Array Oper} {i:Nat} {rest:List Nat} {dst:Option Tmp} {ty:TypeId} {pos:String} {cZ:Array Edge} {g:Option (Nat×Bool)}
variable {T:TypeId} {d:TypeDesc} {sz bC:Nat} {z:List Value} {ag:Bool} {ro:Nat→Option Obj}
theorem vV{a:Act}(hC:∀main T,C main T→Closed P main T){rw:Cells}(hp:rw'.Perm rw)(h:ab C fn az ops todo Q a ⟨ro,rw⟩):ab C fn az ops todo Q a ⟨ro,rw'⟩:=
 ab.more (s:=⟨ro,rw⟩) (s':=⟨ro,rw'⟩) hC ⟨[],by rw[List.append_nil];exact hp,fun b o hb=> .inl hb⟩ h
theorem oap(hC:∀main T,C main T→Closed P main T){v w:Value}{enc:α→List Value}{ps qs:List α}{L R:List (Nat×Obj)}{d':TypeDesc}{E2:TypeId}{sz2 Aj:Nat}{z2:List Value}{ag2:Bool} 
 (ho:ops[i]?=some ⟨dst,.call ⟨.builtin .append,#[x,y],#[T,U]⟩,ty,pos,cZ,g⟩) (hw:aw ops n env g=true) (tf:TF P T (.slice E) sz bC z ag) (Tf:TF P U (.slice E2) sz2 Aj z2 ag2) (jN:TF P E d' iq vg z' w9) (hz:z'.length=iq)
 (hx:bn n env x=some v) (hy:bn n env y=some w) (kJ:ax v iq E enc ps L) (LZ:Sl ⟨ro,L++R⟩ w iq enc qs) (hq:∀p∈qs,∀c∈enc p,single c=true) (hb:vX (ps.length+qs.length) vg)
 (h:∀v' L',ax v' iq E enc (ps++qs) L'→ab C fn az ops rest Q (A n (upd dst v' env) D) ⟨ro,L'++R⟩):ab C fn az ops (i::rest) Q (A n env D) ⟨ro,L++R⟩:=
 QL hC ho hw tf Tf jN hz hx hy kJ LZ (pre:=[]) rfl hq hb h
theorem ost(hC:∀main T,C main T→Closed P main T){o:Nat}{v:Value}{R:List (Nat×Obj)}{c:List Value}{e:TypeId}(ho:ops[i]?=some ⟨dst,.store T x y,ty,pos,cZ,g⟩) (hw:aw ops n env g=true) (tf:TF P T d sz bC z ag)
 (hx:bn n env x=some (.pointer (some ⟨b,o,none⟩))) (hy:bn n env y=some (v)) (hl:v.cells=⟨l⟩) (hn:l.length=sz) (h1:∀v∈l,single v=true) (hb:o+l.length≤c.length)
 (h:ab C fn az ops rest Q (A n (upd dst undef env) D) ⟨ro,(b,.cells ⟨dB c o l⟩ e (0,0))::R⟩):ab C fn az ops (i::rest) Q (A n env D) ⟨ro,(b,.cells ⟨c⟩ e (0,0))::R⟩:=
 Fe hC ho hw tf hx hy hl hn h1 (L:=[]) rfl hb h
end rules
section rules
variable {P:Program} {C:Class} {fn:FuncId} {az:Option Nat} {Q:Post} {s:St} {n:Nat} {env:Env} {D:List Deferred}
variable {ops:Array Oper} {i:Nat} {rest:List Nat} {dst:Option Tmp} {ty:TypeId} {pos:String} {cZ:Array Edge} {g:Option (Nat×Bool)}
theorem auJ(hC:∀main T,C main T→Closed P main T){k:IntKind}{a b:Int}(ho:ops[i]?=some ⟨dst,.call ⟨.builtin .min,#[x,y],#[T,U]⟩,ty,pos,cZ,g⟩) (hw:aw ops n env g=true)
 (hx:bn n env x=some (.int k a)) (hy:bn n env y=some (.int k b)) (h:ab C fn az ops rest Q (A n (upd dst (.int k (min a b)) env) D) s):ab C fn az ops (i::rest) Q (A n env D) s:=by
 refine bR hC ho hw (by simp) ?_
 have e:(if b <a then b else a)=min a b:=by omega
 simp only[execOp,resolve,invoke,builtin,Builtin.min_,List.map_toArray,List.map_cons,List.map_nil,aF hx,aF hy,List.foldlM_cons,List.foldlM_nil,Builtin.min2,aa,ae,e]
 rw[←aW] at h
 exact h
theorem auK(hC:∀main T,C main T→Closed P main T){k:IntKind}{a b:Int}(ho:ops[i]?=some ⟨dst,.call ⟨.builtin .max,#[x,y],#[T,U]⟩,ty,pos,cZ,g⟩) (hw:aw ops n env g=true)
 (hx:bn n env x=some (.int k a)) (hy:bn n env y=some (.int k b)) (h:ab C fn az ops rest Q (A n (upd dst (.int k (max a b)) env) D) s):ab C fn az ops (i::rest) Q (A n env D) s:=by
 refine bR hC ho hw (by simp) ?_
 have e:(if a <b then b else a)=max a b:=by omega
 simp only[execOp,resolve,invoke,builtin,Builtin.max_,List.map_toArray,List.map_cons,List.map_nil,aF hx,aF hy,List.foldlM_cons,List.foldlM_nil,Builtin.max2,aa,ae,e]
 rw[←aW] at h
 exact h
end rules
def cT(a b:ByteArray):Bool:=a.toList==b.toList
def strLt(a b:ByteArray):Bool:=Op.bytesLess a.toList b.toList
section rules
variable {P:Program} {C:Class} {fn:FuncId} {az:Option Nat} {Q:Post} {s:St} {n:Nat} {env:Env} {D:List Deferred}
variable {ops:Array Oper} {i:Nat} {rest:List Nat} {dst:Option Tmp} {ty:TypeId} {pos:String} {cZ:Array Edge} {g:Option (Nat×Bool)}
theorem auG(hC:∀main T,C main T→Closed P main T){a b:ByteArray}(ho:ops[i]?=some ⟨dst,.binOp .add T x y T',ty,pos,cZ,g⟩) (hw:aw ops n env g=true)
 (hx:bn n env x=some (.string a)) (hy:bn n env y=some (.string b)) (hb:(a.size:Int)+b.size≤9223372036854775807) (h:ab C fn az ops rest Q (A n (upd dst (.string (a++b)) env) D) s):ab C fn az ops (i::rest) Q (A n env D) s:=
 AT hC ho hw hx hy (v:= .string (a++b)) (by
  simp only[Op.stringOp]
  rw[if_neg]
  ·rfl
  have:IntKind.i64.max=9223372036854775807:=by decide
  rw[this];push_cast;omega) rfl h
end rules
theorem aze(b:ByteArray)(i:Nat)(h:i <b.size):b.get! i=b.data.toList[i]'(by simpa using h):=by
 have h':i <b.data.size:=h
 show b.data[i]! =_
 rw[getElem!_pos b.data i h']
 simp
theorem ZJ(b:ByteArray):∀(n i:Nat) (r:List UInt8),b.size-i=n→ByteArray.toList.loop b i r=r.reverse++b.data.toList.drop i
 |0,i,r,h=>by
  unfold ByteArray.toList.loop
  rw[if_neg (by omega),List.drop_eq_nil_of_le]
  ·simp
  show b.data.toList.length≤i
  rw[Array.length_toList]
  have:b.data.size=b.size:=rfl
  omega
 |n+1,i,r,h=>by
  unfold ByteArray.toList.loop
  have hi:i <b.size:=by omega
  rw[if_pos hi,ZJ b n (i+1) _ (by omega),aze b i hi]
  have hl:i <b.data.toList.length:=by rw[Array.length_toList];exact hi
  rw[List.drop_eq_getElem_cons hl]
  simp
theorem pS(b:ByteArray):b.toList=b.data.toList:=by
 show ByteArray.toList.loop b 0 []=_
 rw[ZJ b _ 0 [] rfl]
 simp
theorem B1{a b:ByteArray}:cT a b=true↔a=b:=by
 unfold cT
 rw[pS,pS]
 simp only[beq_iff_eq]
 constructor
 ·intro h
  have:a.data=b.data:=Array.toList_inj.1 h
  cases a;cases b;simp at this;subst this;rfl
 rintro rfl;rfl
theorem Az(a b:ByteArray):cT a b=(a.data.toList==b.data.toList):=by unfold cT;rw[pS,pS]
theorem P2(a b:ByteArray):strLt a b=Op.bytesLess a.data.toList b.data.toList:=by unfold strLt;rw[pS,pS]
def FnG(P:Program)(f:FuncId)(args:List Value)(ro:Nat→Option Obj)(own:Cells)(Φ:Value→(Nat→Option Obj)→Cells→Prop):Prop:=
 Fn (CP P) P f ⟨args⟩ ⟨ro,own⟩ (fun en s'=>∃v aG X,en= .returned v∧s'=⟨aG,X⟩∧Sub ro aG∧Φ v aG X)
theorem FnG.use{own:Cells}{Φ:Value→(Nat→Option Obj)→Cells→Prop}(hp:s.rw.Perm (own++fr))(hf:FnG P f vs s.ro own Φ):
 Fn (CP P) P f ⟨vs⟩ s (fun en s'=>∃v aG X,en= .returned v∧Sub s.ro aG∧Φ v aG X∧(⟨aG,X++fr⟩:St).le s'):=by
 refine Fn.mono (Fn.frame (fr:=fr) (B:=[]) (ro:=s.ro) (s:=s) hf (fun _ h=>(by cases h)) ⟨hp,fun b o hb=> .inl hb,Sub.refl _⟩) fun en s' DR=>?_
 obtain⟨yN,⟨v,aG,X,rfl,rfl,hs,qj⟩,hc⟩:=DR
 refine⟨v,aG,X,rfl,hs,qj,[],by simpa using hc.rw,fun b o hb=>?_⟩
 rcases hc.aI b o hb with h|h
 ·exact .inl h
 cases h
theorem Gx:∀(A l:List Value) (o:Nat) (c:List Value),dB (A++l) (A.length+o) c=A++dB l o c
 | [],l,o,c=>by simp
 |a::A,l,o,[]=>by rw[lq,lq]
 |a::A,l,o,v::c=>by
  have:=Gx A l o (v::c)
  rw[show (a::A).length+o=A.length+o+1 by simp only[List.length_cons];omega]
  simp only[List.cons_append,dB,this]
theorem KV{m B:List Value}{o:Nat}{c:List Value}(h:o+c.length≤m.length):dB (m++B) o c=dB m o c++B:=by
 rw[qY _ _ _ (by rw[List.length_append];omega),qY _ _ _ h,List.take_append_of_le_length (by omega),List.drop_append_of_le_length h]
 simp only[List.append_assoc]
theorem aaO{m c:List Value}(h:c.length=m.length):dB m 0 c=c:=by
 rw[qY _ _ _ (by omega)]
 simp[h]
theorem Wc{enc:α→List Value}{ps:List α}(Vl:∀p∈ps,(enc p).length=sz){x:α}(hx:ps[k]?=some x) (hl:l.take (ps.length*sz)=(ps.map enc).flatten):∃A B,A.length=k*sz∧l=A++(enc x++B):=by
 obtain⟨hk,rfl⟩:=List.getElem?_eq_some_iff.1 hx
 refine⟨((ps.take k).map enc).flatten,((ps.drop (k+1)).map enc).flatten++l.drop (ps.length*sz),?_,?_⟩
 ·rw[j6 _ (fun p hp=>Vl p (List.mem_of_mem_take hp)),List.length_take,Nat.min_eq_left (by omega)]
 have h3:ps=ps.take k++ps[k]::ps.drop (k+1):=by rw[←List.drop_eq_getElem_cons hk,List.take_append_drop]
 have h4:=congrArg (fun q:List α=>(q.map enc).flatten) h3
 simp only[List.map_append,List.map_cons,List.flatten_append,List.flatten_cons] at h4
 have h5:=(List.take_append_drop (ps.length*sz) l).symm
 rw[hl,h4] at h5
 simpa only[List.append_assoc] using h5
theorem aaP{enc:α→List Value}{ps:List α}(Vl:∀p∈ps,(enc p).length=sz){x:α}(hx:ps[k]?=some x) (hl:l.take (ps.length*sz)=(ps.map enc).flatten) {o:Nat} {c:List Value} (h:o+c.length≤sz):
 dB l (k*sz+o) c=dB l (k*sz) (dB (enc x) o c):=by
 have hxl:=Vl x (List.mem_of_getElem? hx)
 obtain⟨A,B,h1,rfl⟩:=Wc Vl hx hl
 have e0:∀q,dB (A++(enc x++B)) A.length q=A++dB (enc x++B) 0 q:=fun q=>Gx A _ 0 q
 rw[←h1,Gx,e0,KV (by omega),KV (by rw[lu];omega),aaO (lu _ _ _)]
section rules
variable {P:Program} {C:Class} {fn:FuncId} {az:Option Nat} {Q:Post} {ro:Nat→Option Obj} {n:Nat} {env:Env} {D:List Deferred}
variable {ops:Array Oper} {i:Nat} {rest:List Nat} {dst:Option Tmp} {ty:TypeId} {pos:String} {cZ:Array Edge} {g:Option (Nat×Bool)}
variable {T:TypeId} {d:TypeDesc} {tsz bC:Nat} {z:List Value} {ag:Bool}
theorem aD0(hC:∀main T,C main T→Closed P main T){o:Nat}{v w:Value}{a e:α}{c:List Value}{enc:α→List Value}{ps:List α}{L R:Cells}(ho:ops[i]?=some ⟨dst,.store T x y,ty,pos,cZ,g⟩) (hw:aw ops n env g=true) (tf:TF P T d tsz bC z ag)
 (hx:bn n env x=some (.pointer (some ⟨b,k*sz+o,none⟩))) (hy:bn n env y=some w) (hl:w.cells=⟨c⟩) (hn:c.length=tsz) (h1:∀v∈c,single v=true) (kJ:ax v sz E enc ps L) (hb:OT v b) (hk:ps[k]?=some a) (he:enc e=dB (enc a) o c) (hf:o+c.length≤sz)
 (h:∀L',ax v sz E enc (ps.set k e) L'→ab C fn az ops rest Q (A n (upd dst undef env) D) ⟨ro,L'++R⟩):ab C fn az ops (i::rest) Q (A n env D) ⟨ro,L++R⟩:=by
 have hk1:k <ps.length:=(List.getElem?_eq_some_iff.1 hk).1
 rcases kJ with ⟨_,h2,_⟩| ⟨b',l,cap,g1,g2,g3,g4,g5,g6⟩
 ·subst h2;simp at hk
 obtain⟨n',c',mo⟩:=hb
 rw[g1] at mo
 cases mo
 subst g2
 have hea:(enc a).length=sz:=g5 a (List.mem_of_getElem? hk)
 have DR:(enc e).length=sz:=by rw[he,lu,hea]
 have hks:k*sz+sz≤ps.length*sz:=by
  have:(k+1)*sz≤ps.length*sz:=Nat.mul_le_mul_right _ (by omega)
  rw[Nat.succ_mul] at this;exact this
 have oC:ps.length*sz≤cap*sz:=Nat.mul_le_mul_right _ g4
 refine Fe (L:=[]) (R:=R) hC ho hw tf hx hy hl hn h1 rfl (by omega)<|h [(b,.cells ⟨dB l (k*sz+o) c⟩ E (0,0))] (.inr ⟨b,_,cap,by rw[g1,List.length_set],rfl,by rw[lu,g3],by rw[List.length_set];exact g4,fun p hp=>?_,?_⟩)
 ·rcases List.mem_or_eq_of_mem_set hp with h5|h5
  ·exact g5 p h5
  subst h5;exact DR
 rw[List.length_set,aaP g5 hk g6 hf,←he]
 exact Ss ps g5 k e DR hk1 l g6
end rules
section rules
variable {P:Program} {C:Class} {fn:FuncId} {az:Option Nat} {Q:Post} {s:St} {n:Nat} {env:Env} {D:List Deferred}
variable {ops:Array Oper} {i:Nat} {rest:List Nat} {dst:Option Tmp} {ty:TypeId} {pos:String} {cZ:Array Edge} {g:Option (Nat×Bool)}
structure EF(P:Program)(f:FuncId)(e:Array Value→Sem Value):Prop where
 ef:∃fn,P.funcs[f]?=some fn∧(fn.name== "runtime.NumGoroutine")=false∧fn.body.isNone=true∧(Extern.findNext fn).isNone=true∧Extern.find fn=some e
theorem afF(hC:∀main T,C main T→Closed P main T){e:Array Value→Sem Value}(ho:ops[i]?=some ⟨dst,.call ⟨.value (.func f),xs,at_⟩,ty,pos,cZ,g⟩) (hw:aw ops n env g=true)
 (ef:EF P f e) (hx:vv n env xs=some vs) (h:bP P (e ⟨vs⟩) s (fun v s'=>ab C fn az ops rest Q (A n (upd dst v env) D) s') (fun _ _=>False)):ab C fn az ops (i::rest) Q (A n env D) s:=by
 obtain⟨fn',h1,h2,h3,h4,h5⟩:=ef.ef
 have h4':Extern.findNext fn'=none:=by
  cases hh:Extern.findNext fn' with
  |none=>rfl
  |some x=>rw[hh] at h4;cases h4
 refine bR hC ho hw (by simp) ?_
 simp only[execOp,resolve,ev,Deferred.ofValue,ae,si hx]
 simp only[invoke,Array.append_empty,Array.empty_append,callFunc,eO,h1,h2,h3,h4',h5,if_true,Bool.false_eq_true,if_false]
 refine⟨rfl,?_⟩
 refine PH (e ⟨vs⟩) (fun v=>(pure (Next.value v):Sem Next)) _ _ _<|vy _ _ _ _ _ _ (fun v s' hv=>?_) (fun _ _ (hf:False)=>hf.elim) h
 rw[←aW] at hv
 exact hv
end rules
def Rf(a:ByteArray)(b:UInt8):Int:=
 match (List.range a.size).find? fun i=>a[i]! ==b with
 |some i=>i
 |none=> -1
section rules
variable {P:Program} {C:Class} {fn:FuncId} {az:Option Nat} {Q:Post} {s:St} {n:Nat} {env:Env} {D:List Deferred}
variable {ops:Array Oper} {i:Nat} {rest:List Nat} {dst:Option Tmp} {ty:TypeId} {pos:String} {cZ:Array Edge} {g:Option (Nat×Bool)}
theorem afD(hC:∀main T,C main T→Closed P main T){a:ByteArray}{b:Int}(ho:ops[i]?=some ⟨dst,.call ⟨.value (.func f),xs,at_⟩,ty,pos,cZ,g⟩) (hw:aw ops n env g=true)
 (ef:EF P f Extern.BytealgIndexByte.indexByte) (hx:vv n env xs=some [.string a,.int .u8 b]) (h:ab C fn az ops rest Q (A n (upd dst (.int .i64 (Rf a b.toNat.toUInt8)) env) D) s):ab C fn az ops (i::rest) Q (A n env D) s:=by
 refine afF hC ho hw ef hx ?_
 unfold Rf at h
 show bP P (match (List.range a.size).find? fun i=>a[i]! ==b.toNat.toUInt8 with|some i=>pure (goInt i)|none=>pure (goInt (-1))) s _ _
 split
 ·rename_i j hj
  rw[hj] at h;exact h
 rename_i hj
 rw[hj] at h;exact h
theorem ano(hC:∀main T,C main T→Closed P main T){v:Value}(ho:ops[i]?=some ⟨dst,.call ⟨.value (.func f),xs,at_⟩,ty,pos,cZ,g⟩) (hw:aw ops n env g=true)
 (ef:EF P f Extern.AbiNoEscape.same) (hx:vv n env xs=some [v]) (h:ab C fn az ops rest Q (A n (upd dst v env) D) s):ab C fn az ops (i::rest) Q (A n env D) s:=
 afF hC ho hw ef hx h
end rules
theorem ab7{b:ByteArray}{p:Nat}{c:UInt8}(h:b.data.toList[p]?=some c) (ha:c.toNat <128):p <b.size∧Utf8.decode b p=(c.toNat,1):=by
 rw[Array.getElem?_toList] at h
 obtain⟨h1,h2⟩:=Array.getElem?_eq_some_iff.1 h
 refine⟨h1,?_⟩
 have h3:b.get! (p+0)=c:=by
  show b.data[p+0]! =c
  rw[Nat.add_zero,getElem!_pos b.data p h1,h2]
 simp only[Utf8.decode,h3]
 rw[if_pos (by omega)]
section rules
variable {P:Program} {C:Class} {fn:FuncId} {az:Option Nat} {Q:Post} {ro:Nat→Option Obj} {n:Nat} {env:Env} {D:List Deferred}
variable {ops:Array Oper} {i:Nat} {rest:List Nat} {dst:Option Tmp} {ty:TypeId} {pos:String} {cZ:Array Edge} {g:Option (Nat×Bool)}
theorem anq(hC:∀main T,C main T→Closed P main T){b:ByteArray}{r p:Nat}{R:Cells}{c:UInt8}(ho:ops[i]?=some ⟨dst,.next x true,ty,pos,cZ,g⟩) (hw:aw ops n env g=true) (hx:bn n env x=some (.pointer (some ⟨r,0,none⟩))) (hp:b.data.toList[p]?=some c) (ha:c.toNat <128)
 (h:ab C fn az ops rest Q (A n (upd dst (.tuple ⟨[.bool true,.int .i64 p,.int .i32 c.toNat]⟩) env) D) ⟨ro,(r,.stringIter b (p+1))::R⟩):ab C fn az ops (i::rest) Q (A n env D) ⟨ro,(r,.stringIter b p)::R⟩:=by
 obtain⟨h1,h2⟩:=ab7 hp ha
 refine aa1 hC ho hw hx (L:=[]) rfl h1 ?_
 rw[h2]
 exact h
theorem anp(hC:∀main T,C main T→Closed P main T){b:ByteArray}{r p:Nat}{R:Cells}(ho:ops[i]?=some ⟨dst,.next x true,ty,pos,cZ,g⟩) (hw:aw ops n env g=true) (hx:bn n env x=some (.pointer (some ⟨r,0,none⟩))) (hp:b.data.toList[p]?=none)
 (h:ab C fn az ops rest Q (A n (upd dst (.tuple ⟨[.bool false]⟩) env) D) ⟨ro,(r,.stringIter b p)::R⟩):ab C fn az ops (i::rest) Q (A n env D) ⟨ro,(r,.stringIter b p)::R⟩:=by
 refine aa2 hC ho hw hx (L:=[]) rfl ?_ h
 rw[Array.getElem?_toList,Array.getElem?_eq_none_iff] at hp
 exact Nat.not_lt.2 hp
end rules
theorem FW(ops:Array Oper)(n:Nat)(env:Env)(D:List Deferred)(o:Oper)(j:Nat)(want:Bool)(d:Tmp)(hg:o.guard=some (j,want))(hd:(ops[j]?).bind (·.dst)=some d)
 (hv:bn n env (.tmp d)=some undef):Region.wanted o (yielded ops (A n env D).tmps)=false:=by
 unfold Region.wanted
 rw[hg]
 simp only[bn] at hv
 by_cases cO:d <n
 ·rw[show Nat.blt d n=true from by simpa [Nat.blt_eq] using cO] at hv
  simp only[cond_true] at hv
  simp only[yielded,hd,Option.bind_some,O1]
  rw[if_pos cO,mL hv]
  rfl
 rw[show Nat.blt d n=false from by simpa [Nat.blt_eq,←Bool.not_eq_true] using cO] at hv
 cases hv
section rules
variable {P:Program} {C:Class} {fn:FuncId} {az:Option Nat} {Q:Post} {s:St} {n:Nat} {env:Env} {D:List Deferred}
variable {ops:Array Oper} {i:Nat} {rest:List Nat} {dst:Option Tmp} {ty:TypeId} {pos:String} {cZ:Array Edge} {g:Option (Nat×Bool)}
theorem ann(hC:∀main T,C main T→Closed P main T){op:Op}{j:Nat}{want:Bool}{d:Tmp}(ho:ops[i]?=some ⟨dst,op,ty,pos,cZ,some (j,want)⟩) (hd:(ops[j]?).bind (·.dst)=some d)
 (hv:bn n env (.tmp d)=some undef) (h:ab C fn az ops rest Q (A n (upd dst undef env) D) s):ab C fn az ops (i::rest) Q (A n env D) s:=by
 refine tU hC ho (FW _ _ _ _ _ _ _ _ rfl hd hv) ?_
 rw[aW];exact h
end rules
section rules
variable {P:Program} {C:Class} {fn:FuncId} {Q:Post} {s:St} {n:Nat} {env:Env} {D:List Deferred}
variable {ops:Array Oper} {i:Nat} {rest:List Nat} {dst:Option Tmp} {ty:TypeId} {pos:String} {cZ:Array Edge} {g:Option (Nat×Bool)}
theorem ans(hC:∀main T,C main T→Closed P main T){ca:List Value}(ho:ops[i]?=some ⟨dst,.defer ⟨.value x,#[],#[]⟩,ty,pos,cZ,g⟩) (hw:aw ops n env g=true)
 (hx:bn n env x=some (.func (.func f) ⟨[]⟩ ⟨ca⟩)) (h:ab C fn none ops rest Q (A n (upd dst undef env) ({target:= .fn (.func f) ⟨ca⟩,args:= #[]}::D)) s):ab C fn none ops (i::rest) Q (A n env D) s:=by
 refine Nt hC ho (BW _ _ _ _ _ hw) (.inl rfl) ?_
 rw[ei]
 simp only[execOp,resolve,aF hx,Deferred.ofValue,ae]
 refine⟨rfl,?_⟩
 have hA:({A n env D with defers:={target:= .fn (.func f) ⟨ca⟩,args:= #[]}::(A n env D).defers}:Act).put dst undef=A n (upd dst undef env) ({target:= .fn (.func f) ⟨ca⟩,args:= #[]}::D):=by
  rw[←aW];rfl
 rw[←hA] at h
 have he:(⟨[]⟩:Array Value)++Array.map (ev n env) #[]= #[]:=by simp
 rw[he]
 exact h
def Wq(C:Class)(P:Program)(fn:Func)(g:FuncId)(gn:Func)(t:Tmp)(rest:Code)(R:Ending→St→Prop):Post:=fun e a s=>
 (e= .normal∨e= .ret)∧∃ca:List Value,Nat.ble ca.length gn.ntmps=true∧a.defers=[{target:= .fn (.func g) ⟨ca⟩,args:= #[]}]∧
  Wp C g none rest (fun e2 a2 s2=>(e2= .normal∨e2= .ret)∧a2.defers=[]∧bP P (results fn a.tmps) s2 (fun v s3=>∃s0,s0.le s3∧R (.returned v) s0) (fun _ _=>False)) (A gn.ntmps (upd (some t) .nilIface (fN 0 ca)) []) s
theorem H9(hC:∀main T,C main T→Closed P main T){fn:Func}{c:Code}{gid:FuncId}{gn:Func}{t:Tmp}{rc:Code}(hf:P.funcs[f]?=some fn) (hb:fn.body=some c) (hn:fn.ntmps=n) (hl:Nat.ble args.length n=true)
 (ahu:JA P gid=some (gn,t,rc)) (h:Wp C f none c (Wq C P fn gid gn t rc R) (A n (fN 0 args) []) s):Fn C P f ⟨args⟩ s R:=by
 intro main T hT cl cs k1 k2
 have iJ:=hC main T hT
 let b:Frame:={(default:Frame) with fn:=f,kind:= .normal,roundOf:=none}
 have gV:Frame.enter P f ⟨args⟩ .normal=aK b (A n (fN 0 args) []) [.code c]:=by
  rw[←kL args n (Nat.le_of_ble_eq_true hl)]
  simp[Frame.enter,aK,hf,hb,hn,b]
 rw[gV]
 obtain⟨hgf,A3,Jg,id,o,at_,hgb,h1,h2,h3⟩:=(XL ahu).ex
 have ff:FF P gid:=⟨gn,hgf,Jg,by rw[hgb];rfl⟩
 have r5:∀(todo:List Item) (a':Act) (s':St) (ca:List Value),Nat.ble ca.length gn.ntmps=true→a'.defers=[{target:= .fn (.func gid) ⟨ca⟩,args:= #[]}]→
  Wp C gid none rc (fun e2 a2 s2=>(e2= .normal∨e2= .ret)∧a2.defers=[]∧bP P (results fn a'.tmps) s2 (fun v s3=>∃s0,s0.le s3∧R (.returned v) s0) (fun _ _=>False)) (A gn.ntmps (upd (some t) .nilIface (fN 0 ca)) []) s'→
  T (G {aK b a' todo with mode:= .returning} (cl::cs)) s':=by
  intro todo a' s' ca hlc hd hw
  refine jB hC hT (.inl rfl) ff (ds:=[]) (a:= #[]) (ca:=⟨ca⟩) hd ?_
  let d:Frame:={(default:Frame) with fn:=gid,kind:= .deferred,roundOf:=none}
  have aoO:Frame.enter P gid ((#[]:Array Value)++⟨ca⟩) .deferred=aK d (A gn.ntmps (fN 0 ca) []) [.code (.seq (.region id #[o] false) rc)]:=by
   rw[←kL ca gn.ntmps (Nat.le_of_ble_eq_true hlc)]
   simp[Frame.enter,aK,hgf,hgb,d]
  rw[aoO]
  let c0:Frame:={aK b a' todo with mode:= .returning,defers:=[]}
  show T (G _ (c0::cl::cs)) s'
  refine iJ.go rfl rfl (g':=G (aK d (A gn.ntmps (fN 0 ca) []) [.code (.region id #[o] false),.code rc]) (c0::cl::cs)) (fun w=>by simp[G,stepG,stepG.exec,aK])<|iJ.go rfl rfl (g':=G (aK d (A gn.ntmps (fN 0 ca) []) [.inRegion #[o] [0],.code rc]) (c0::cl::cs)) (fun w=>by simp[G,stepG,stepG.exec,aK,List.range,List.range.loop])<|AF hC hT (u:= .ret) (ρ:=fun _=>none) rfl rfl h1 h2 h3 .ret fun v' m9 hv Vr=>?_
  have hv':v'= .nilIface:=by
   rcases hv with hv|hv
   ·cases hv;rfl
   exact hv.2
  subst hv'
  refine iJ.go rfl rfl (g':=G (aK d ((A gn.ntmps (fN 0 ca) []).put (some t) .nilIface) [.code rc]) ({c0 with mode:=m9}::cl::cs)) (fun w=>by simp[G,stepG,stepG.exec,aK]) ?_
  rw[aW]
  have Rs:∀tmps,results gn tmps=Sem.pure (.tuple #[]):=by intro tmps;simp[results,A3];rfl
  have yl:∀(Xg:List Item) (a2:Act) (s2:St),a2.defers=[]→bP P (results fn a'.tmps) s2 (fun v s3=>∃s0,s0.le s3∧R (.returned v) s0) (fun _ _=>False)→T (G {aK d a2 Xg with mode:= .returning} ({c0 with mode:=m9}::cl::cs)) s2:=by
   intro Xg a2 s2 hd2 wu
   have mj:T (G c0 (cl::cs)) s2:=sP hC hT hf rfl rfl rfl rfl wu k1
   refine iJ.go rfl rfl (fun w=>?_) mj
   rcases Vr with rfl| ⟨v,rfl⟩
   ·simp only[G,stepG,unwind,aK,d,hgf,Rs,Sem.runT,sN,hd2]
    simp[GStep.after,doReturn,c0,aK]
   simp only[G,stepG,unwind,aK,d,hgf,Rs,Sem.runT,sN,hd2]
   simp[GStep.after,doReturn,c0,aK]
  refine hw main T hT d [] _ rfl (by simp[d]) rfl fun e2 a2 s2 q=>?_
  obtain⟨q1,q2,q3⟩:=q
  rcases q1 with rfl|rfl
  ·exact iJ.go rfl rfl (g':=G {aK d a2 [] with mode:= .returning} ({c0 with mode:=m9}::cl::cs)) (fun w=>by simp[G,stepG,stepG.exec,aK,d]) (yl _ _ _ q2 q3)
  exact fun Xg=>iJ.go rfl rfl (g':=G {aK d a2 (.code .ret::Xg) with mode:= .returning} ({c0 with mode:=m9}::cl::cs)) (fun w=>by simp[G,stepG,stepG.exec,aK,d]) (yl _ _ _ q2 q3)
 refine h main T hT b [] (cl::cs) rfl (by simp[b]) rfl fun e a' s' q=>?_
 obtain⟨q1,ca,q0,q2,q3⟩:=q
 rcases q1 with rfl|rfl
 ·exact iJ.go rfl rfl (g':=G {aK b a' [] with mode:= .returning} (cl::cs)) (fun w=>by simp[G,stepG,stepG.exec,aK,b]) (r5 _ _ _ ca q0 q2 q3)
 exact fun todo=>iJ.go rfl rfl (g':=G {aK b a' (.code .ret::todo) with mode:= .returning} (cl::cs)) (fun w=>by simp[G,stepG,stepG.exec,aK,b]) (r5 _ _ _ ca q0 q2 q3)
end rules
section rules
variable {P:Program} {C:Class} {fn:FuncId} {az:Option Nat} {Q:Post} {s:St} {n:Nat} {env:Env} {D:List Deferred}
variable {ops:Array Oper} {i:Nat} {rest:List Nat} {dst:Option Tmp} {ty:TypeId} {pos:String} {cZ:Array Edge} {g:Option (Nat×Bool)}
variable {T:TypeId} {sz bC:Nat} {z:List Value} {ag:Bool}
theorem anm(hC:∀main T,C main T→Closed P main T){a:Option Addr}{l c:Nat}(ho:ops[i]?=some ⟨dst,.binOp .eql T x y T',ty,pos,cZ,g⟩) (hw:aw ops n env g=true) (tf:TF P T (.slice E) sz bC z ag)
 (hx:bn n env x=some (.slice a l c)) (hy:bn n env y=some (.slice none 0 0)) (h:ab C fn az ops rest Q (A n (upd dst (.bool a.isNone) env) D) s):ab C fn az ops (i::rest) Q (A n env D) s:=by
 refine bR hC ho hw (by simp) ?_
 have hg:eqGuard .eql T x y (.slice a l c) (.slice none 0 0)=Sem.pure ():=by cases a<;>rfl
 have hb:binOp .eql T (.slice a l c) (.slice none 0 0)=(Op.equal T (.slice a l c) (.slice none 0 0) >>= fun r=>pure (.bool r)):=by cases a<;>rfl
 have he:∀ {α:Type} (K:Bool→Sem α) (Q:α→St→Prop) (E:Halt→St→Prop),bP P (K a.isNone) s Q E→bP P (Op.equal T (.slice a l c) (.slice none 0 0) >>= K) s Q E:=by
  intro α K Q E hK
  have gen:∀d,bP P (Op.equalIn (d+1) T (.slice a l c) (.slice none 0 0) >>= K) s Q E:=by
   intro d
   cases a<;>(simp only[Op.equalIn,aa,aZ tf,ae,Option.isNone];exact hK)
  exact gen 9999
 simp only[execOp,aF hx,aF hy,hg,hb]
 show bP P ((Op.equal T (.slice a l c) (.slice none 0 0) >>= fun r=>(pure (Value.bool r):Sem Value)) >>= fun x=>(pure (Next.value x):Sem Next)) s _ _
 simp only[aa]
 refine he _ _ _ ?_
 rw[←aW] at h
 exact h
end rules
def afb:Op→Option (List Operand)
 | .move x=>some [x]
 | .assign x=>some [x]
 | .extract x _=>some [x]
 | .nilCheck x=>some [x]
 | .fieldAddr _ x _=>some [x]
 | .makeInterface _ x=>some [x]
 | .indexAddr _ x y=>some [x,y]
 |op=>GA op
theorem Qm{xs:List Operand}(h:afb o.op=some xs){f g:Operand→Value}(hfg:∀x∈xs,f x=g x):execOp f o=execOp g o:=by
 unfold afb at h
 split at h
 all_goals first
  | (rename_i heq;simp only[Option.some.injEq] at h;subst h;simp[execOp,heq,hfg];done)
  |exact tR h hfg
def evj(n:Nat)(e:Env)(x:Operand):Value:=(bn n e x).getD undef
theorem Oj{f:Operand→Value}(hf:Ev n e f):∀ {xs:List Operand} {vs:List Value},ya n e xs=some vs→∀x∈xs,f x=evj n e x
 |y::l,vs,h,x,hx=>by
  simp only[ya] at h
  cases hv:bn n e y with
  |none=>rw[hv] at h;cases h
  |some v=>
   rw[hv] at h
   cases hr:ya n e l with
   |none=>rw[hr] at h;cases h
   |some r=>
    rcases List.mem_cons.1 hx with rfl|hx
    ·rw[hf _ _ hv,evj,hv];rfl
    exact Oj hf hr x hx
def atL(P:Program)(n:Nat)(e:Env)(o:Oper):Option Value:=
 match afb o.op with
 |some xs=>match ya n e xs with
  |some _=>match bu P (execOp (evj n e) o) with
   |some (.value v)=>some v
   |_=>none
  |none=>none
 |none=>none
def aEx(P:Program)(n:Nat)(e:Env)(x:Operand)(T:TypeId):Option Value:=
 match a8 P T with
 |some ⟨.slice _,_,_,_⟩=>match bn n e x with
  |some (.slice _ len _)=>some (.int .i64 len)
  |_=>none
 |some ⟨.string,_,_,_⟩=>match bn n e x with
  |some (.string b)=>some (.int .i64 b.size)
  |_=>none
 |_=>none
def WB(P:Program)(n:Nat)(e:Env)(T:TypeId)(ps:Array (Nat×Operand)):Option Value:=
 match a8 P T with
 |some ⟨.struct fields,_,z,_⟩=>match xq P fields.toList with
  |some pl=>match Ph n e ps.toList with
   |some pv=>match oG (fun i=>pl[i]?) z (tT pv) with
    |some l=>some (.agg ⟨l⟩)
    |none=>none
   |none=>none
  |none=>none
 |some ⟨.array _ E,_,z,_⟩=>match a8 P E with
  |some te=>match Ph n e ps.toList with
   |some pv=>match oG (fun i=>some (i*te.size,te.size)) z (tT pv) with
    |some l=>some (.agg ⟨l⟩)
    |none=>none
   |none=>none
  |none=>none
 |_=>none
def adC(P:Program)(n:Nat)(e:Env)(o:Oper):Option Value:=
 match o.op with
 | .pick c x y=>match bn n e c with
  |some (.bool true)=>bn n e x
  |some (.bool false)=>bn n e y
  |_=>none
 | .makeFunc f x y=>match ya n e x.toList with
  |some x'=>match ya n e y.toList with
   |some y'=>some (.func f ⟨x'⟩ ⟨y'⟩)
   |none=>none
  |none=>none
 | .build T ps=>WB P n e T ps
 | .call ⟨.builtin .len,⟨[x]⟩,⟨[T]⟩⟩=>aEx P n e x T
 |_=>atL P n e o
section val
variable {P:Program} {n:Nat} {e:Env} {o:Oper} {s:St} {v:Value}
theorem amM(h:atL P n e o=some v):Yields P n e o s v:=by
 unfold atL at h
 split at h<;>try (cases h;done)
 rename_i xs hx
 split at h<;>try (cases h;done)
 rename_i vs EG
 split at h<;>try (cases h;done)
 rename_i w hr
 cases h
 intro s' _ f hf K E hK
 rw[Qm hx (Oj hf EG)]
 exact ou hr hK
theorem aci{ps:Array (Nat×Operand)}(heq:o.op= .build T ps)(h:WB P n e T ps=some v):Yields P n e o s v:=by
 unfold WB at h
 split at h<;>try (cases h;done)
 ·rename_i fields _ z _ dK
  obtain⟨bC,tf⟩:=av dK
  split at h<;>try (cases h;done)
  rename_i pl Rx
  split at h<;>try (cases h;done)
  rename_i pv JY
  split at h<;>try (cases h;done)
  rename_i l hl
  cases h
  intro s' mU f hf K E hK
  simp only[execOp,heq,Instr.build,aa,jU tf,aZ tf,dY tf]
  rw[Array.mapM_eq_mapM_toList]
  simp only[map_eq_pure_bind,aa,ae]
  rw[nW (yU Rx)]
  rw[kD] at hl
  have h1:=fill_eq _ _ _ _ hl
  have h3:(fun x=>(pl.toArray)[x]?:Nat→Option (Nat×Nat))=fun i=>pl[i]?:=by funext i;simp
  simp only[h3,hf.vQ JY,h1,ae]
  exact hK
 rename_i len E _ z _ dK
 obtain⟨bC,tf⟩:=av dK
 split at h<;>try (cases h;done)
 rename_i te uj
 obtain⟨Aj,p5⟩:=av uj
 split at h<;>try (cases h;done)
 rename_i pv JY
 split at h<;>try (cases h;done)
 rename_i l hl
 cases h
 intro s' mU f hf K E hK
 simp only[execOp,heq,Instr.build,aa,jU tf,aZ tf,dY tf,cg p5]
 rw[kD] at hl
 have h1:=fill_eq _ _ _ _ hl
 simp only[hf.vQ JY,h1,ae]
 exact hK
theorem Aw(h:adC P n e o=some v):Yields P n e o s v:=by
 unfold adC at h
 split at h
 ·rename_i c x y heq
  split at h<;>try (cases h;done)
  ·rename_i hc
   intro s' _ f hf K E hK
   simp only[execOp,heq,hf _ _ hc,hf _ _ h]
   exact hK
  rename_i hc
  intro s' _ f hf K E hK
  simp only[execOp,heq,hf _ _ hc,hf _ _ h]
  exact hK
 ·rename_i g x y heq
  split at h<;>try (cases h;done)
  rename_i x' hx
  split at h<;>try (cases h;done)
  rename_i y' hy
  cases h
  intro s' _ f hf K E hK
  simp only[execOp,heq,hf.arr hx,hf.arr hy]
  exact hK
 ·rename_i T ps heq;exact aci heq h
 ·rename_i x T heq
  unfold aEx at h
  split at h<;>try (cases h;done)
  ·rename_i dK
   obtain⟨bC,tf⟩:=av dK
   split at h<;>try (cases h;done)
   rename_i hx
   cases h
   intro s' _ f hf K E hK
   simp only[execOp,heq,resolve,invoke,builtin,Builtin.len_,List.map_toArray,List.map_cons,List.map_nil,hf _ _ hx,ae,List.getElem?_toArray,List.getElem?_cons_zero,aZ tf,aa]
   exact hK
  rename_i dK
  obtain⟨bC,tf⟩:=av dK
  split at h<;>try (cases h;done)
  rename_i hx
  cases h
  intro s' _ f hf K E hK
  simp only[execOp,heq,resolve,invoke,builtin,Builtin.len_,List.map_toArray,List.map_cons,List.map_nil,hf _ _ hx,ae,List.getElem?_toArray,List.getElem?_cons_zero,aZ tf,aa]
  exact hK
 exact amM h
end val
def ldv(P:Program)(T:TypeId)(l:List Value)(off:Nat):Option Value:=
 match a8 P T with
 |some ti=>bif ti.agg then (match sub l off ti.size with
  |some vs=>some (.agg ⟨vs⟩)
  |none=>none) else nth l off
 |none=>none
theorem agj{v:Value}{t:TypeId}(heq:o.op= .load T x)(hx:bn n e x=some (.pointer (some ⟨b,off,none⟩)))(hb:s.has b (.cells ⟨l⟩ t fz))(h:ldv P T l off=some v):Yields P n e o s v:=by
 unfold ldv at h
 split at h<;>try (cases h;done)
 rename_i ti dK
 obtain⟨bC,tf⟩:=av dK
 intro s' hs f hf K E hK
 cases ha:ti.agg with
 |true=>
  rw[ha] at h tf
  simp only[cond_true] at h
  split at h<;>try (cases h;done)
  rename_i vs EG
  cases h
  simp only[execOp,heq,Instr.loadAt,hf _ _ hx,Instr.sureAddr,loadVar,aa,ae,kp tf,if_true,cg tf]
  exact iN ⟨_,_,_,hs _ _ hb,EG⟩ hK
 |false=>
  rw[ha] at h tf
  simp only[cond_false] at h
  simp only[execOp,heq,Instr.loadAt,hf _ _ hx,Instr.sureAddr,loadVar,aa,ae,kp tf,Bool.false_eq_true,if_false]
  exact vD ⟨_,_,_,hs _ _ hb,h⟩ hK
theorem au8{v:Value}{m:Nat}(k:Nat)(heq:o.op= .load T x)(hx:bn n e x=some (.pointer (some ⟨b,off+k,none⟩)))(hb:cB s b off m l)(h:ldv P T l k=some v):Yields P n e o s v:=by
 unfold ldv at h
 split at h<;>try (cases h;done)
 rename_i ti dK
 obtain⟨bC,tf⟩:=av dK
 intro s' hs f hf K E hK
 cases ha:ti.agg with
 |true=>
  rw[ha] at h tf
  simp only[cond_true] at h
  split at h<;>try (cases h;done)
  rename_i vs EG
  cases h
  simp only[execOp,heq,Instr.loadAt,hf _ _ hx,Instr.sureAddr,loadVar,aa,ae,kp tf,if_true,cg tf]
  exact iN ((hb.ext hs).part k ti.size EG) hK
 |false=>
  rw[ha] at h tf
  simp only[cond_false] at h
  simp only[execOp,heq,Instr.loadAt,hf _ _ hx,Instr.sureAddr,loadVar,aa,ae,kp tf,Bool.false_eq_true,if_false]
  exact vD ((hb.ext hs).cell k v (by rw[←rS];exact h)) hK
structure Cx where
 P:Program
 C:Class
 hC:∀main T,C main T→Closed P main T
 hm:P.follows .mixedOrders=true
 fn:FuncId
 az:Option Nat
 n:Nat
 D:List Deferred
 ro:Nat→Option Obj
 Q:Post
variable {X X1:Cx}
def Cx.at(X:Cx)(ro:Nat→Option Obj):Cx:={X with ro:=ro}
inductive KI where
 |seq (b:Code)
 |block (id:Nat)
 |next (K:Act→St→Prop)
inductive Sg where
 |b (i:Nat) (o:Obj)
 |l (L:Cells)
def den:List Sg→Cells
 | []=>[]
 | [.l L]=>L
 | .b i o::r=>(i,o)::den r
 | .l L::r=>L++den r
theorem iG(i:Nat)(o:Obj)(r:List Sg):den (.b i o::r)=(i,o)::den r:=by cases r<;>rfl
theorem gk(L:Cells)(r:List Sg):den (.l L::r)=L++den r:=by cases r<;>simp[den]
inductive Pos where
 |ops (ops:Array Oper) (todo:List Nat) (k:List KI)
 |code (c:Code) (k:List KI)
 |nxt (K:Act→St→Prop)
 |Im (ops:Array Oper) (base:Env) (Pl Sl:List (Nat×Value)) (k:List KI)
 |fin (e:Exit)
structure Kn where
 c:Cells
 nd:List (Nat×Cells)
variable {kn:Kn}
structure JS where
 pos:Pos
 env:Env
 rw:List Sg
 kn:Kn
variable {s':JS}
def KQ(X:Cx):List KI→Post
 | []=>X.Q
 | .seq b::k=>lR (fun a s=>Wp X.C X.fn X.az b (KQ X k) a s) (KQ X k)
 | .block id::k=>qI id (KQ X k)
 | .next K::k=>lR K (KQ X k)
def Dz:Op→Bool
 | .load .. =>false
 | .lookup .. =>false
 | .call ⟨.value _,_,_⟩=>false
 | .call ⟨.invoke ..,_,_⟩=>false
 |_=>true
def wF(ops:Array Oper)(n:Nat)(e:Env):Option (Nat×Bool)→Option Bool
 |none=>some true
 |some (j,want)=>match aQ ops j with
  |some d=>match bn n e (.tmp d) with
   |some (.bool true)=>some want
   |some (.bool false)=>some (!want)
   |some (.tuple ⟨[]⟩)=>some false
   |_=>none
  |none=>none
def sV(ops:Array Oper)(n:Nat)(base:Env)(Pl:List (Nat×Value))(j:Nat):Bool:=match ops[j]? with
 |some p=>Dz p.op||(match wF ops n (cw ops base j Pl) p.guard with
  |some false=>true
  |_=>false)
 |none=>false
def PF(X:Cx)(nd:List (Nat×Cells))(ops:Array Oper)(base:Env)(Pl Sl:List (Nat×Value)):Prop:=
 (∀j u,(j,u)∈Sl→sV ops X.n base Pl j=true→∀s,eN X.C X.fn X.az ops X.n X.D j u (cw ops base j Pl) s)∧
 ∀j u B,(j,u)∈Sl→(j,B)∈nd→∀s,Ext ⟨X.ro,[]⟩ s→(∀x∈B,s.has x.1 x.2)→eN X.C X.fn X.az ops X.n X.D j u (cw ops base j Pl) s
def ndK:List (Nat×Cells)→List Nat
 | []=>[]
 | (i,_)::l=>i::ndK l
theorem Nz:∀ {l:List (Nat×Cells)},(i,B)∈l→i∈ndK l
 | (j,C)::l,h=>by
  simp only[ndK]
  rcases List.mem_cons.1 h with h|h
  ·cases h;exact List.mem_cons_self
  exact List.mem_cons_of_mem _ (Nz h)
def JP(X:Cx)(kn:Kn)(e:Env)(w:List Sg):Pos→Prop
 | .ops ops todo k=>ab X.C X.fn X.az ops todo (KQ X k) (A X.n e X.D) ⟨X.ro,den w⟩
 | .code c k=>Wp X.C X.fn X.az c (KQ X k) (A X.n e X.D) ⟨X.ro,den w⟩
 | .nxt K=>K (A X.n e X.D) ⟨X.ro,den w⟩
 | .Im ops base Pl Sl k=>PF X kn.nd ops base Pl Sl→tD X.C X.fn X.az ops X.n X.D base Pl Sl (KQ X k) ⟨X.ro,den w⟩
 | .fin e'=>X.Q e' (A X.n e X.D) ⟨X.ro,den w⟩
def J(X:Cx):Option JS→Prop
 |none=>False
 |some s=>Knows X.ro s.kn.c→JP X s.kn s.env s.rw s.pos
def Qo:List KI→Pos
 | []=> .fin .normal
 | .seq b::k=> .code b k
 | .block _::k=>Qo k
 | .next K::_=> .nxt K
theorem tS{w:List Sg}:∀ {k:List KI},JP X kn e w (Qo k)→KQ X k .normal (A X.n e X.D) ⟨X.ro,den w⟩
 | [],h=>h
 | .seq _::_,h=>h
 | .block _::k,h=>tS (k:=k) h
 | .next _::_,h=>h
def Bj(id:Nat):List KI→Option Pos
 | []=>some (.fin (.exit id))
 | .seq _::k=>Bj id k
 | .block i::k=>bif Nat.beq id i then some (Qo k) else Bj id k
 | .next _::k=>Bj id k
theorem wL{w:List Sg}{p:Pos}:∀ {k:List KI},Bj id k=some p→JP X kn e w p→KQ X k (.exit id) (A X.n e X.D) ⟨X.ro,den w⟩
 | [],h,hj=>by simp only[Bj,Option.some.injEq] at h;subst h;exact hj
 | .seq _::k,h,hj=>wL (k:=k) h hj
 | .next _::k,h,hj=>wL (k:=k) h hj
 | .block i::k,h,hj=>by
  simp only[Bj] at h
  cases hb:Nat.beq id i with
  |true=>
   rw[hb] at h;simp only[cond_true,Option.some.injEq] at h;subst h
   have:=Nat.eq_of_beq_eq_true hb;subst this
   exact D8 (tS hj)
  |false=>
   rw[hb] at h;simp only[cond_false] at h
   exact D7 hb (wL (k:=k) h hj)
theorem AE{a:Act}(h:X.Q .ret a s):∀(k:List KI),KQ X k .ret a s
 | []=>h
 | .seq _::k=>AE h k
 | .next _::k=>AE h k
 | .block _::k=>AE h k
def aB8:Op→Bool
 | .move _| .assign _| .pick .. | .makeFunc .. | .extract .. | .nilCheck _| .fieldAddr .. | .makeInterface .. | .indexAddr .. | .index .. | .field .. | .binOp .. | .unOp .. | .convert .. | .build .. | .load .. | .lookup .. | .slice .. =>true
 | .call ⟨.builtin .len,_,_⟩| .call ⟨.builtin .cap,_,_⟩| .call ⟨.builtin .min,_,_⟩| .call ⟨.builtin .max,_,_⟩=>true
 |_=>false
def aB9(ops:Array Oper)(i:Nat):Bool:=match ops[i]? with
 |some o=>aB8 o.op
 |none=>false
def enabled(ops:Array Oper)(ks:List Nat)(i:Nat):Bool:= !bh i ks&&fE (bp ops i) ks
def Zm(f:Nat→Bool):Nat→Nat→Option Nat
 |0,_=>none
 |k+1,i=>bif f i then some i else Zm f k (i+1)
def ay4(ops:Array Oper)(i:Nat):Bool:=match ops[i]? with
 |some ⟨_,.call ⟨.value _,_,_⟩,_,_,_,_⟩=>true
 |_=>false
def apv(ops:Array Oper)(ks:List Nat):Option Nat:=
 match Zm (fun i=>enabled ops ks i&&aB9 ops i) ops.size 0 with
 |some i=>some i
 |none=>match Zm (fun i=>enabled ops ks i&&ay4 ops i) ops.size 0 with
  |some i=>some i
  |none=>Zm (enabled ops ks) ops.size 0
def qp(n:Nat):JS→Option (Bool×Oper×Env)
 | ⟨.ops ops (i::_) _,e,_,_⟩=>match ops[i]? with
  |some o=>match wF ops n e o.guard with
   |some g=>some (g,o,e)
   |none=>none
  |none=>none
 | ⟨.Im ops base Pl _ _,_,_,_⟩=>match apv ops (ak Pl) with
  |some i=>match ops[i]? with
   |some o=>match wF ops n (cw ops base i Pl) o.guard with
    |some g=>some (g,o,cw ops base i Pl)
    |none=>none
   |none=>none
  |none=>none
 |_=>none
def Gy(v:Value):JS→Option JS
 | ⟨.ops ops (i::todo) k,e,w,kn⟩=>match ops[i]? with
  |some o=>some ⟨.ops ops todo k,upd o.dst v e,w,kn⟩
  |none=>none
 | ⟨.Im ops base Pl Sl k,e,w,kn⟩=>match apv ops (ak Pl) with
  |some i=>bif !bh i (ak Pl)&&(fE (bp ops i) (ak Pl)&&(oR ops (ak Pl)&&(fE (ak Sl) (ak Pl)&& !bh i (ndK kn.nd)))) then some ⟨.Im ops base ((i,v)::Pl) ((i,v)::Sl) k,e,w,kn⟩ else none
  |none=>none
 |_=>none
theorem nH{ops:Array Oper}{g:Option (Nat×Bool)}(h:wF ops n e g=some true)(rest:Env):aw ops n (e++rest) g=true:=by
 unfold wF at h
 split at h
 ·rfl
 rename_i j want
 split at h<;>try (cases h;done)
 rename_i d hd
 have hd:(ops[j]?).bind (·.dst)=some d:=hd
 split at h<;>try (cases h;done)
 ·rename_i hb;simp only[Option.some.injEq] at h;subst h
  exact tI hd (aY hb) rfl
 rename_i hb;simp only[Option.some.injEq,Bool.not_eq_true'] at h;subst h
 exact tI hd (aY hb) rfl
section
variable {X:Cx}
theorem zl{ops:Array Oper}{Q:Post}(ho:ops[i]?=some o) (h:wF ops X.n e o.guard=some false) (rest:Env) (hk:ab X.C X.fn X.az ops todo Q (A X.n (upd o.dst undef (e++rest)) X.D) s):ab X.C X.fn X.az ops (i::todo) Q (A X.n (e++rest) X.D) s:=by
 unfold wF at h
 split at h
 ·cases h
 rename_i j want hg
 split at h<;>try (cases h;done)
 rename_i d hd
 have hd:(ops[j]?).bind (·.dst)=some d:=hd
 split at h<;>try (cases h;done)
 ·rename_i hb;simp only[Option.some.injEq] at h;subst h
  exact tY X.hC ho hg hd (aY hb) rfl hk
 ·rename_i hb;simp only[Option.some.injEq,Bool.not_eq_false'] at h;subst h
  exact tY X.hC ho hg hd (aY hb) rfl hk
 rename_i hb
 rcases o with ⟨dst,op,ty,pos,cZ,g⟩
 dsimp only at hg;subst hg
 exact ann X.hC ho hd (aY hb) hk
def IY(X:Cx)(e:Env)(o:Oper)(s:St)(v:Value):Prop:=
 ∀(ops:Array Oper) (i:Nat),ops[i]?=some o→∀rest,aw ops X.n (e++rest) o.guard=true→∀s',Ext s s'→∀todo Q,ab X.C X.fn X.az ops todo Q (A X.n (upd o.dst v (e++rest)) X.D) s'→ab X.C X.fn X.az ops (i::todo) Q (A X.n (e++rest) X.D) s'
theorem jyS{s:JS}{v:Value}(hh:qp X.n s=some (g,o,e))(hp:Gy v s=some s')
 (hv:match g with|true=>(Knows X.ro s.kn.c→IY X e o ⟨X.ro,den s.rw⟩ v)∧(Dz o.op=true→∀s,IY X e o s v)|false=>v=undef)(hj:J X (some s')):J X (some s):=by
 intro bX
 rcases s with ⟨p,e0,w,kn⟩
 cases p with
 |ops ops todo k=>
  cases todo with
  |nil=>cases hh
  |cons i todo=>
   simp only[qp] at hh
   split at hh<;>try (cases hh;done)
   rename_i o1 ho
   split at hh<;>try (cases hh;done)
   rename_i g1 hg
   cases hh
   simp only[Gy,ho,Option.some.injEq] at hp;subst hp
   have hk:ab X.C X.fn X.az ops todo (KQ X k) (A X.n (upd o.dst v e) X.D) ⟨X.ro,den w⟩:=hj bX
   show ab X.C X.fn X.az ops (i::todo) (KQ X k) (A X.n e X.D) ⟨X.ro,den w⟩
   cases g with
   |true=>
    have:=hv.1 bX ops i ho [] (nH hg []) _ (Ext.refl _) todo (KQ X k)
    rw[List.append_nil] at this
    exact this hk
   |false=>
    dsimp only at hv;subst hv
    have:=zl (Q:=KQ X k) (s:=⟨X.ro,den w⟩) (todo:=todo) ho hg []
    rw[List.append_nil] at this
    exact this hk
 |Im ops base Pl Sl k=>
  simp only[qp] at hh
  split at hh<;>try (cases hh;done)
  rename_i i hi
  split at hh<;>try (cases hh;done)
  rename_i o1 ho
  split at hh<;>try (cases hh;done)
  rename_i g1 hg
  cases hh
  simp only[Gy,hi] at hp
  cases hc:(!bh i (ak Pl)&&(fE (bp ops i) (ak Pl)&&(oR ops (ak Pl)&&(fE (ak Sl) (ak Pl)&& !bh i (ndK kn.nd))))) with
  |false=>rw[hc] at hp;cases hp
  |true=>
   rw[hc] at hp;simp only[cond_true,Option.some.injEq] at hp;subst hp
   simp only[Bool.and_eq_true,Bool.not_eq_true'] at hc
   have EL:aQ ops i=o.dst:=by simp only[aQ,ho,Option.bind_some]
   intro hpf
   have qN:∀j,j∈ak Sl→i∉bp ops j:=fun j hj hd=>by
    have h1:=bN.1 hc.2.2.2.1 j hj
    have h2:=bN.1 (List.all_eq_true.1 hc.2.2.1 j h1) i hd
    rw[aJ.2 h2] at hc;exact absurd hc.1 (by simp)
   refine IV i hc.1 hc.2.1 hc.2.2.1 hc.2.2.2.1 ?_ (hj bX ⟨fun j u Ji hp s0=>?_,fun j u B Ji hB s0 Hn u9=>?_⟩)
   ·intro s1 hx rest todo Q hk
    rw[EL] at hk
    cases g with
    |true=>exact hv.1 bX ops _ ho rest (nH hg rest) _ hx _ _ hk
    |false=>dsimp only at hv;subst hv;exact zl ho hg rest hk
   ·have hii:i∉bp ops i:=fun hd=>by
     have h2:=bN.1 hc.2.1 i hd
     rw[aJ.2 h2] at hc;exact absurd hc.1 (by simp)
    rcases List.mem_cons.1 Ji with h1|h1
    ·obtain⟨Ae,rfl⟩:=Prod.mk.inj h1
     subst Ae
     rw[cW hii]
     intro s1 hx rest todo Q hk
     rw[EL] at hk
     cases g with
     |true=>
      have hpk:Dz o.op=true:=by
       simp only[sV,ho,cW hii,hg,Bool.or_false] at hp
       exact hp
      exact hv.2 hpk s0 ops _ ho rest (nH hg rest) _ hx _ _ hk
     |false=>dsimp only at hv;subst hv;exact zl ho hg rest hk
    have Pf:j∈ak Sl:=aP.2 ⟨u,h1⟩
    rw[cW (qN j Pf)]
    exact hpf.1 j u h1 (by simp only[sV,cW (qN j Pf)] at hp;exact hp) s0
   rcases List.mem_cons.1 Ji with h1|h1
   ·obtain⟨Ae,rfl⟩:=Prod.mk.inj h1
    subst Ae
    have:=Nz hB
    rw[aJ.2 this] at hc;exact absurd hc.2.2.2.2 (by simp)
   rw[cW (qN j (aP.2 ⟨u,h1⟩))]
   exact hpf.2 j u B h1 hB s0 Hn u9
 |_=>cases hh
def ana(B:Cells)(v:Value):JS→Option JS
 | ⟨.ops ops (i::todo) k,e,w,kn⟩=>match ops[i]? with
  |some o=>some ⟨.ops ops todo k,upd o.dst v e,w,kn⟩
  |none=>none
 | ⟨.Im ops base Pl Sl k,e,w,kn⟩=>match apv ops (ak Pl) with
  |some i=>bif !bh i (ak Pl)&&(fE (bp ops i) (ak Pl)&&(oR ops (ak Pl)&&(fE (ak Sl) (ak Pl)&& !bh i (ndK kn.nd)))) then some ⟨.Im ops base ((i,v)::Pl) ((i,v)::Sl) k,e,w,⟨kn.c,(i,B)::kn.nd⟩⟩ else none
  |none=>none
 |_=>none
theorem jyN{s:JS}{v:Value}(hh:qp X.n s=some (true,o,e))(hp:ana B v s=some s')(hB:∀x∈B,(⟨X.ro,den s.rw⟩:St).has x.1 x.2)(hnp:Dz o.op=false)
 (hv:∀s0,Ext ⟨X.ro,[]⟩ s0→(∀x∈B,s0.has x.1 x.2)→IY X e o s0 v)(hj:J X (some s')):J X (some s):=by
 intro bX
 rcases s with ⟨p,e0,w,kn⟩
 cases p with
 |ops ops todo k=>
  have:Gy v ⟨.ops ops todo k,e0,w,kn⟩=some s':=by
   cases todo with
   |nil=>cases hh
   |cons i todo=>exact hp
  exact jyS hh this ⟨fun _=>hv _ Oh hB,fun h=>by rw[hnp] at h;cases h⟩ hj bX
 |Im ops base Pl Sl k=>
  simp only[qp] at hh
  split at hh<;>try (cases hh;done)
  rename_i i hi
  split at hh<;>try (cases hh;done)
  rename_i o1 ho
  split at hh<;>try (cases hh;done)
  rename_i g1 hg
  cases hh
  simp only[ana,hi] at hp
  cases hc:(!bh i (ak Pl)&&(fE (bp ops i) (ak Pl)&&(oR ops (ak Pl)&&(fE (ak Sl) (ak Pl)&& !bh i (ndK kn.nd))))) with
  |false=>rw[hc] at hp;cases hp
  |true=>
   rw[hc] at hp;simp only[cond_true,Option.some.injEq] at hp;subst hp
   simp only[Bool.and_eq_true,Bool.not_eq_true'] at hc
   have EL:aQ ops i=o.dst:=by simp only[aQ,ho,Option.bind_some]
   intro hpf
   have qN:∀j,j∈ak Sl→i∉bp ops j:=fun j hj hd=>by
    have h1:=bN.1 hc.2.2.2.1 j hj
    have h2:=bN.1 (List.all_eq_true.1 hc.2.2.1 j h1) i hd
    rw[aJ.2 h2] at hc;exact absurd hc.1 (by simp)
   have hii:i∉bp ops i:=fun hd=>by
    have h2:=bN.1 hc.2.1 i hd
    rw[aJ.2 h2] at hc;exact absurd hc.1 (by simp)
   have bV:∀s0,Ext ⟨X.ro,[]⟩ s0→(∀x∈B,s0.has x.1 x.2)→eN X.C X.fn X.az ops X.n X.D i v (cw ops base i Pl) s0:=by
    intro s0 Hn u9 s1 hx rest todo Q hk
    rw[EL] at hk
    exact hv s0 Hn u9 ops _ ho rest (nH hg rest) _ hx _ _ hk
   have aQX:sV ops X.n base ((i,v)::Pl) i=false:=by
    simp only[sV,ho,hnp,cW hii,hg,Bool.or_false]
   refine IV i hc.1 hc.2.1 hc.2.2.1 hc.2.2.2.1 (bV _ Oh hB) (hj bX ⟨fun j u Ji hp s0=>?_,fun j u B' Ji hB' s0 Hn u9=>?_⟩)
   ·rcases List.mem_cons.1 Ji with h1|h1
    ·obtain⟨Ae,rfl⟩:=Prod.mk.inj h1
     subst Ae
     rw[aQX] at hp;cases hp
    have Pf:j∈ak Sl:=aP.2 ⟨u,h1⟩
    rw[cW (qN j Pf)]
    exact hpf.1 j u h1 (by simp only[sV,cW (qN j Pf)] at hp;exact hp) s0
   rcases List.mem_cons.1 Ji with h1|h1
   ·obtain⟨Ae,rfl⟩:=Prod.mk.inj h1
    subst Ae
    rw[cW hii]
    rcases List.mem_cons.1 hB' with h2|h2
    ·cases h2;exact bV s0 Hn u9
    have:=Nz h2
    rw[aJ.2 this] at hc;exact absurd hc.2.2.2.2 (by simp)
   have Pf:j∈ak Sl:=aP.2 ⟨u,h1⟩
   rw[cW (qN j Pf)]
   rcases List.mem_cons.1 hB' with h2|h2
   ·obtain⟨Ae,rfl⟩:=Prod.mk.inj h2
    subst Ae
    have h3:=bN.1 hc.2.2.2.1 _ Pf
    rw[aJ.2 h3] at hc;exact absurd hc.1 (by simp)
   exact hpf.2 j u B' h1 h2 s0 Hn u9
 |_=>cases hh
theorem jy{s:JS}{v:Value}(hh:qp X.n s=some (g,o,e))(hp:Gy v s=some s')
 (hv:match g with|true=>ez o.op=true∧(Knows X.ro s.kn.c→Yields X.P X.n e o ⟨X.ro,den s.rw⟩ v)∧(Dz o.op=true→∀s,Yields X.P X.n e o s v)|false=>v=undef)(hj:J X (some s')):J X (some s):=by
 refine jyS hh hp ?_ hj
 cases g with
 |true=>exact⟨fun bX ops i ho rest hw s' hx todo Q hk=>lL X.hC ho rest hw hv.1 (hv.2.1 bX) hx hk,fun hp s ops i ho rest hw s' hx todo Q hk=>lL X.hC ho rest hw hv.1 (hv.2.2 hp s) hx hk⟩
 |false=>exact hv
end
def yV:List Sg→Nat→Option Sg
 | [],_=>none
 |x::_,0=>some x
 |_::l,i+1=>yV l i
def Uf:List Sg→Nat→Sg→List Sg
 | [],_,_=>[]
 |_::l,0,y=>y::l
 |x::l,i+1,y=>x::Uf l i y
def anu:Cells→Nat→Option (Nat×Obj)
 | [],_=>none
 |x::_,0=>some x
 |_::l,i+1=>anu l i
def Bu(w:List Sg)(kn:Cells)(h:Nat):Option (Nat×List Value):=
 match yV w h with
 |some (.b b (.cells ⟨l⟩ _ _))=>some (b,l)
 |some _=>none
 |none=>match anu kn (h-64) with
  |some (b,.cells ⟨l⟩ _ _)=>some (b,l)
  |_=>none
def aea(P:Program)(n:Nat)(e:Env)(w:List Sg)(h:Nat):Op→Option (List Sg×Nat×Nat)
 | .store T x y=>match bn n e x with
  |some (.pointer (some ⟨b,off,none⟩))=>match bn n e y with
   |some v=>match yV w h with
    |some (.b b' (.cells ⟨c⟩ t (0,0)))=>match a8 P T with
     |some ti=>bif Nat.beq (dS v).length ti.size&&(Nat.ble (off+(dS v).length) c.length&&(dS v).all single) then some (Uf w h (.b b' (.cells ⟨dB c off (dS v)⟩ t (0,0))),b,b') else none
     |none=>none
    |_=>none
   |none=>none
  |_=>none
 |_=>none
abbrev asA:=Option (JS×List Nat×List (Nat×Nat))
def ay0(n:Nat)(e:Env)(k:List KI):Code→Option Pos
 | .skip=>some (Qo k)
 | .seq a b=>some (.code a (.seq b::k))
 | .block id c=>some (.code c (.block id::k))
 | .region _ ops d=>bif d then (bif zr ops then some (.Im ops e [] [] k) else none) else some (.ops ops (List.range ops.size) k)
 | .exit id=>Bj id k
 | .ret=>some (.fin .ret)
 | .scope c=>some (.code c k)
 | .label _=>some (Qo k)
 | .cond c a b=>match bn n e c with
  |some (.bool true)=>some (.code a k)
  |some (.bool false)=>some (.code b k)
  |_=>none
 |_=>none
def aki(ops:Array Oper)(Pl:List (Nat×Value)):Bool:=fD ops&&(nodupB (ak Pl)&&(fE (List.range ops.size) (ak Pl)&&fE (ak Pl) (List.range ops.size)))
def opJ(P:Program)(n:Nat)(hs:List Nat)(s:JS):asA:=
 match qp n s with
 |some (g,o,e)=>bif g then (match o.op with
  | .store .. =>match s,hs with
   | ⟨.ops ops (_::todo) k,_,w,kn⟩,h::hs=>match aea P n e w h o.op with
    |some (w',b,b')=>some (⟨.ops ops todo k,upd o.dst undef e,w',kn⟩,hs,[(b,b')])
    |none=>none
   |_,_=>none
  | .load T x=>match hs with
   |h::hs=>match bn n e x with
    |some (.pointer (some ⟨b,off,none⟩))=>match Bu s.rw s.kn.c h with
     |some (b',l)=>match ldv P T l off with
      |some v=>match Gy v s with
       |some s'=>some (s',hs,[(b',b)])
       |none=>none
      |none=>none
     |none=>none
    |_=>none
   | []=>none
  |_=>bif ez o.op then (match adC P n e o with
   |some v=>match Gy v s with
    |some s'=>some (s',hs,[])
    |none=>none
   |none=>none) else none) else (match Gy undef s with
  |some s'=>some (s',hs,[])
  |none=>none)
 |none=>none
def stepJ(P:Program)(n:Nat)(hs:List Nat)(s:JS):asA:=
 match s.pos with
 | .ops _ [] k=>some (⟨Qo k,s.env,s.rw,s.kn⟩,hs,[])
 | .code c k=>match ay0 n s.env k c with
  |some p=>some (⟨p,s.env,s.rw,⟨s.kn.c,[]⟩⟩,hs,[])
  |none=>none
 | .Im ops base Pl _ k=>match apv ops (ak Pl) with
  |none=>bif aki ops Pl then some (⟨Qo k,iZ ops base Pl,s.rw,s.kn⟩,hs,[]) else none
  |some _=>opJ P n hs s
 |_=>opJ P n hs s
section
variable {X:Cx}
theorem AD:∀ {w:List Sg} {h b:Nat} {o:Obj},yV w h=some (.b b o)→∃L R,den w=L++(b,o)::R∧∀o',den (Uf w h (.b b o'))=L++(b,o')::R
 | [],_,_,_,h=>by cases h
 |x::w,0,b,o,h=>by
  simp only[yV,Option.some.injEq] at h;subst h
  exact⟨[],den w,by simp[iG],fun o'=>by simp[Uf,iG]⟩
 |x::w,i+1,b,o,h=>by
  obtain⟨L,R,h1,h2⟩:=AD (w:=w) (h:=i) h
  cases x with
  |b i' o1=>exact⟨(i',o1)::L,R,by simp[iG,h1],fun o'=>by simp[Uf,iG,h2]⟩
  |l L1=>exact⟨L1++L,R,by simp[gk,h1],fun o'=>by simp[Uf,gk,h2]⟩
theorem QN:∀ {l:Cells} {i:Nat} {x:Nat×Obj},anu l i=some x→x∈l
 | [],_,_,h=>by cases h
 |y::l,0,x,h=>by simp only[anu,Option.some.injEq] at h;subst h;exact List.mem_cons_self
 |y::l,i+1,x,h=>List.mem_cons_of_mem _ (QN (l:=l) h)
theorem zt{w:List Sg}{kn:Cells}{h:Nat}(hk:Knows X.ro kn)(hc:Bu w kn h=some (b,l)):∃t fz,(⟨X.ro,den w⟩:St).has b (.cells ⟨l⟩ t fz):=by
 unfold Bu at hc
 split at hc
 ·rename_i hn
  cases hc
  obtain⟨L,R,h1,_⟩:=AD hn
  exact⟨_,_,.inr (by show (_,_)∈den w;rw[h1];exact fw)⟩
 ·cases hc
 split at hc<;>try (cases hc;done)
 rename_i hn
 cases hc
 exact⟨_,_,.inl (hk _ (QN hn))⟩
theorem apx{w:List Sg}{k:List KI}{c:Code}{p:Pos}(h:ay0 X.n e k c=some p)(hj:JP X ⟨kn.c,[]⟩ e w p):JP X kn e w (.code c k):=by
 unfold ay0 at h
 split at h
 ·cases h;exact wp_skip X.hC (tS hj)
 ·cases h;exact wp_seq X.hC hj
 ·cases h;exact wp_block X.hC hj
 ·rename_i id ops d
  cases d with
  |true=>
   simp only[cond_true] at h
   cases hd:zr ops with
   |false=>rw[hd] at h;cases h
   |true=>
    rw[hd] at h;simp only[cond_true,Option.some.injEq] at h;subst h
    exact acx X.hC X.hm hd (hj ⟨fun _ _ h=>(List.not_mem_nil h).elim,fun _ _ _ h=>(List.not_mem_nil h).elim⟩)
  |false=>simp only[cond_false,Option.some.injEq] at h;subst h;exact wp_region X.hC hj
 ·exact wp_exit X.hC (wL h hj)
 ·cases h;exact wp_ret (AE hj k)
 ·cases h;exact Px X.hC hj
 ·cases h;exact wp_label X.hC (tS hj)
 ·split at h<;>try (cases h;done)
  ·rename_i hc;cases h;exact Xd X.hC hc rfl hj
  rename_i hc;cases h;exact Xe X.hC hc rfl hj
 cases h
theorem afw{s:JS}{q:List (Nat×Nat)}(h:opJ X.P X.n hs s=some (s',mU,q))(hq:∀p∈q,p.1=p.2)(hj:J X (some s')):J X (some s):=by
 unfold opJ at h
 split at h<;>try (cases h;done)
 rename_i g o e hh
 cases g with
 |false=>
  simp only[cond_false] at h
  split at h<;>try (cases h;done)
  rename_i s1 hp
  cases h
  exact jy hh hp rfl hj
 |true=>
  simp only[cond_true] at h
  split at h
  ·rename_i T x y ay
   split at h<;>try (cases h;done)
   rename_i ops i todo k e1 w kn h0 hsx
   split at h<;>try (cases h;done)
   rename_i w' b b' bV
   cases h
   have HP:b=b':=hq _ List.mem_cons_self
   subst HP
   simp only[qp] at hh
   split at hh<;>try (cases hh;done)
   rename_i o1 ho
   split at hh<;>try (cases hh;done)
   rename_i g1 hg
   simp only[Option.some.injEq,Prod.mk.injEq] at hh
   obtain⟨rfl,rfl,rfl⟩:=hh
   intro bX
   have hj:=hj bX
   rw[ay] at bV
   simp only[aea] at bV
   split at bV<;>try (cases bV;done)
   rename_i b0 off hx
   split at bV<;>try (cases bV;done)
   rename_i v hy
   split at bV<;>try (cases bV;done)
   rename_i b1 c t hn
   split at bV<;>try (cases bV;done)
   rename_i ti dK
   cases hc:(Nat.beq (dS v).length ti.size&&(Nat.ble (off+(dS v).length) c.length&&(dS v).all single)) with
   |false=>rw[hc] at bV;cases bV
   |true=>
    rw[hc] at bV
    simp only[cond_true,Option.some.injEq,Prod.mk.injEq] at bV
    obtain⟨rfl,rfl,rfl⟩:=bV
    simp only[Bool.and_eq_true,Nat.ble_eq] at hc
    obtain⟨bC,tf⟩:=av dK
    obtain⟨L,R,h1,h2⟩:=AD hn
    rcases o1 with ⟨dst,op,ty,pos,cZ,gd⟩
    dsimp only at ay;subst ay
    have hw:=nH hg []
    rw[List.append_nil] at hw
    refine Fe (v:=v) (l:=dS v) (L:=L) (R:=R) (c:=c) (e:=t) X.hC ho hw tf hx hy (by rw[me]) (Nat.eq_of_beq_eq_true hc.1) (List.all_eq_true.1 hc.2.2) h1 hc.2.1 ?_
    have hj:ab X.C X.fn X.az ops todo (KQ X k) _ ⟨X.ro,den _⟩:=hj
    rw[h2] at hj
    exact hj
  ·rename_i T x ay
   split at h<;>try (cases h;done)
   rename_i h0 bZ
   split at h<;>try (cases h;done)
   rename_i b off hx
   split at h<;>try (cases h;done)
   rename_i b' l hc
   split at h<;>try (cases h;done)
   rename_i v hv
   split at h<;>try (cases h;done)
   rename_i s1 hp
   cases h
   have HP:b'=b:=hq _ List.mem_cons_self
   subst HP
   refine jy hh hp ⟨by rw[ay];rfl,fun bX=>?_,fun hk=>by rw[ay] at hk;cases hk⟩ hj
   obtain⟨t,fz,hb⟩:=zt bX hc
   exact agj ay hx hb hv
  cases hn:ez o.op with
  |false=>rw[hn] at h;cases h
  |true=>
   rw[hn] at h;simp only[cond_true] at h
   split at h<;>try (cases h;done)
   rename_i v hv
   split at h<;>try (cases h;done)
   rename_i s1 hp
   cases h
   exact jy hh hp ⟨hn,fun _=>Aw hv,fun _ _=>Aw hv⟩ hj
theorem aeb{s:JS}{q:List (Nat×Nat)}(h:stepJ X.P X.n hs s=some (s',mU,q))(hq:∀p∈q,p.1=p.2)(hj:J X (some s')):J X (some s):=by
 unfold stepJ at h
 split at h
 ·rename_i ops k hp
  cases h
  rcases s with ⟨p,e,w,kn⟩
  dsimp only at hp;subst hp
  exact fun bX=>tV X.hC (tS (hj bX))
 ·rename_i c k hp
  rcases s with ⟨p,e,w,kn⟩
  dsimp only at hp;subst hp
  split at h<;>try (cases h;done)
  rename_i p hc
  cases h
  exact fun bX=>apx hc (hj bX)
 ·rename_i ops base Pl Sl k hp
  split at h
  ·cases hd:aki ops Pl with
   |false=>rw[hd] at h;cases h
   |true=>
    rw[hd] at h;simp only[cond_true,Option.some.injEq,Prod.mk.injEq] at h
    obtain⟨rfl,rfl,rfl⟩:=h
    rcases s with ⟨p,e,w,kn⟩
    dsimp only at hp;subst hp
    simp only[aki,Bool.and_eq_true] at hd
    exact fun bX _=>akV X.hC hd.1 hd.2.1 hd.2.2.1 hd.2.2.2 (tS (hj bX))
  exact afw h hq hj
 exact afw h hq hj
end
def acD(P:Program)(n:Nat):Nat→List Nat→JS→List (Nat×Nat)→Option (JS×List (Nat×Nat))
 |0,_,s,q=>some (s,q)
 |k+1,hs,s,q=>match stepJ P n hs s with
  |some (s',mU,q')=>acD P n k mU s' (q'++q)
  |none=>none
def adv(P:Program)(n k:Nat)(hs:List Nat):Option JS→Option (JS×List (Nat×Nat))
 |some s=>acD P n k hs s []
 |none=>none
def res:Option (JS×List (Nat×Nat))→Option JS
 |some (s,_)=>some s
 |none=>none
def Wa:List (Nat×Nat)→List Nat
 | []=>[]
 | (a,_)::l=>a::Wa l
def Uc:List (Nat×Nat)→List Nat
 | []=>[]
 | (_,b)::l=>b::Uc l
def lhs:Option (JS×List (Nat×Nat))→List Nat
 |some (_,q)=>Wa q
 |none=>[0]
def rhs:Option (JS×List (Nat×Nat))→List Nat
 |some (_,q)=>Uc q
 |none=>[1]
theorem ma:∀ {q:List (Nat×Nat)},Wa q=Uc q→∀p∈q,p.1=p.2
 | (a,b)::l,h,p,hp=>by
  simp only[Wa,Uc,List.cons.injEq] at h
  rcases List.mem_cons.1 hp with rfl|hp
  ·exact h.1
  exact ma h.2 p hp
theorem ZQ:∀ {k:Nat} {hs:List Nat} {s s':JS} {q q':List (Nat×Nat)},acD X.P X.n k hs s q=some (s',q')→(∀p∈q',p.1=p.2)→(J X (some s')→J X (some s))∧∀p∈q,p∈q'
 |0,_,_,_,_,_,h,_=>by simp only[acD,Option.some.injEq,Prod.mk.injEq] at h;obtain⟨rfl,rfl⟩:=h;exact⟨id,fun _ h=>h⟩
 |k+1,hs,s,s',q,q',h,hq=>by
  simp only[acD] at h
  split at h<;>try (cases h;done)
  rename_i s1 bZ q1 bV
  obtain⟨h1,h2⟩:=ZQ h hq
  exact⟨fun hj=>aeb bV (fun p hp=>hq p (h2 p (List.mem_append_left _ hp))) (h1 hj),fun p hp=>h2 p (List.mem_append_right _ hp)⟩
theorem jd{o:Option JS}(k:Nat)(hs:List Nat)(h:J X (res (adv X.P X.n k hs o)))(he:lhs (adv X.P X.n k hs o)=rhs (adv X.P X.n k hs o):=by kernel_rfl):J X o:=by
 cases o with
 |none=>exact h
 |some s=>
  simp only[adv] at he h
  cases hc:acD X.P X.n k hs s [] with
  |none=>rw[hc] at h;exact h.elim
  |some x=>
   rcases x with ⟨s',q⟩
   rw[hc] at he h
   exact(ZQ hc (ma he)).1 h
attribute [irreducible] adv res lhs rhs
def dA(n:Nat)(f:Oper→Env→Option β):Option JS→Option β
 |some s=>match qp n s with
  |some (true,p,e)=>f p e
  |_=>none
 |none=>none
def jO(v:Value):Option JS→Option JS
 |some s=>Gy v s
 |none=>none
def Qq:List Nat→List Sg→Option (List Sg)
 | [],_=>some []
 |i::is,w=>match yV w i with
  |some x=>match Qq is w with
   |some r=>some (x::r)
   |none=>none
  |none=>none
def dD(is:List Nat):Nat→List Sg→List Sg
 |_,[]=>[]
 |k,x::w=>bif bh k is then dD is (k+1) w else x::dD is (k+1) w
def GM:List Nat→Bool
 | []=>true
 |i::is=> !bh i is&&GM is
def qZ(is:List Nat):Option JS→Option (List Sg)
 |some s=>bif GM is then Qq is s.rw else none
 |none=>none
def dM(is:List Nat)(o:Option JS):Option Cells:=match qZ is o with
 |some w=>some (den w)
 |none=>none
def lkE:List Nat→Env→Option Env
 | [],_=>some []
 |t::ts,e=>match gI e t with
  |some v=>match lkE ts e with
   |some r=>some ((t,v)::r)
   |none=>none
  |none=>none
def ng:Env→List Nat
 | []=>[]
 | (t,_)::e=>t::ng e
def q9(ts:List Nat):Option JS→Option Env
 |some s=>lkE ts s.env
 |none=>none
theorem s9{ts:List Nat}{s:JS}:q9 ts (some s)=lkE ts s.env:=rfl
theorem kH:∀ {ts:List Nat} {r:Env},lkE ts e=some r→kO e r
 | [],r,h=>by simp only[lkE,Option.some.injEq] at h;subst h;trivial
 |t::ts,r,h=>by
  simp only[lkE] at h
  split at h<;>try (cases h;done)
  rename_i v hv
  split at h<;>try (cases h;done)
  rename_i r' hr
  cases h
  exact⟨hv,kH hr⟩
theorem lF:∀(a b:List Sg),den (a++b)=den a++den b
 | [],b=>rfl
 | .b i o::a,b=>by simp[iG,lF a b]
 | .l L::a,b=>by simp[gk,lF a b]
theorem xG:∀(w:List Sg) (k:Nat),dD [] k w=w
 | [],_=>rfl
 |x::w,k=>by simp[dD,bh,xG w (k+1)]
theorem Io:∀ {w:List Sg} {i k:Nat} {is:List Nat} {x:Sg},yV w i=some x→bh (k+i) is=false→(den (dD is k w)).Perm (den [x]++den (dD ((k+i)::is) k w))
 | [],_,_,_,_,h,_=>by cases h
 |y::w,0,k,is,x,h,hi=>by
  simp only[yV,Option.some.injEq] at h;subst h
  have hz:∀(w:List Sg) (j:Nat),k <j→dD (k::is) j w=dD is j w:=by
   intro w
   induction w with
   |nil=>intro j _;rfl
   |cons z w ih=>
    intro j hj
    have:Nat.beq j k=false:=beq_false (by omega)
    simp only[dD,bh,this,Bool.false_or,ih (j+1) (by omega)]
  simp only[Nat.add_zero] at hi ⊢
  simp only[dD,hi,cond_false,bh,Nat.beq_refl,Bool.true_or,cond_true,hz w (k+1) (by omega)]
  cases y with
  |b i o=>rw[iG];exact .refl _
  |l L=>rw[gk];exact .refl _
 |y::w,i+1,k,is,x,h,hi=>by
  have e:k+(i+1)=(k+1)+i:=by omega
  rw[e] at hi ⊢
  have hr:=Io (w:=w) (k:=k+1) (is:=is) h hi
  have dL:Nat.beq k ((k+1)+i)=false:=beq_false (by omega)
  simp only[dD,bh,dL,Bool.false_or]
  cases bh k is with
  |true=>simp only[cond_true];exact hr
  |false=>
   simp only[cond_false]
   cases y with
   |b i' o=>rw[iG,iG];exact(hr.cons _).trans List.perm_middle.symm
   |l L=>
    rw[gk,gk]
    refine(hr.append_left L).trans ?_
    rw[←List.append_assoc,←List.append_assoc]
    exact List.Perm.append_right _ List.perm_append_comm
theorem xu{w:List Sg}:∀ {is:List Nat} {r:List Sg},Qq is w=some r→GM is=true→(den w).Perm (den r++den (dD is 0 w))
 | [],r,h,_=>by simp only[Qq,Option.some.injEq] at h;subst h;rw[xG];exact .refl _
 |i::is,r,h,ho=>by
  simp only[Qq] at h
  split at h<;>try (cases h;done)
  rename_i x hx
  split at h<;>try (cases h;done)
  rename_i r' hr
  cases h
  simp only[GM,Bool.and_eq_true,Bool.not_eq_true'] at ho
  have h1:=xu hr ho.2
  have h2:=Io (k:=0) (is:=is) hx (by rw[Nat.zero_add];exact ho.1)
  rw[Nat.zero_add] at h2
  refine h1.trans ((List.Perm.append_left _ h2).trans ?_)
  have:den (x::r')=den [x]++den r':=by rw[←lF];rfl
  rw[this,←List.append_assoc]
  exact List.Perm.append_right _ List.perm_append_comm
theorem lK{is:List Nat}{s:JS}{w:List Sg}(h:qZ is (some s)=some w):(den s.rw).Perm (den w++den (dD is 0 s.rw)):=by
 simp only[qZ] at h
 cases ho:GM is with
 |false=>rw[ho] at h;cases h
 |true=>rw[ho] at h;exact xu h ho
theorem bJ{is:List Nat}{s:JS}{L:Cells}(h:dM is (some s)=some L):(den s.rw).Perm (L++den (dD is 0 s.rw)):=by
 simp only[dM] at h
 split at h<;>try (cases h;done)
 rename_i w hw
 cases h
 exact lK hw
theorem SI{is:List Nat}{s:JS}{L:Cells}(h:dM is (some s)=some L):∀x∈L,(⟨X.ro,den s.rw⟩:St).has x.1 x.2:=fun x hx=> .inr ((bJ h).mem_iff.2 (List.mem_append_left _ hx))
section
variable {X:Cx} {o:Option JS}
theorem sG{f:Oper→Env→Option β}{r:β}(h:dA n f o=some r):∃s p e,o=some s∧qp n s=some (true,p,e)∧f p e=some r:=by
 unfold dA at h
 split at h<;>try (cases h;done)
 rename_i s
 split at h<;>try (cases h;done)
 rename_i p e hh
 exact⟨s,p,e,rfl,hh,h⟩
theorem jG{v:Value}{f:Oper→Env→Option β}{r:β}(h:dA X.n f o=some r)(hy:∀s p e,o=some s→qp X.n s=some (true,p,e)→f p e=some r→ez p.op=true∧(Knows X.ro s.kn.c→Yields X.P X.n e p ⟨X.ro,den s.rw⟩ v)∧(Dz p.op=true→∀s,Yields X.P X.n e p s v))(hj:J X (jO v o)):J X o:=by
 obtain⟨s,p,e,rfl,hh,hf⟩:=sG h
 obtain⟨h1,h2,h3⟩:=hy s p e rfl hh hf
 simp only[jO] at hj
 cases hp:Gy v s with
 |none=>rw[hp] at hj;exact hj.elim
 |some s'=>rw[hp] at hj;exact jy hh hp ⟨h1,h2,h3⟩ hj
theorem jGS{v:Value}{f:Oper→Env→Option β}{r:β}(h:dA X.n f o=some r)(hy:∀s p e,o=some s→f p e=some r→IY X e p ⟨X.ro,den s.rw⟩ v∧(Dz p.op=true→∀s,IY X e p s v))(hj:J X (jO v o)):J X o:=by
 obtain⟨s,p,e,rfl,hh,hf⟩:=sG h
 simp only[jO] at hj
 cases hp:Gy v s with
 |none=>rw[hp] at hj;exact hj.elim
 |some s'=>rw[hp] at hj;exact jyS hh hp ⟨fun _=>(hy s p e rfl hf).1,(hy s p e rfl hf).2⟩ hj
def Nm(B:Cells)(v:Value):Option JS→Option JS
 |some s=>ana B v s
 |none=>none
theorem jGN{v:Value}{f:Oper→Env→Option β}{r:β}(h:dA X.n f o=some r)(hB:dM ps o=some B)(hy:∀s p e,o=some s→qp X.n s=some (true,p,e)→f p e=some r→Dz p.op=false∧∀s0,Ext ⟨X.ro,[]⟩ s0→(∀x∈B,s0.has x.1 x.2)→IY X e p s0 v)(hj:J X (Nm B v o)):J X o:=by
 obtain⟨s,p,e,rfl,hh,hf⟩:=sG h
 obtain⟨h1,h2⟩:=hy s p e rfl hh hf
 simp only[Nm] at hj
 cases hp:ana B v s with
 |none=>rw[hp] at hj;exact hj.elim
 |some s'=>rw[hp] at hj;exact jyN hh hp (SI hB) h1 h2 hj
theorem Re{v:Value}{f:Oper→Env→Option β}{r:β}(h:dA X.n f o=some r)(hy:∀s p e,o=some s→f p e=some r→∀s0,IY X e p s0 v)(hj:J X (jO v o)):J X o:=
 jGS h (fun s p e ho hf=>⟨hy s p e ho hf _,fun _=>hy s p e ho hf⟩) hj
def as8(P:Program)(n:Nat)(p:Oper)(e:Env):Option Value:=bif ez p.op then adC P n e p else none
theorem je(v:Value){w:Value}(hw:w=v)(hj:J X (jO v o))(hv:dA X.n (as8 X.P X.n) o=some w:=by kernel_rfl):J X o:=by
 subst hw
 refine jG hv (fun s p e _ _ hf=>?_) hj
 unfold as8 at hf
 cases hn:ez p.op with
 |false=>rw[hn] at hf;cases hf
 |true=>rw[hn] at hf;exact⟨rfl,fun _=>Aw hf,fun _ _=>Aw hf⟩
theorem ja(r:Int)(h: -9223372036854775808≤r∧r≤9223372036854775807)(hj:J X (jO (.int .i64 r) o))(hv:dA X.n (as8 X.P X.n) o=some (.int .i64 (IntKind.i64.wrap r)):=by kernel_rfl):J X o:=je _ (by rw[ko r h]) hj hv
def ldA(P:Program)(n k:Nat)(vs:List Value)(p:Oper)(e:Env):Option (Option Addr):=match p.op with
 | .load T x=>match ldv P T vs k with
  |some _=>match bn n e x with
   |some (.pointer a)=>some a
   |_=>none
  |none=>none
 |_=>none
def ldW(P:Program)(n k:Nat)(vs:List Value)(o:Option JS):Value:=(dA n (fun p _=>match p.op with
 | .load T _=>ldv P T vs k
 |_=>none) o).getD undef
theorem pg{m:Nat}(k:Nat)(ps:List Nat)(B:Cells)(hr:∀s:St,Ext ⟨X.ro,[]⟩ s→(∀x∈B,s.has x.1 x.2)→cB s b off m vs)(hj:J X (Nm B (ldW X.P X.n k vs o) o))(hv:dA X.n (ldA X.P X.n k vs) o=some (some ⟨b,off+k,none⟩):=by kernel_rfl)(hB:dM ps o=some B:=by kernel_rfl):J X o:=by
 refine jGN hv hB (fun s p e ho hh hf=>?_) hj
 subst ho
 unfold ldA at hf
 split at hf<;>try (cases hf;done)
 rename_i T x ay
 split at hf<;>try (cases hf;done)
 rename_i v hv2
 split at hf<;>try (cases hf;done)
 rename_i a hx
 simp only[Option.some.injEq] at hf;subst hf
 have hw:ldW X.P X.n k vs (some s)=v:=by simp only[ldW,dA,hh,ay,hv2,Option.getD_some]
 rw[hw]
 exact⟨by rw[ay];rfl,fun s0 Hn u9 ops i ho rest hwt s' hs todo Q hk=>lL X.hC ho rest hwt (by rw[ay];rfl) (au8 k ay hx (hr s0 Hn u9) hv2) hs hk⟩
theorem jl{m:Nat}(k:Nat)(hr:cB ⟨X.ro,[]⟩ b off m vs)(hj:J X (Nm [] (ldW X.P X.n k vs o) o))(hv:dA X.n (ldA X.P X.n k vs) o=some (some ⟨b,off+k,none⟩):=by kernel_rfl):J X o:=by
 have hB:dM [] o=some []:=by
  obtain⟨s,_,_,rfl,_⟩:=sG hv
  rfl
 exact pg k [] [] (fun s hs _=>hr.ext hs) hj hv hB
def ixA(P:Program)(n:Nat)(p:Oper)(e:Env):Option (Value×Int×Nat):=match p.op with
 | .indexAddr T x y=>match a8 P T with
  |some ⟨.slice E,_,_,_⟩=>match a8 P E with
   |some te=>match bn n e x with
    |some v=>match bn n e y with
     |some (.int _ ix)=>some (v,ix,te.size)
     |_=>none
    |none=>none
   |none=>none
  |_=>none
 |_=>none
theorem jix{a:Option Addr}{len:Nat}(ix:Int)(cap sz:Nat)(ha:a=some ⟨b,off,none⟩)(hi:0≤ix∧ix <len)(hj:J X (jO (.pointer (some ⟨b,off+ix.toNat*sz,none⟩)) o))(hv:dA X.n (ixA X.P X.n) o=some (.slice a len cap,ix,sz):=by kernel_rfl):J X o:=by
 refine jG hv (fun s p e ho hh hf=>?_) hj
 unfold ixA at hf
 split at hf<;>try (cases hf;done)
 rename_i T x y ay
 split at hf<;>try (cases hf;done)
 rename_i E _ _ _ dK
 split at hf<;>try (cases hf;done)
 rename_i te uj
 split at hf<;>try (cases hf;done)
 rename_i v hx
 split at hf<;>try (cases hf;done)
 rename_i ik ix' hy
 simp only[Option.some.injEq,Prod.mk.injEq] at hf
 obtain⟨rfl,rfl,rfl⟩:=hf
 subst ha
 obtain⟨bC,tf⟩:=av dK
 obtain⟨Aj,p5⟩:=av uj
 have key:∀s,Yields X.P X.n e p s (.pointer (some ⟨b,off+ix'.toNat*te.size,none⟩)):=by
  intro s s' mU f hf K E hK
  simp only[execOp,ay,Instr.indexAt,hf _ _ hx,hf _ _ hy,asIntOf,aa,ae,aZ tf,hi,and_self,if_true,cg p5,dI]
  exact hK
 exact⟨by rw[ay];rfl,fun _=>key _,fun _=>key⟩
theorem ek{ps:List α}{x:α}{a:Option Addr}(cap sz:Nat)(ha:∀k,k <ps.length→a=some ⟨b,off,none⟩)(hx:ps[k]?=some x) (hj:J X (jO (.pointer (some ⟨b,off+k*sz,none⟩)) o)) (hv:dA X.n (ixA X.P X.n) o=some (.slice a ps.length cap,(k:Int),sz):=by kernel_rfl):J X o:=
 have hk:k <ps.length:=(List.getElem?_eq_some_iff.1 hx).1
 jix (k:Int) cap sz (ha k hk) (by omega) hj hv
theorem NI{ps:List α}{x:α}{a:Option Addr}(ix:Int)(cap sz:Nat)(ha:∀k,k <ps.length→a=some ⟨b,off,none⟩)(hx:ps[k]?=some x) (he:ix=(k:Int)) (hj:J X (jO (.pointer (some ⟨b,off+k*sz,none⟩)) o)) (hv:dA X.n (ixA X.P X.n) o=some (.slice a ps.length cap,ix,sz):=by kernel_rfl):J X o:=by
 subst he;exact ek cap sz ha hx hj hv
theorem jxo{v:Value}{enc:α→List Value}{ps:List α}{L:Cells}{x:α}(sz:Nat)(kJ:ax v szo T2 enc ps L)(hx:ps[k]?=some x) (hj:∀b,OT v b→J X (jO (.pointer (some ⟨b,k*sz,none⟩)) o)) (hv:dA X.n (ixA X.P X.n) o=some (v,(k:Int),sz):=by kernel_rfl):J X o:=by
 have hk:k <ps.length:=(List.getElem?_eq_some_iff.1 hx).1
 obtain⟨b,hb⟩:=aDY kJ hk
 have fM:=hb
 obtain⟨n0,c,rfl⟩:=fM
 have hn:n0=ps.length:=by
  obtain⟨a,c',he⟩:=kJ.form
  cases he;rfl
 subst hn
 have hj:=hj b hb
 exact jix (off:=0) (k:Int) c sz rfl (by omega) (by rw[Nat.zero_add];exact hj) hv
theorem qi{v:Value}{enc:α→List Value}{ps:List α}{L:Cells}{x:α}(ix:Int)(sz:Nat)(kJ:ax v szo T2 enc ps L)(hx:ps[k]?=some x) (he:ix=(k:Int)) (hj:∀b,OT v b→J X (jO (.pointer (some ⟨b,k*sz,none⟩)) o)) (hv:dA X.n (ixA X.P X.n) o=some (v,ix,sz):=by kernel_rfl):J X o:=by
 subst he;exact jxo sz kJ hx hj hv
end
attribute [irreducible] dA jO Nm dM qZ q9 ldW
section
variable {X:Cx} {o:Option JS}
theorem O0{D:List Deferred}{t:Nat}{v:Value}(h:gI e t=some v):A n ((t,v)::e) D=A n e D:=by
 simp only[A]
 congr 1
 congr 1
 funext i
 simp only[get]
 cases hb:Nat.beq t i with
 |false=>rfl
 |true=>
  have:=Nat.eq_of_beq_eq_true hb
  subst this
  exact(mL h).symm
def Qa(j:Nat)(v:Value):List (Nat×Value)→List (Nat×Value)
 | []=>[]
 | (i,w)::r=>bif Nat.beq i j then (i,v)::r else (i,w)::Qa j v r
theorem Gl{j:Nat}{v:Value}:∀ {l:List (Nat×Value)},Qp l j=some v→Qa j v l=l
 | (i,w)::r,h=>by
  simp only[Qp] at h
  simp only[Qa]
  cases hb:Nat.beq i j with
  |true=>rw[hb] at h;simp only[cond_true,Option.some.injEq] at h;subst h;rfl
  |false=>rw[hb] at h;simp only[cond_false] at h ⊢;rw[Gl h]
def aqH(t:Nat):JS→Option Value
 | ⟨.Im _ _ Pl _ _,_,_,_⟩=>Qp Pl t
 |s=>gI s.env t
def Ky(t:Nat):Option JS→Option Value
 |some s=>aqH t s
 |none=>none
def aaq(t:Nat)(v:Value):JS→JS
 | ⟨.Im ops base Pl Sl k,e,w,kn⟩=>⟨.Im ops base (Qa t v Pl) Sl k,e,w,kn⟩
 | ⟨p,e,w,kn⟩=>⟨p,(t,v)::e,w,kn⟩
def Qb(t:Nat)(v:Value):Option JS→Option JS
 |some s=>some (aaq t v s)
 |none=>none
theorem jw(t:Nat)(v:Value){w:Value}(hw:w=v)(hj:J X (Qb t v o))(hv:Ky t o=some w:=by kernel_rfl):J X o:=by
 subst hw
 cases o with
 |none=>exact hj
 |some s=>
  rcases s with ⟨p,e,Jx,kn⟩
  intro bX
  have hj:=hj
  cases p with
  |Im ops base Pl Sl k=>
   simp only[Ky,aqH] at hv
   have:Qa t w Pl=Pl:=Gl hv
   simp only[Qb,aaq,this] at hj
   exact hj bX
  |ops a b c=>have:=hj bX;simp only[aaq,JP] at this;rw[O0 hv] at this;exact this
  |code a b=>have:=hj bX;simp only[aaq,JP] at this;rw[O0 hv] at this;exact this
  |nxt a=>have:=hj bX;simp only[aaq,JP] at this;rw[O0 hv] at this;exact this
  |fin a=>have:=hj bX;simp only[aaq,JP] at this;rw[O0 hv] at this;exact this
theorem ji(t:Nat){c b:Bool}(h:c=b)(hj:J X (Qb t (.bool b) o))(hv:Ky t o=some (.bool c):=by kernel_rfl):J X o:=jw t _ (by rw[h]) hj hv
theorem js(t:Nat)(c:Bool)(h1:c=true→J X (Qb t (.bool true) o))(h2:c=false→J X (Qb t (.bool false) o))(hv:Ky t o=some (.bool c):=by kernel_rfl):J X o:=by
 cases hc:c with
 |true=>exact ji t hc (h1 hc) hv
 |false=>exact ji t hc (h2 hc) hv
def aEl(P:Program)(n:Nat)(p:Oper)(e:Env):Option (Obj×Option Nat):=match p.op with
 | .alloc T=>match a8 P T with
  |some ti=>some (.cells ⟨ti.zero⟩ T (0,0),none)
  |none=>none
 | .box T x=>match bn n e x with
  |some v=>some (.cells ⟨dS v⟩ T (0,0),none)
  |none=>none
 | .buildSlice T m ps=>match a8 P T with
  |some ⟨.slice E,_,_,_⟩=>match a8 P E with
   |some te=>match Ph n e ps.toList with
    |some pv=>match oG (fun i=>some (i*te.size,te.size)) (cY te.zero m) (tT pv) with
     |some l=>bif Nat.beq te.zero.length te.size&&Nat.ble (m*te.size) 16777216 then some (.cells ⟨l⟩ E (0,0),some m) else none
     |none=>none
    |none=>none
   |none=>none
  |_=>none
 | .range T x=>match a8 P T with
  |some ⟨.string,_,_,_⟩=>match bn n e x with
   |some (.string b)=>some (.stringIter b 0,none)
   |_=>none
  |_=>none
 |_=>none
def afP(b:Nat):Option Nat→Value
 |some m=> .slice (some ⟨b,0,none⟩) m m
 |none=> .pointer (some ⟨b,0,none⟩)
def auN(P:Program)(n b:Nat):Option JS→Option JS
 |some ⟨.ops ops (i::todo) k,e,w,kn⟩=>match qp n ⟨.ops ops (i::todo) k,e,w,kn⟩ with
  |some (true,p,_)=>match aEl P n p e with
   |some (ob,m)=>some ⟨.ops ops todo k,upd p.dst (afP b m) e,.b b ob::w,kn⟩
   |none=>none
  |_=>none
 |_=>none
theorem RV{ops:Array Oper}{k:List KI}{e':Env}{w:List Sg}(h:qp n ⟨.ops ops (i::todo) k,e,w,kn⟩=some (g,p,e')):ops[i]?=some p∧e'=e∧(g=true→aw ops n e p.guard=true):=by
 simp only[qp] at h
 split at h<;>try (cases h;done)
 rename_i p1 ho
 split at h<;>try (cases h;done)
 rename_i g1 hg
 cases h
 refine⟨ho,rfl,fun hg'=>?_⟩
 subst hg'
 have:=nH hg []
 rwa[List.append_nil] at this
theorem jn(hj:∀b,J X (auN X.P X.n b o)):J X o:=by
 unfold auN at hj
 split at hj
 ·rename_i ops i todo k e w kn
  split at hj
  ·rename_i p e' hh
   obtain⟨ho,rfl,hw⟩:=RV hh
   have hw:=hw rfl
   intro bX
   rcases p with ⟨dst,op,ty,pos,cZ,g⟩
   split at hj
   ·rename_i ob m hn
    have key:∀b,ab X.C X.fn X.az ops todo (KQ X k) (A X.n (upd dst (afP b m) e') X.D) ⟨X.ro,(b,ob)::den w⟩:=fun b=>by
     have:=hj b bX
     simp only[JP,iG] at this
     exact this
    unfold aEl at hn
    split at hn
    ·rename_i T ay
     dsimp only at ay;subst ay
     split at hn<;>try (cases hn;done)
     rename_i ti dK
     cases hn
     obtain⟨bC,tf⟩:=av dK
     exact ant X.hC ho hw tf fun b _=>key b
    ·rename_i T x ay
     dsimp only at ay;subst ay
     split at hn<;>try (cases hn;done)
     rename_i v hx
     cases hn
     exact aEd X.hC ho hw hx (by rw[me]) fun b _=>key b
    ·rename_i T m0 ps ay
     dsimp only at ay;subst ay
     split at hn<;>try (cases hn;done)
     rename_i E _ _ _ dK
     split at hn<;>try (cases hn;done)
     rename_i te uj
     split at hn<;>try (cases hn;done)
     rename_i pv JY
     split at hn<;>try (cases hn;done)
     rename_i l hl
     cases hc:(Nat.beq te.zero.length te.size&&Nat.ble (m0*te.size) 16777216) with
     |false=>rw[hc] at hn;cases hn
     |true=>
      rw[hc] at hn;simp only[cond_true,Option.some.injEq,Prod.mk.injEq] at hn
      obtain⟨rfl,rfl⟩:=hn
      simp only[Bool.and_eq_true] at hc
      obtain⟨bC,tf⟩:=av dK
      obtain⟨Aj,p5⟩:=av uj
      exact Nw X.hC ho hw tf p5 hc.1 JY hc.2 hl fun b _=>key b
    ·rename_i T x ay
     dsimp only at ay;subst ay
     split at hn<;>try (cases hn;done)
     rename_i dK
     split at hn<;>try (cases hn;done)
     rename_i bs hx
     cases hn
     obtain⟨bC,tf⟩:=av dK
     exact UH X.hC ho hw tf hx fun b _=>key b
    cases hn
   exact(hj 0).elim
  exact(hj 0).elim
 exact(hj 0).elim
def akI(n:Nat)(p:Oper)(e:Env):Option (FuncId×List Value):=match p.op with
 | .call ⟨.value x,xs,_⟩=>match bn n e x with
  |some (.func (.func f) ⟨fi⟩ ⟨ca⟩)=>match ya n e xs.toList with
   |some vs=>some (f,fi++vs++ca)
   |none=>none
  |_=>none
 |_=>none
def yx(P:Program)(n:Nat)(p:Oper)(e:Env):Option (FuncId×List Value):=match akI n p e with
 |some (f,vs)=>bif BR P f then some (f,vs) else none
 |none=>none
theorem qH(h:yx P n p e=some (f,vs)):FF P f∧∃x xs at_ fi ca ws,p.op= .call ⟨.value x,xs,at_⟩∧bn n e x=some (.func (.func f) ⟨fi⟩ ⟨ca⟩)∧vv n e xs=some ws∧vs=fi++ws++ca:=by
 unfold yx at h
 split at h<;>try (cases h;done)
 rename_i f' oe hc
 cases hb:BR P f' with
 |false=>rw[hb] at h;cases h
 |true=>
  rw[hb] at h;simp only[cond_true,Option.some.injEq,Prod.mk.injEq] at h
  obtain⟨rfl,rfl⟩:=h
  refine⟨kU hb,?_⟩
  unfold akI at hc
  split at hc<;>try (cases hc;done)
  rename_i x xs at_ ay
  split at hc<;>try (cases hc;done)
  rename_i f fi ca hx
  split at hc<;>try (cases hc;done)
  rename_i ws rY
  cases hc
  exact⟨x,xs,at_,fi,ca,ws,ay,hx,rY,rfl⟩
theorem S3(a b c:List Value):(⟨a⟩:Array Value)++⟨b⟩++⟨c⟩=⟨a++b++c⟩:=by simp
def mY(ps:List Nat)(v:Value)(Y:Cells):Option JS→Option JS
 |some ⟨.ops ops (i::todo) k,e,w,kn⟩=>match ops[i]? with
  |some p=>some ⟨.ops ops todo k,upd p.dst v e,.l Y::dD ps 0 w,kn⟩
  |none=>none
 |_=>none
def eW(n:Nat)(f:Oper→Env→Option β):Option JS→Option β
 |some ⟨.ops a b c,e,w,kn⟩=>dA n f (some ⟨.ops a b c,e,w,kn⟩)
 |_=>none
theorem dz{f:Oper→Env→Option β}{r:β}(h:eW n f o=some r):∃ops i todo k e w kn p,o=some ⟨.ops ops (i::todo) k,e,w,kn⟩∧ops[i]?=some p∧aw ops n e p.guard=true∧f p e=some r:=by
 unfold eW at h
 split at h<;>try (cases h;done)
 rename_i ops todo k e w kn
 obtain⟨s,p,e',hs,hh,hf⟩:=sG h
 cases hs
 cases todo with
 |nil=>cases hh
 |cons i todo=>
  obtain⟨ho,rfl,hw⟩:=RV hh
  exact⟨ops,i,todo,k,e',w,kn,p,rfl,ho,hw rfl,hf⟩
def arb(ps lp:List Nat):Option JS→Option Cells
 |some s=>dM lp (some {s with rw:=dD ps 0 s.rw})
 |none=>none
theorem n7{ops:Array Oper}{k:List KI}{w:List Sg}{v:Value}(ho:ops[i]?=some p):mY ps v Y (some ⟨.ops ops (i::todo) k,e,w,kn⟩)=some ⟨.ops ops todo k,upd p.dst v e,.l Y::dD ps 0 w,kn⟩:=by
 simp only[mY,ho]
theorem jcL{own:Cells}(ps lp:List Nat)(B:Cells)(hf:∀aI,Sub X.ro aI→Knows aI B→dO X.P f vs aI own Φ)(hj:∀v Y,Φ v Y→J X (mY ps v Y o))(h1:eW X.n (yx X.P X.n) o=some (f,vs):=by kernel_rfl)(h2:dM ps o=some own:=by kernel_rfl)(h3:arb ps lp o=some B:=by kernel_rfl):J X o:=by
 obtain⟨ops,i,todo,k,e,w,kn,p,rfl,ho,hw,hc⟩:=dz h1
 obtain⟨ff,x,xs,at_,fi,ca,ws,ay,hx,rY,rfl⟩:=qH hc
 intro bX
 rcases p with ⟨dst,op,ty,pos,cZ,g⟩
 dsimp only at ay;subst ay
 have hp:=bJ h2
 refine afG (own:=own) (B:=B) (Φ:=Φ) X.hC ho hw hx ff rY (S3 fi ws ca) hp (fun y hy=>(bJ h3).mem_iff.2 (List.mem_append_left _ hy)) (fun aI hs hB=>hf aI hs hB) (fun v Y qj=>?_)
 have:=hj v Y qj
 simp only[mY,ho] at this
 have:=this bX
 simp only[JP,gk] at this
 exact this
theorem jc{own:Cells}(ps:List Nat)(hf:dO X.P f vs X.ro own Φ)(hj:∀v Y,Φ v Y→J X (mY ps v Y o))(h1:eW X.n (yx X.P X.n) o=some (f,vs):=by kernel_rfl)(h2:dM ps o=some own:=by kernel_rfl):J X o:=by
 obtain⟨ops,i,todo,k,e,w,kn,p,rfl,ho,hw,hc⟩:=dz h1
 obtain⟨ff,x,xs,at_,fi,ca,ws,ay,hx,rY,rfl⟩:=qH hc
 intro bX
 rcases p with ⟨dst,op,ty,pos,cZ,g⟩
 dsimp only at ay;subst ay
 have hp:=bJ h2
 refine ub (fi:=⟨fi⟩) (ca:=⟨ca⟩) (ws:=fi++ws++ca) X.hC ho hw hx ff rY (S3 fi ws ca) (Fn.weaken X.hC (dO.aBz (s:=⟨X.ro,den w⟩) hp hf)) (fun v' s' hr=>?_) (fun ch s' hr=>by obtain⟨_,_,e,_⟩:=hr;cases e) (fun s' hr=>by obtain⟨_,_,e,_⟩:=hr;cases e)
 obtain⟨v,Y,hv,qj,hle⟩:=hr
 cases hv
 have:=hj _ Y qj
 simp only[mY,ho] at this
 have:=this bX
 simp only[JP,gk] at this
 exact this.more X.hC hle
theorem jp{V:Value}(lp:List Nat)(B:Cells)(hf:∀aI,Sub X.ro aI→Knows aI B→dv X.P f vs aI V)(hj:J X (Nm B V o))(h1:dA X.n (yx X.P X.n) o=some (f,vs):=by kernel_rfl)(h3:dM lp o=some B:=by kernel_rfl):J X o:=by
 refine jGN h1 h3 (fun s p e ho hh hc=>?_) hj
 obtain⟨ff,x,xs,at_,fi,ca,ws,ay,hx,rY,rfl⟩:=qH hc
 rcases p with ⟨dst,op,ty,pos,cZ,g⟩
 dsimp only at ay;subst ay
 refine⟨rfl,fun s0 Hn u9 ops i r8 rest hw s' hs todo Q hk=>?_⟩
 have hez:Ext ⟨X.ro,B⟩ s':=fun b ob hb=>hs _ _ (hb.elim (fun h=>Hn _ _ (.inl h)) fun h=>u9 (b,ob) h)
 exact QK X.hC r8 hw (aY hx) ff (xE rY) (S3 fi ws ca) hez (fun aI h1=>hf aI (Gh h1) fun y hy=>h1 _ _ (.inr hy)) hk
end
attribute [irreducible] eW Qb Ky auN mY arb
def qA(P:Program)(f:FuncId):Func:=match P.funcs[f]? with
 |some fn=>fn
 |none=>default
abbrev RX(ro:Nat→Option Obj)(Φ:Value→Cells→Prop):Ending→St→Prop:=fun en s'=>∃v X,en= .returned v∧s'=⟨ro,X⟩∧Φ v X
def X0(P:Program)(hm:P.follows .mixedOrders=true)(f:FuncId)(ro:Nat→Option Obj)(R:Ending→St→Prop):Cx:=⟨P,CP P,eQ,hm,f,none,(qA P f).ntmps,[],ro,rz P (qA P f) R⟩
def jC(P:Program)(f:FuncId)(args:List Value)(own:List Sg)(kn:Cells):Option JS:=match P.funcs[f]? with
 |some fn=>match fn.body with
  |some c=>bif Nat.ble args.length fn.ntmps then some ⟨.code c [],fN 0 args,own,⟨kn,[]⟩⟩ else none
  |none=>none
 |none=>none
theorem aEW{hm:P.follows .mixedOrders=true}(own:List Sg)(kn:Cells)(hk:Knows ro kn)(h:J (X0 P hm f ro R) (jC P f args own kn)):Fn (CP P) P f ⟨args⟩ ⟨ro,den own⟩ R:=by
 unfold jC at h
 split at h<;>try exact h.elim
 rename_i fn hf
 split at h<;>try exact h.elim
 rename_i c hc
 cases hl:Nat.ble args.length fn.ntmps with
 |false=>rw[hl] at h;exact h.elim
 |true=>
  rw[hl] at h
  have uR:qA P f=fn:=by simp only[qA,hf]
  have:=h hk
  simp only[JP,X0,KQ,uR] at this
  exact Sq eQ hf hc rfl hl this
theorem bB(hm:P.follows .mixedOrders=true){L:Cells}(own:List Sg)(kn:Cells)(hk:Knows ro kn)(h:J (X0 P hm f ro (RX ro Φ)) (jC P f args own kn))(hL:den own=L:=by rfl):dO P f args ro L Φ:=by
 subst hL;exact aEW own kn hk h
def B5(P:Program)(n:Nat)(e:Env)(w:List Sg)(kn:Cells):List Nat→List ResultVar→Option (List Value×List (Nat×Nat))
 |_,[]=>some ([],[])
 |hs,.tmp t::rs=>match bn n e (.tmp t) with
  |some v=>match B5 P n e w kn hs rs with
   |some (vs,q)=>some (v::vs,q)
   |none=>none
  |none=>none
 |h::hs,.cell t T::rs=>match bn n e (.tmp t) with
  |some (.pointer (some ⟨b,off,none⟩))=>match Bu w kn h with
   |some (b',l)=>match ldv P T l off with
    |some v=>match B5 P n e w kn hs rs with
     |some (vs,q)=>some (v::vs,(b',b)::q)
     |none=>none
    |none=>none
   |none=>none
  |_=>none
 | [],.cell _ _::_=>none
def iu(P:Program)(n:Nat)(f:FuncId)(hs:List Nat):Option JS→Option (Value×List (Nat×Nat))
 |some ⟨.fin _,e,w,kn⟩=>match B5 P n e w kn.c hs (qA P f).results.toList with
  |some (vs,q)=>some (uO vs,q)
  |none=>none
 |_=>none
def qU:Option (Value×List (Nat×Nat))→Option Value
 |some (v,_)=>some v
 |none=>none
def Pm:Option (Value×List (Nat×Nat))→List Nat
 |some (_,q)=>Wa q
 |none=>[0]
def Pj:Option (Value×List (Nat×Nat))→List Nat
 |some (_,q)=>Uc q
 |none=>[1]
theorem tO{w:List Sg}{kn:Cells}(bX:Knows X.ro kn):∀ {hs:List Nat} {rs:List ResultVar} {vs:List Value} {q:List (Nat×Nat)},B5 X.P X.n e w kn hs rs=some (vs,q)→(∀p∈q,p.1=p.2)→E0 X.P ⟨X.ro,den w⟩ X.n e rs vs
 |_,[],vs,q,h,_=>by simp only[B5,Option.some.injEq,Prod.mk.injEq] at h;obtain⟨rfl,rfl⟩:=h;exact .nil
 |hs,.tmp t::rs,vs,q,h,hq=>by
  simp only[B5] at h
  split at h<;>try (cases h;done)
  rename_i v hv
  split at h<;>try (cases h;done)
  rename_i oe q' hr
  simp only[Option.some.injEq,Prod.mk.injEq] at h;obtain⟨rfl,rfl⟩:=h
  exact .tmp hv (tO bX hr hq)
 | [],.cell _ _::_,vs,q,h,_=>by simp only[B5] at h;cases h
 |h0::hs,.cell t T::rs,vs,q,h,hq=>by
  simp only[B5] at h
  split at h<;>try (cases h;done)
  rename_i b off hv
  split at h<;>try (cases h;done)
  rename_i b' l hc
  split at h<;>try (cases h;done)
  rename_i v hld
  split at h<;>try (cases h;done)
  rename_i oe q' hr
  simp only[Option.some.injEq,Prod.mk.injEq] at h;obtain⟨rfl,rfl⟩:=h
  have hb:b'=b:=hq _ List.mem_cons_self
  subst hb
  obtain⟨t',fz,hh⟩:=zt (X:=X) bX hc
  have ih:=tO bX hr fun p hp=>hq p (List.mem_cons_of_mem _ hp)
  unfold ldv at hld
  split at hld<;>try (cases hld;done)
  rename_i ti dK
  obtain⟨bC,tf⟩:=av dK
  cases ha:ti.agg with
  |true=>
   rw[ha] at hld tf;simp only[cond_true] at hld
   split at hld<;>try (cases hld;done)
   rename_i vs2 EG
   cases hld
   exact .agg tf hv ⟨_,_,_,hh,EG⟩ ih
  |false=>
   rw[ha] at hld tf;simp only[cond_false] at hld
   exact .cell tf hv ⟨_,_,_,hh,hld⟩ ih
def zm:Option JS→Bool
 |some ⟨.fin .ret,_,_,_⟩=>true
 |some ⟨.fin .normal,_,_,_⟩=>true
 |_=>false
theorem tv{o:Option JS}(h:zm o=true):∃ex e w kn,o=some ⟨.fin ex,e,w,kn⟩∧(ex= .ret∨ex= .normal):=by
 unfold zm at h
 split at h
 ·exact⟨_,_,_,_,rfl,.inl rfl⟩
 ·exact⟨_,_,_,_,rfl,.inr rfl⟩
 cases h
def age:Option JS→Bool
 |some ⟨.ops ..,_,_,_⟩=>true
 |some ⟨.code ..,_,_,_⟩=>true
 |_=>false
structure QR(X:Cx)(R:Ending→St→Prop):Prop where
 q:X.Q=rz X.P (qA X.P X.fn) R
 d:X.D=[]
theorem q0{hm:P.follows .mixedOrders=true}:QR (X0 P hm f ro R) R:=⟨rfl,rfl⟩
theorem QR.a(h:QR X R):QR (X.at ro) R:=⟨h.q,h.d⟩
theorem ba:Knows ro []:=fun _ h=>by cases h
section
variable {X:Cx} {o:Option JS}
theorem aL{py:Nat→Option Obj}(hq:QR X R)(v:Value)(hs ps:List Nat)(Y:Cells)(fB:Sub py X.ro)(hR:R (.returned v) ⟨py,Y⟩)(h1:qU (iu X.P X.n X.fn hs o)=some v:=by kernel_rfl)(h2:Pm (iu X.P X.n X.fn hs o)=Pj (iu X.P X.n X.fn hs o):=by kernel_rfl)(h3:dM ps o=some Y:=by kernel_rfl)(h4:zm o=true:=by kernel_rfl):J X o:=by
 obtain⟨ex,e,w,kn,rfl,hex⟩:=tv h4
 simp only[iu] at h1 h2
 cases hr:B5 X.P X.n e w kn.c hs (qA X.P X.fn).results.toList with
 |none=>rw[hr] at h1;cases h1
 |some x=>
  rcases x with ⟨vs,q⟩
  simp only[hr,qU,Option.some.injEq,Pm,Pj] at h1 h2
  intro bX
  have r5:=tO bX hr (ma h2)
  have hp:=bJ h3
  show X.Q ex (A X.n e X.D) ⟨X.ro,den w⟩
  rw[hq.q,hq.d]
  exact Qf (s0:=⟨py,Y⟩) hex r5 h1 (dJ hp fB) hR
def xc(X:Cx)(K:Act→St→Prop)(ef:ι→Env)(wf:ι→List Sg)(Inv:ι→Prop)(μ:ι→Nat)(m:Nat):Prop:=
 ∀j,Inv j→μ j <m→∀(e:Env) (s:St),kO e (ef j)→(⟨X.ro,den (wf j)⟩:St).le s→K (A X.n e X.D) s
def yd:List Nat→List (Act→St→Prop)→Code→List KI→Option (Code×List KI)
 | [],_,c,k=>some (c,k)
 |0::p,Ks,.seq a b,k=>yd p Ks a (.seq b::k)
 |1::p,Ks,.seq _ b,k=>yd p Ks b k
 |2::p,K::Ks,.seq a _,k=>yd p Ks a (.next K::k)
 |_::p,Ks,.block id c,k=>yd p Ks c (.block id::k)
 |_::p,Ks,.scope c,k=>yd p Ks c k
 |0::p,Ks,.cond _ a _,k=>yd p Ks a k
 |_::p,Ks,.cond _ _ b,k=>yd p Ks b k
 |_::p,K::Ks,.loop c,k=>yd p Ks c (.next K::k)
 |_::p,Ks,.rangeFunc _ _ _ b,_=>yd p Ks b []
 |_,_,_,_=>none
def Kl(P:Program)(f:FuncId)(p:List Nat)(Ks:List (Act→St→Prop)):Option (Code×List KI):=match (qA P f).body with
 |some c=>yd p Ks c []
 |none=>none
def stC(e:Env)(w:List Sg):Option (Code×List KI)→Option JS
 |some (c,k)=>some ⟨.code c k,e,w,⟨[],[]⟩⟩
 |none=>none
def stW(P:Program)(f:FuncId)(p:List Nat)(Ks:List (Act→St→Prop))(e:Env)(w:List Sg):Option JS:=stC e w (Kl P f p Ks)
def yu:Option JS→Option (Code×List KI)
 |some ⟨.code c k,_,_,_⟩=>some (c,k)
 |_=>none
def lpB(K:Act→St→Prop):Option (Code×List KI)→Option (Code×List KI)
 |some (.loop c,k)=>some (c,.next K::k)
 |_=>none
theorem dP(p:List Nat)(Ks:List (Act→St→Prop))(ef:ι→Env)(wf:ι→List Sg)(Inv:ι→Prop)(μ:ι→Nat)(i0:ι)(h0:Inv i0)(ps:List Nat)(hb:∀i,Inv i→∀K,xc X K ef wf Inv μ (μ i)→∀rest,J X (stW X.P X.fn p (Ks++[K]) (ef i++rest) (wf i)))
 (h1:q9 (ng (ef i0)) o=some (ef i0):=by kernel_rfl)(hd:∀i,lkE (ng (ef i)) (ef i)=some (ef i):=by intro _;kernel_rfl)(h2:qZ ps o=some (wf i0):=by kernel_rfl)(hp:∀K,Kl X.P X.fn p (Ks++[K])=lpB K (yu o):=by intro _;kernel_rfl):J X o:=by
 have hT:∀i,xc X (fun _ _=>True) ef wf Inv μ (μ i):=fun _ _ _ _ _ _ _ _=>trivial
 have bad:∀(K:Act→St→Prop),lpB K (yu o)=none→(∀i,xc X K ef wf Inv μ (μ i))→J X o:=fun K h hK=>by
  have:=hb i0 h0 K (hK i0) []
  simp only[stW,hp,h,stC] at this
  exact this.elim
 cases o with
 |none=>exact bad _ rfl hT
 |some s=>
  rcases s with ⟨q,e,w,kn⟩
  cases q with
  |code c k=>
   cases c with
   |loop c=>
    intro bX
    refine adl X.hC ef (fun i=>⟨X.ro,den (wf i)⟩) Inv μ i0 h0 (kH (by rw[s9] at h1;exact h1)) (kH (hd i0)) (dJ (lK h2) (Sub.refl _)) fun i hi rest=>?_
    have:=hb i hi _ (fun j hj hm e s hc hle=>anw j hj hm hc (kH (hd j)) hle) rest
    simp only[stW,hp,yu,lpB,stC] at this
    exact this fun _ h=>(List.not_mem_nil h).elim
   |_=>exact bad _ rfl hT
  |_=>exact bad _ rfl hT
def aa3:Option JS→Option (Act→St→Prop)
 |some ⟨.nxt K,_,_,_⟩=>some K
 |_=>none
theorem bI{K:Act→St→Prop}{ef:ι→Env}{wf:ι→List Sg}{Inv:ι→Prop}{μ:ι→Nat}{m:Nat}(hK:xc X1 K ef wf Inv μ m)(j:ι)(h:Inv j)(hm:μ j <m)(ps:List Nat)(hs:Sub X1.ro X.ro)
 (h0:aa3 o=some K:=by kernel_rfl)(h1:q9 (ng (ef j)) o=some (ef j):=by kernel_rfl)(h2:qZ ps o=some (wf j):=by kernel_rfl)(hn:X1.n=X.n:=by rfl)(hD:X1.D=X.D:=by rfl):J X o:=by
 unfold aa3 at h0
 split at h0<;>try (cases h0;done)
 rename_i K' e w kn
 cases h0
 intro _
 rw[s9] at h1
 have:=hK j h hm e ⟨X.ro,den w⟩ (kH h1) (dJ (lK h2) hs)
 rw[hn,hD] at this
 exact this
def gS:List (List Nat)→List Sg→Option (List Cells)
 | [],_=>some []
 |p::r,w=>match Qq p w with
  |some x=>match gS r w with
   |some y=>some (den x::y)
   |none=>none
  |none=>none
def gO(ps:List (List Nat)):Option JS→Option (List Cells)
 |some s=>bif GM ps.flatten then gS ps s.rw else none
 |none=>none
def aat:List Sg→List Cells
 | []=>[]
 |x::w=>den [x]::aat w
theorem Gm:∀(w:List Sg),(aat w).flatten=den w
 | []=>rfl
 | .b i o::w=>by simp[aat,iG,Gm w];rfl
 | .l L::w=>by simp[aat,gk,Gm w];rfl
theorem XP:∀ {a b:List Nat} {w x y:List Sg},Qq a w=some x→Qq b w=some y→Qq (a++b) w=some (x++y)
 | [],b,w,x,y,h,h2=>by simp only[Qq,Option.some.injEq] at h;subst h;exact h2
 |i::a,b,w,x,y,h,h2=>by
  simp only[Qq] at h
  split at h<;>try (cases h;done)
  rename_i z hz
  split at h<;>try (cases h;done)
  rename_i r hr
  cases h
  simp only[List.cons_append,Qq,hz,XP hr h2]
theorem ar6:∀ {ps:List (List Nat)} {w:List Sg} {l:List Cells},gS ps w=some l→∃z,Qq ps.flatten w=some z∧den z=l.flatten
 | [],w,l,h=>by simp only[gS,Option.some.injEq] at h;subst h;exact⟨[],rfl,rfl⟩
 |p::r,w,l,h=>by
  simp only[gS] at h
  split at h<;>try (cases h;done)
  rename_i x hx
  split at h<;>try (cases h;done)
  rename_i y hy
  cases h
  obtain⟨z,h1,h2⟩:=ar6 hy
  exact⟨x++z,by simpa using XP hx h1,by simp[lF,h2]⟩
theorem LU{K:Act→St→Prop}{ef:ι→Env}{wf:ι→List Sg}{Inv:ι→Prop}{μ:ι→Nat}{m:Nat}(hK:xc X1 K ef wf Inv μ m)(j:ι)(h:Inv j)(hm:μ j <m)(ps:List (List Nat))(hs:Sub X1.ro X.ro)
 (h0:aa3 o=some K:=by kernel_rfl)(h1:q9 (ng (ef j)) o=some (ef j):=by kernel_rfl)(h2:gO ps o=some (aat (wf j)):=by kernel_rfl)(hn:X1.n=X.n:=by rfl)(hD:X1.D=X.D:=by rfl):J X o:=by
 unfold aa3 at h0
 split at h0<;>try (cases h0;done)
 rename_i K' e w kn
 cases h0
 intro _
 rw[s9] at h1
 have hp:(den w).Perm (den (wf j)++den (dD ps.flatten 0 w)):=by
  simp only[gO] at h2
  cases ho:GM ps.flatten with
  |false=>rw[ho] at h2;cases h2
  |true=>
   rw[ho] at h2
   obtain⟨z,h3,h4⟩:=ar6 h2
   rw[Gm] at h4
   rw[←h4]
   exact xu h3 ho
 have:=hK j h hm e ⟨X.ro,den w⟩ (kH h1) (dJ hp hs)
 rw[hn,hD] at this
 exact this
def aJb:Option (Code×List KI)→Option (Code×List KI)
 |some (_,.seq y::k)=>some (y,k)
 |_=>none
def ayY(K:Act→St→Prop):Option JS→Option JS
 |some ⟨.code x (.seq _::k),e,w,kn⟩=>some ⟨.code x (.next K::k),e,w,kn⟩
 |_=>none
theorem Jc(p:List Nat)(Ks:List (Act→St→Prop))(ef:ι→Env)(wf:ι→List Sg)(Inv:ι→Prop)(hj:∀i,Inv i→∀rest,J X (stW X.P X.fn p Ks (ef i++rest) (wf i)))(h:∀K,xc X K ef wf Inv (fun _=>0) 1→J X (ayY K o))(hd:∀i,lkE (ng (ef i)) (ef i)=some (ef i):=by intro _;kernel_rfl)(hp:Kl X.P X.fn p Ks=aJb (yu o):=by kernel_rfl):J X o:=by
 unfold ayY at h
 split at h
 ·rename_i x y k e w kn
  intro bX
  refine h (fun a s=>Wp X.C X.fn X.az y (KQ X k) a s) (fun j hI _ e s hc hle=>?_) bX
  obtain⟨r,hr⟩:=fT (n:=X.n) (D:=X.D) hc (kH (hd j))
  rw[hr]
  have:=hj j hI r
  simp only[stW,hp,yu,aJb,stC] at this
  exact(this fun _ h=>(List.not_mem_nil h).elim).more X.hC hle
 exact(h (fun _ _=>True) fun _ _ _ _ _ _ _=>trivial).elim
def expand:Cells→List Sg
 | []=>[]
 |x::l=> .b x.1 x.2::expand l
def Wl:Nat→List Sg→List Sg
 |_,[]=>[]
 |0,.l L::w=>expand L++w
 |0,x::w=>x::w
 |i+1,x::w=>x::Wl i w
theorem W8{w w':List Sg}{p:Pos}(h:den w'=den w)(hj:JP X kn e w' p):JP X kn e w p:=by
 cases p<;>simp only[JP,h] at hj ⊢ <;>exact hj
def aIn(i:Nat):Option JS→Option JS
 |some s=>some {s with rw:=Wl i s.rw}
 |none=>none
def ZF:List Sg→Cells
 | []=>[]
 | .b i o::w=>(i,o)::ZF w
 | .l _::w=>ZF w
theorem xL:∀ {w:List Sg} {x:Nat×Obj},x∈ZF w→x∈den w
 | .b i o::w,x,h=>by
  rw[iG]
  rcases List.mem_cons.1 h with rfl|h
  ·exact List.mem_cons_self
  exact List.mem_cons_of_mem _ (xL h)
 | .l L::w,x,h=>by rw[gk];exact List.mem_append_right _ (xL (w:=w) h)
def aph(ps:List Nat):Option JS→Option JS
 |some s=>match Qq ps s.rw with
  |some w=>some {s with rw:=dD ps 0 s.rw,kn:=⟨ZF w++s.kn.c,s.kn.nd⟩}
  |none=>none
 |none=>none
theorem I1:∀(k:List KI),KQ (X.at aG) k=KQ X k
 | []=>rfl
 | .seq _::k=>by simp only[KQ,I1 k];rfl
 | .block _::k=>by simp only[KQ,I1 k]
 | .next _::k=>by simp only[KQ,I1 k]
theorem jf(ps:List Nat)(L:Cells)(h:∀aG,Sub X.ro aG→Knows aG L→J (X.at aG) (aph ps o))(h2:dM ps o=some L:=by kernel_rfl)(hp:age o=true:=by kernel_rfl):J X o:=by
 have hpk:∀ {s:JS},dM ps (some s)=some L→∃w,Qq ps s.rw=some w∧den w=L:=by
  intro s hs
  simp only[dM,qZ] at hs
  cases hk:GM ps with
  |false=>rw[hk] at hs;cases hs
  |true=>
   rw[hk] at hs;simp only[cond_true] at hs
   split at hs<;>try (cases hs;done)
   rename_i w hw
   cases hs
   exact⟨w,hw,rfl⟩
 unfold age at hp
 split at hp
 ·rename_i ops todo k e w kn
  intro bX
  obtain⟨w1,hw1,rfl⟩:=hpk h2
  refine UE X.hC (bJ h2) fun aG hs hk=>?_
  have:=h aG hs hk
  simp only[aph,hw1] at this
  have:=this (fun x hx=>(List.mem_append.1 hx).elim (fun hx=>hk x (xL hx)) fun hx=>hs _ _ (bX x hx))
  simp only[JP,I1] at this
  exact this
 ·rename_i c k e w kn
  intro bX
  obtain⟨w1,hw1,rfl⟩:=hpk h2
  refine Z5 X.hC (bJ h2) fun aG hs hk=>?_
  have:=h aG hs hk
  simp only[aph,hw1] at this
  have:=this (fun x hx=>(List.mem_append.1 hx).elim (fun hx=>hk x (xL hx)) fun hx=>hs _ _ (bX x hx))
  simp only[JP,I1] at this
  exact this
 cases hp
def geO:Option JS→Option JS
 |some s=>some {s with rw:= .l []::s.rw}
 |none=>none
theorem nY(h:J X (geO o)):J X o:=by
 cases o with
 |none=>exact h
 |some s=>exact fun bX=>W8 (by simp[gk]) (h bX)
def sgS:Nat→List Sg→List Sg→List Sg
 |_,_,[]=>[]
 |0,l,_::w=>l++w
 |i+1,l,x::w=>x::sgS i l w
theorem Xu{l:List Sg}:∀ {i:Nat} {w:List Sg} {x:Sg},yV w i=some x→den [x]=den l→den (sgS i l w)=den w
 |_,[],_,h,_=>by cases h
 |0,y::w,x,h,hd=>by
  simp only[yV,Option.some.injEq] at h;subst h
  have:den (y::w)=den [y]++den w:=by rw[←lF];rfl
  rw[this,hd,←lF];rfl
 |i+1,y::w,x,h,hd=>by
  have:=Xu (w:=w) (i:=i) h hd
  cases y<;>simp[sgS,iG,gk,this]
def sgO(i:Nat)(l:List Sg):Option JS→Option JS
 |some s=>some {s with rw:=sgS i l s.rw}
 |none=>none
theorem jg(i:Nat)(l:List Sg)(h:J X (sgO i l o))(h2:dM [i] o=some (den l):=by kernel_rfl):J X o:=by
 cases o with
 |none=>exact h
 |some s=>
  have hn:∃x,yV s.rw i=some x∧den [x]=den l:=by
   simp only[dM,qZ,GM,bh,Qq,Bool.not_false,Bool.true_and,cond_true] at h2
   cases hx:yV s.rw i with
   |none=>rw[hx] at h2;cases h2
   |some x=>rw[hx] at h2;simp only[Option.some.injEq] at h2;exact⟨x,rfl,h2⟩
  obtain⟨x,hx,hd⟩:=hn
  exact fun bX=>W8 (Xu hx hd) (h bX)
theorem jmw(i:Nat)(l:List Sg){L:Cells}(h:L=den l)(hj:J X (sgO i l o))(h2:dM [i] o=some L:=by kernel_rfl):J X o:=by
 subst h;exact jg i l hj h2
end
def Cx.wd(X:Cx)(D:List Deferred):Cx:={X with D:=D}
theorem Td{D:List Deferred}:∀(k:List KI),KQ (X.wd D) k=KQ X k
 | []=>rfl
 | .seq _::k=>by simp only[KQ,Td k];rfl
 | .block _::k=>by simp only[KQ,Td k]
 | .next _::k=>by simp only[KQ,Td k]
def FC(X:Cx)(K:Act→St→Prop)(ef:ι→Env)(wf:ι→List Sg)(df:ι→List Deferred)(Inv:ι→Prop)(μ:ι→Nat)(m:Nat):Prop:=
 ∀j,Inv j→μ j <m→∀(e:Env) (s:St),kO e (ef j)→(⟨X.ro,den (wf j)⟩:St).le s→K (A X.n e (df j)) s
section
variable {X:Cx} {o:Option JS}
theorem adm{C:Class}{fn:FuncId}{az:Option Nat}{Q:Post}{env:Env}(hC:∀main T,C main T→Closed X.P main T)(pJ:ι→Env)(sf:ι→St)(df:ι→List Deferred)(Inv:ι→Prop)(μ:ι→Nat){c:Code}(i0:ι)(h0:Inv i0)(hc:kO env (pJ i0))(hd:∀i,kO (pJ i) (pJ i))(hs:(sf i0).le s)
 (round:∀i,Inv i→∀rest,Wp C fn az c (lR (fun a s=>∃j,Inv j∧μ j <μ i∧(∃e,kO e (pJ j)∧a=A n e (df j))∧(sf j).le s) Q) (A n (pJ i++rest) (df i)) (sf i)):Wp C fn az (.loop c) Q (A n env (df i0)) s:=by
 obtain⟨r0,vq⟩:=fT (n:=n) (D:=df i0) hc (hd i0)
 rw[vq]
 intro main T hT b k cs h1 h2 h3 h4
 have key:∀m i rest s,μ i=m→Inv i→(sf i).le s→T (G (aK b (A n (pJ i++rest) (df i)) (.code c:: .inLoop c::k)) cs) s:=by
  intro m
  induction m using Nat.strongRecOn with
  |_ m ih=>
   intro i rest s hm hI hle
   refine(hC main T hT).mono _ _ _ hle ?_
   refine round i hI rest main T hT b (.inLoop c::k) cs h1 h2 h3 fun e a' s' q=>?_
   cases e with
   |normal=>
    obtain⟨j,zk,cO,⟨e,he,rfl⟩,x3⟩:=q
    obtain⟨aet,hr⟩:=fT (n:=n) (D:=df j) he (hd j)
    rw[hr]
    exact(hC main T hT).go rfl rfl (g':=G (aK b _ (.code c:: .inLoop c::k)) cs) (fun w=>by simp[G,stepG,stepG.exec,aK]) (ih _ (hm▸cO) j aet s' rfl zk x3)
   |exit id=>exact(h4 _ _ _ q).push rfl (by simp)
   |ret=>exact(h4 _ _ _ q).push (x:= .inLoop c) rfl (by simp)
   |panic ch=>exact(h4 _ _ _ q).push (x:= .inLoop c) rfl (by simp)
   |goto l=>exact(h4 _ _ _ q).elim
   |outgrown=>exact(h4 _ _ _ q).elim
 exact(hC main T hT).go rfl rfl (g':=G (aK b (A n (pJ i0++r0) (df i0)) (.code c:: .inLoop c::k)) cs) (fun w=>by simp[G,stepG,stepG.exec,aK]) (key _ i0 r0 s rfl h0 hs)
theorem aEZ(p:List Nat)(Ks:List (Act→St→Prop))(ef:ι→Env)(wf:ι→List Sg)(df:ι→List Deferred)(Inv:ι→Prop)(μ:ι→Nat)(i0:ι)(h0:Inv i0)(ps:List Nat)(hb:∀i,Inv i→∀K,FC X K ef wf df Inv μ (μ i)→∀rest,J (X.wd (df i)) (stW X.P X.fn p (Ks++[K]) (ef i++rest) (wf i)))
 (h1:q9 (ng (ef i0)) o=some (ef i0):=by kernel_rfl)(hd:∀i,lkE (ng (ef i)) (ef i)=some (ef i):=by intro _;kernel_rfl)(h2:qZ ps o=some (wf i0):=by kernel_rfl)(hp:∀K,Kl X.P X.fn p (Ks++[K])=lpB K (yu o):=by intro _;kernel_rfl)(hD:X.D=df i0:=by rfl):J X o:=by
 have hT:∀i,FC X (fun _ _=>True) ef wf df Inv μ (μ i):=fun _ _ _ _ _ _ _ _=>trivial
 have bad:∀(K:Act→St→Prop),lpB K (yu o)=none→(∀i,FC X K ef wf df Inv μ (μ i))→J X o:=fun K h hK=>by
  have:=hb i0 h0 K (hK i0) []
  simp only[stW,hp,h,stC] at this
  exact this.elim
 cases o with
 |none=>exact bad _ rfl hT
 |some s=>
  rcases s with ⟨q,e,w,kn⟩
  cases q with
  |code c k=>
   cases c with
   |loop c=>
    intro bX
    show Wp X.C X.fn X.az (.loop c) (KQ X k) (A X.n e X.D) ⟨X.ro,den w⟩
    rw[hD]
    refine adm (X:=X) X.hC ef (fun i=>(⟨X.ro,den (wf i)⟩:St)) df Inv μ i0 h0 (kH (by rw[s9] at h1;exact h1)) (fun i=>kH (hd i)) (dJ (lK h2) (Sub.refl _)) fun i hi rest=>?_
    have:=hb i hi (fun a s=>∃j,Inv j∧μ j <μ i∧(∃e,kO e (ef j)∧a=A X.n e (df j))∧(⟨X.ro,den (wf j)⟩:St).le s) (fun j hj hm e s hc hle=>⟨j,hj,hm,⟨e,hc,rfl⟩,hle⟩) rest
    simp only[stW,hp,yu,lpB,stC] at this
    have:=this fun _ h=>(List.not_mem_nil h).elim
    simp only[JP,KQ,Td] at this
    exact this
   |_=>exact bad _ rfl hT
  |_=>exact bad _ rfl hT
theorem jnD{K:Act→St→Prop}{ef:ι→Env}{wf:ι→List Sg}{df:ι→List Deferred}{Inv:ι→Prop}{μ:ι→Nat}{m:Nat}(hK:FC X1 K ef wf df Inv μ m)(j:ι)(h:Inv j)(hm:μ j <m)(ps:List (List Nat))(hs:Sub X1.ro X.ro)
 (h0:aa3 o=some K:=by kernel_rfl)(h1:q9 (ng (ef j)) o=some (ef j):=by kernel_rfl)(h2:gO ps o=some (aat (wf j)):=by kernel_rfl)(hn:X1.n=X.n:=by rfl)(hD:X.D=df j:=by rfl):J X o:=by
 have hK':xc (X1.wd (df j)) K ef wf (fun i=>i=j) μ m:=fun i hi hm e s hc hle=>by subst hi;exact hK _ h hm e s hc hle
 exact LU hK' j rfl hm ps hs h0 h1 h2 hn hD.symm
end
attribute [irreducible] gO geO qA jC ayY stW yu Kl aIn aph sgO zm age iu Pm Pj qU aa3
end Go.L

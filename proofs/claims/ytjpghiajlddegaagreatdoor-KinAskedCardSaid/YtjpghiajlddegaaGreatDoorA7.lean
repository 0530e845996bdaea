/- Part 7 of the proof: a program logic, contracts, a theorem on goroutines. -/
import Derived.Test.YtjpghiajlddegaaGreatDoorA6
import GoSem.Extern.Table
set_option maxRecDepth 100000
set_option linter.all false
namespace Go.L
open Go Go.Conc
variable {x y:Operand} {T T' E U:TypeId} {α:Type} {b:ByteArray} {sz k n p cap off:Nat} {l vs:List Value} {f:FuncId} {e:Env} {fz:Nat×Nat} {o:Oper} {s:St} {xs:Array Operand} {at_:Array TypeId} {P:Program} {Y X R ZH fr:Cells} {todo:List Nat} {lo hi:Int}
def aV(k:IntKind)(a b:Int):Int:=a.fdiv (2^(min b.toNat k.bits))
def dD(k:IntKind)(a b:Int):Int:=k.wrap (a*2^(min b.toNat k.bits))
def SB(k:IntKind)(a b:Int):Int:=k.wrap (BitVec.ofInt k.bits a&&& BitVec.ofInt k.bits b).toNat
def Jp(k:IntKind)(a b:Int):Int:=k.wrap (BitVec.ofInt k.bits a|||BitVec.ofInt k.bits b).toNat
def cW(k:IntKind)(a b:Int):Int:=k.wrap (BitVec.ofInt k.bits a^^^BitVec.ofInt k.bits b).toNat
theorem Np(k:IntKind)(h:k.signed=false)(n:Int):0≤k.wrap n∧k.wrap n <2^k.bits:=by
 have hp:(0:Int) <2^k.bits:=Int.pow_pos (by decide)
 simp only[IntKind.wrap,h,Bool.false_and,Bool.false_eq_true,if_false]
 exact⟨Int.emod_nonneg _ (by omega),Int.emod_lt_of_pos _ hp⟩
theorem rN(k:IntKind)(h:k.signed=false)(n:Int)(h0:0≤n)(h1:n <2^k.bits):k.wrap n=n:=by
 simp only[IntKind.wrap,h,Bool.false_and,Bool.false_eq_true,if_false]
 exact Int.emod_eq_of_lt h0 h1
theorem tF(a b:Int):0≤cW .u64 a b∧cW .u64 a b <18446744073709551616:=Np .u64 rfl _
theorem aM3{p0 p1 p2 p3 x:Int}(h: [p0,p1,p2,p3][k]?=some x):nth [.int .i64 p0,.int .i64 p1,.int .i64 p2,.int .i64 p3] k=some (.int .i64 x):=by
 rcases k with _|_|_|_|k
 all_goals first| (simp at h;subst h;rfl)|simp at h
theorem eI.aw0{own:Cells}{Φ:Value→Cells→Prop}(hp:s.rw.Perm (own++fr))(hf:eI P f vs s.ro own Φ):
 Fn (CP P) P f ⟨vs⟩ s (fun en s'=>∃v X,en= .returned v∧Φ v X∧(⟨s.ro,X++fr⟩:St).le s'):=by
 refine Fn.mono (Fn.frame (fr:=fr) (B:=[]) (ro:=s.ro) (s:=s) hf (fun _ h=>(by cases h)) ⟨hp,fun b o hb=> .inl hb,Sub.refl _⟩) fun en s' CG=>?_
 obtain⟨xS,⟨v,X,rfl,rfl,pU⟩,hc⟩:=CG
 exact⟨v,X,rfl,pU,[],by simpa using hc.rw,fun b o hb=> .inl (hc.keep b o hb)⟩
def Knows(ro:Nat→Option Obj)(X:Cells):Prop:=∀x∈X,ro x.1=some x.2
theorem Knows.up{ro aK:Nat→Option Obj}(h:Knows ro X)(hs:Sub ro aK):Knows aK X:=fun x hx=>hs _ _ (h x hx)
theorem Knows.left{ro:Nat→Option Obj}(h:Knows ro (X++Y)):Knows ro X:=fun x hx=>h x (List.mem_append_left _ hx)
theorem Knows.right{ro:Nat→Option Obj}(h:Knows ro (X++Y)):Knows ro Y:=fun x hx=>h x (List.mem_append_right _ hx)
theorem Knows.tail{ro:Nat→Option Obj}{x:Nat×Obj}(h:Knows ro (x::Y)):Knows ro Y:=fun y hy=>h y (List.mem_cons_of_mem _ hy)
theorem Knows.head{ro:Nat→Option Obj}{x:Nat×Obj}(h:Knows ro (x::Y)):ro x.1=some x.2:=h x List.mem_cons_self
theorem wz{b:Nat}{enc:α→List Value}{ps:List α}(h:s.has b (.cells ⟨(ps.map enc).flatten⟩ T fz))(hl:∀p∈ps,(enc p).length=sz){x:α}(hx:ps[k]?=some x):cA s b (0+k*sz) sz (enc x):=by
 have h2:=BT ps hl k x hx
 have hm:x∈ps:=List.mem_of_getElem? hx
 have h3:=hl x hm
 refine⟨_,T,fz,h,?_⟩
 rw[Nat.zero_add,iK,h2]
 rw[j5 ps hl]
 have:=(List.getElem?_eq_some_iff.1 hx).1
 calc k*sz+sz=(k+1)*sz:=by rw[Nat.succ_mul]
  _≤ps.length*sz:=Nat.mul_le_mul_right _ (by omega)
theorem cb{ro:Nat→Option Obj}{b:Nat}{enc:α→List Value}(ps:List α)(h:ro b=some (.cells ⟨(ps.map enc).flatten⟩ T fz))(hl:∀p∈ps,(enc p).length=sz):bL ro (.slice (some ⟨b,0,none⟩) ps.length ps.length) sz enc ps:=
 ⟨_,b,0,_,rfl,Nat.le_refl _,fun _ _=>rfl,fun _ _ hx=>wz (.inl h) hl hx⟩
section rules
variable {P:Program} {C:Class} {fn:FuncId} {aC:Option Nat} {Q:Post} {s:St} {n:Nat} {env:Env} {D:List Deferred}
variable {ops:Array Oper} {i:Nat} {rest:List Nat} {dst:Option Tmp} {ty:TypeId} {pos:String} {dc:Array Edge} {g:Option (Nat×Bool)}
variable {T:TypeId} {d:TypeDesc} {sz bE:Nat} {z:List Value} {ag:Bool}
theorem ayR(hC:∀main T,C main T→Closed P main T){k k':IntKind}{a b:Int}(ho:ops[i]?=some ⟨dst,.binOp .shr T x y T',ty,pos,dc,g⟩) (hw:az ops n env g=true)
 (hx:bu n env x=some (.int k a)) (hy:bu n env y=some (.int k' b)) (hb:0≤b) (h:ab C fn aC ops rest Q (A n (upd dst (.int k (aV k a b)) env) D) s):ab C fn aC ops (i::rest) Q (A n env D) s:=by
 refine si hC ho hw (by simp) ?_ h
 simp only[execOp,aG hx,aG hy]
 have he:eqGuard .shr T x y (.int k a) (.int k' b)=Sem.pure ():=rfl
 have hv:binOp .shr T (.int k a) (.int k' b)=Sem.pure (.int k (aV k a b)):=by
  show Op.shift .shr k a k' b=_
  simp only[Op.shift,show ¬b <0 by omega,if_false];rfl
 rw[he]
 show Sem.bind (Sem.bind (Sem.pure ()) fun _=>binOp .shr T (.int k a) (.int k' b)) _=_
 simp only[Sem.bind,hv]
 rfl
theorem ayS(hC:∀main T,C main T→Closed P main T){k k':IntKind}{a b:Int}(ho:ops[i]?=some ⟨dst,.binOp .shl T x y T',ty,pos,dc,g⟩) (hw:az ops n env g=true)
 (hx:bu n env x=some (.int k a)) (hy:bu n env y=some (.int k' b)) (hb:0≤b) (h:ab C fn aC ops rest Q (A n (upd dst (.int k (dD k a b)) env) D) s):ab C fn aC ops (i::rest) Q (A n env D) s:=by
 refine si hC ho hw (by simp) ?_ h
 simp only[execOp,aG hx,aG hy]
 have he:eqGuard .shl T x y (.int k a) (.int k' b)=Sem.pure ():=rfl
 have hv:binOp .shl T (.int k a) (.int k' b)=Sem.pure (.int k (dD k a b)):=by
  show Op.shift .shl k a k' b=_
  simp only[Op.shift,show ¬b <0 by omega,if_false];rfl
 rw[he]
 show Sem.bind (Sem.bind (Sem.pure ()) fun _=>binOp .shl T (.int k a) (.int k' b)) _=_
 simp only[Sem.bind,hv]
 rfl
end rules
theorem cg{b:Nat}{enc:α→List Value}(ps:List α)(h:s.has b (.cells ⟨(ps.map enc).flatten⟩ T fz))(hl:∀p∈ps,(enc p).length=sz):Sl s (.slice (some ⟨b,0,none⟩) ps.length cap) sz enc ps:=
 ⟨_,b,0,cap,rfl,fun _ _=>rfl,fun _ _ hx=>wz h hl hx⟩
theorem bC{b:Nat}{enc:α→List Value}:aD (.slice (some ⟨b,0,none⟩) 0 0) sz T enc ([]:List α) [(b,.cells ⟨[]⟩ T (0,0))]:=
 .inr ⟨b,[],0,rfl,rfl,by simp,by simp,by simp,by simp⟩
theorem aD.form{v:Value}{enc:α→List Value}{ps:List α}{L:Cells}(h:aD v sz T enc ps L):∃a c,v= .slice a ps.length c:=by
 rcases h with ⟨h1,h2,_⟩| ⟨b,l,cap,h1,_⟩
 ·subst h2;exact⟨none,0,h1⟩
 ·exact⟨_,cap,h1⟩
def MQ(v:Value)(b:Nat):Prop:=∃n c,v= .slice (some ⟨b,0,none⟩) n c
theorem cG{v:Value}{enc:α→List Value}{ps:List α}{L:Cells}(h:aD v sz T enc ps L){b:Nat}(hb:MQ v b)(hs:∀x∈L,s.has x.1 x.2){x:α}(hx:ps[k]?=some x):cA s b (k*sz) sz (enc x):=by
 obtain⟨a,b',o,c,h1,h2,h3⟩:=h.sl hs
 have hk:=(List.getElem?_eq_some_iff.1 hx).1
 have h4:=h2 k hk
 obtain⟨n,c',h5⟩:=hb
 rw[h1] at h5
 cases h5
 cases h4
 have:=h3 k x hx
 rwa[Nat.zero_add] at this
theorem ayM{v:Value}{enc:α→List Value}{ps:List α}{L:Cells}(h:aD v sz T enc ps L)(hk:k <ps.length):∃b,MQ v b:=by
 rcases h with ⟨_,h2,_⟩| ⟨b,l,cap,h1,_⟩
 ·subst h2;simp at hk
 ·exact⟨b,_,_,h1⟩
theorem PW{enc:α→List Value}:∀(ps:List α),(∀p∈ps,(enc p).length=sz)→∀(k:Nat) (x:α),(enc x).length=sz→k <ps.length→∀l:List Value,l.take (ps.length*sz)=(ps.map enc).flatten→(dB l (k*sz) (enc x)).take (ps.length*sz)=((ps.set k x).map enc).flatten:=by
 intro ps SQ k x hx hk l hl
 have hle:ps.length*sz≤l.length:=by
  have h1:=j5 ps SQ
  rw[←hl,List.length_take] at h1
  omega
 have hks:k*sz+sz≤ps.length*sz:=by
  have:(k+1)*sz≤ps.length*sz:=Nat.mul_le_mul_right _ (by omega)
  rw[Nat.succ_mul] at this;exact this
 have hA:((ps.take k).map enc).flatten.length=k*sz:=by
  rw[j5 _ (fun p hp=>SQ p (List.mem_of_mem_take hp)),List.length_take,Nat.min_eq_left (by omega)]
 have hC:((ps.drop (k+1)).map enc).flatten.length=(ps.length-(k+1))*sz:=by
  rw[j5 _ (fun p hp=>SQ p (List.mem_of_mem_drop hp)),List.length_drop]
 have hB:=SQ ps[k] (List.getElem_mem hk)
 have ar2:(ps.map enc).flatten=((ps.take k).map enc).flatten++(enc ps[k]++((ps.drop (k+1)).map enc).flatten):=by
  have h3:ps=ps.take k++ps[k]::ps.drop (k+1):=by rw[←List.drop_eq_getElem_cons hk,List.take_append_drop]
  have h4:=congrArg (fun q:List α=>(q.map enc).flatten) h3
  simp only[List.map_append,List.map_cons,List.flatten_append,List.flatten_cons] at h4
  exact h4
 have qp:l=((ps.take k).map enc).flatten++(enc ps[k]++(((ps.drop (k+1)).map enc).flatten++l.drop (ps.length*sz))):=by
  have h3:=(List.take_append_drop (ps.length*sz) l).symm
  rw[hl,ar2] at h3
  simp only[List.append_assoc] at h3
  exact h3
 have oI:((ps.set k x).map enc).flatten=((ps.take k).map enc).flatten++(enc x++((ps.drop (k+1)).map enc).flatten):=by
  rw[List.set_eq_take_append_cons_drop,if_pos hk]
  simp only[List.map_append,List.map_cons,List.flatten_append,List.flatten_cons]
 have aOR:dB l (k*sz) (enc x)=((ps.take k).map enc).flatten++(enc x++(((ps.drop (k+1)).map enc).flatten++l.drop (ps.length*sz))):=by
  rw[qD _ _ _ (by omega),hx,List.append_assoc]
  congr 1
  ·conv=>lhs;rw[qp]
   rw[←hA,List.take_left]
  ·congr 1
   conv=>lhs;rw[qp]
   rw[←List.append_assoc,←List.append_assoc,List.append_assoc _ _ (List.drop _ _)]
   rw[show k*sz+sz=(((ps.take k).map enc).flatten++enc ps[k]).length by rw[List.length_append,hA,hB],List.drop_left]
 rw[aOR,oI,←List.append_assoc,←List.append_assoc]
 have hlen:(((ps.take k).map enc).flatten++enc x++((ps.drop (k+1)).map enc).flatten).length=ps.length*sz:=by
  rw[List.length_append,List.length_append,hA,hx,hC]
  have:ps.length*sz=(k+1+(ps.length-(k+1)))*sz:=by congr 1;omega
  rw[this,Nat.add_mul,Nat.succ_mul]
 rw[←hlen,List.take_left,List.append_assoc]
section rules
variable {P:Program} {C:Class} {fn:FuncId} {aC:Option Nat} {Q:Post} {s:St} {n:Nat} {env:Env} {D:List Deferred}
variable {ops:Array Oper} {i:Nat} {rest:List Nat} {dst:Option Tmp} {ty:TypeId} {pos:String} {dc:Array Edge} {g:Option (Nat×Bool)}
variable {T:TypeId} {d:TypeDesc} {sz bE:Nat} {z:List Value} {ag:Bool}
theorem Sb(hC:∀main T,C main T→Closed P main T){w:Operand}{k k':IntKind}(ho:ops[i]?=some ⟨dst,.slice T x (some y) (some w) none,ty,pos,dc,g⟩) (hw:az ops n env g=true) (tf:TF P T .string sz bE z ag)
 (hx:bu n env x=some (.string b)) (hy:bu n env y=some (.int k lo)) (hz:bu n env w=some (.int k' hi)) (hl:0≤lo∧lo≤hi∧hi≤b.size) (h:ab C fn aC ops rest Q (A n (upd dst (.string (b.extract lo.toNat hi.toNat)) env) D) s):ab C fn aC ops (i::rest) Q (A n env D) s:=by
 refine bR hC ho hw (by simp) ?_
 have h1:0≤hi∧hi≤(b.size:Int):=by omega
 have h2:0≤lo∧lo≤(hi.toNat:Int):=by omega
 simp only[execOp,Option.map_some,Option.map_none,Instr.sliceAt,Instr.slice,aG hx,aG hy,aG hz,aa,bh tf,Instr.sliceBounds,Instr.sliceBound,asIntOf,af,Option.isSome_none,Bool.false_eq_true,if_false,h1,h2,and_self,if_true]
 rw[←a8] at h
 exact h
theorem OA(hC:∀main T,C main T→Closed P main T){w:Operand}{k':IntKind}(ho:ops[i]?=some ⟨dst,.slice T x none (some w) none,ty,pos,dc,g⟩) (hw:az ops n env g=true) (tf:TF P T .string sz bE z ag)
 (hx:bu n env x=some (.string b)) (hz:bu n env w=some (.int k' hi)) (hl:0≤hi∧hi≤b.size) (h:ab C fn aC ops rest Q (A n (upd dst (.string (b.extract 0 hi.toNat)) env) D) s):ab C fn aC ops (i::rest) Q (A n env D) s:=by
 refine bR hC ho hw (by simp) ?_
 simp only[execOp,Option.map_some,Option.map_none,Instr.sliceAt,Instr.slice,aG hx,aG hz,aa,bh tf,Instr.sliceBounds,Instr.sliceBound,asIntOf,af,Option.isSome_none,Bool.false_eq_true,if_false,hl,and_self,if_true]
 rw[←a8] at h
 exact h
theorem Oz(hC:∀main T,C main T→Closed P main T){k:IntKind}(ho:ops[i]?=some ⟨dst,.slice T x (some y) none none,ty,pos,dc,g⟩) (hw:az ops n env g=true) (tf:TF P T .string sz bE z ag)
 (hx:bu n env x=some (.string b)) (hy:bu n env y=some (.int k lo)) (hl:0≤lo∧lo≤b.size) (h:ab C fn aC ops rest Q (A n (upd dst (.string (b.extract lo.toNat b.size)) env) D) s):ab C fn aC ops (i::rest) Q (A n env D) s:=by
 refine bR hC ho hw (by simp) ?_
 simp only[execOp,Option.map_some,Option.map_none,Instr.sliceAt,Instr.slice,aG hx,aG hy,aa,bh tf,Instr.sliceBounds,Instr.sliceBound,asIntOf,af,Option.isSome_none,Bool.false_eq_true,if_false,hl,and_self,if_true]
 rw[←a8] at h
 exact h
theorem bL.part{ro:Nat→Option Obj}{a:Option Addr}{len:Nat}{enc:α→List Value}{ps:List α}(hs:bL ro (.slice a len cap) sz enc ps){l h:Nat}(hl:l≤h)(hh:h≤ps.length):bL ro (.slice (if cap=l then a else a.map (·.add (l*sz))) (h-l) (cap-l)) sz enc ((ps.take h).drop l):=by
 obtain⟨a',b,o,aS7,h1,h2,h3,h4⟩:=hs
 cases h1
 have hlen:((ps.take h).drop l).length=h-l:=by rw[List.length_drop,List.length_take];omega
 refine⟨_,b,o+l*sz,_,by rw[hlen],by omega,fun k hk=>?_,fun i p hp=>?_⟩
 ·have:=h3 0 (by omega)
  subst this
  rw[if_neg (by omega)]
  simp[dP]
 ·rw[List.getElem?_drop] at hp
  have hi:l+i <h:=by
   have:=(List.getElem?_eq_some_iff.1 hp).1
   rw[List.length_take] at this;omega
  rw[List.getElem?_take_of_lt hi] at hp
  have:=h4 _ _ hp
  rwa[show o+(l+i)*sz=o+l*sz+i*sz by rw[Nat.add_mul];omega] at this
theorem acm(hC:∀main T,C main T→Closed P main T){T2:TypeId}{v:Value}{szo:Nat}{enc:α→List Value}{ps:List α}{L:Cells}(ho:ops[i]?=some ⟨dst,.call ⟨.builtin .len,#[x],#[T]⟩,ty,pos,dc,g⟩) (hw:az ops n env g=true)
 (tf:TF P T (.slice E) sz bE z ag) (hx:bu n env x=some v) (ky:aD v szo T2 enc ps L) (h:ab C fn aC ops rest Q (A n (upd dst (.int .i64 ps.length) env) D) s):ab C fn aC ops (i::rest) Q (A n env D) s:=by
 obtain⟨a,c,rfl⟩:=ky.form
 exact ayW hC ho hw tf hx h
end rules
theorem dQ{ro aK:Nat→Option Obj}{K J:Cells}(hp:ZH.Perm (K++J))(h:Sub ro aK):(⟨ro,K⟩:St).le ⟨aK,ZH⟩:=⟨J,hp,fun b o hb=> .inl (h b o hb)⟩
theorem aj(h:l.all single=true):∀v∈l,single v=true:=List.all_eq_true.1 h
section any
variable {P:Program} {C:Class} {fn:FuncId} {aC:Option Nat} {Q:Post} {s:St} {n:Nat} {D:List Deferred} {ops:Array Oper} {base:Env}
def aoI(C:Class)(fn:FuncId)(aC:Option Nat)(ops:Array Oper)(n:Nat)(D:List Deferred)(base:Env)(Pl Sl:List (Nat×Value))(Q:Post)(s:St)(i:Nat):Prop:=
 ∀rest todo,(∀v s',(∀j w,(j,w)∈pending ops i Sl→eS C fn aC ops n D j w (cq ops base j Pl) s→eS C fn aC ops n D j w (cq ops base j Pl) s')→
  sS C fn aC ops n D base ((i,v)::Pl) (pending ops i Sl) Q s'→ab C fn aC ops todo Q (A n (upd (aS ops i) v (cq ops base i Pl++rest)) D) s')→
  ab C fn aC ops (i::todo) Q (A n (cq ops base i Pl++rest) D) s
def wU(C:Class)(fn:FuncId)(aC:Option Nat)(ops:Array Oper)(n:Nat)(D:List Deferred)(base:Env)(Pl Sl:List (Nat×Value))(Q:Post)(s:St):List Nat→Prop
 | []=>True
 |i::is=>aoI C fn aC ops n D base Pl Sl Q s i∧wU C fn aC ops n D base Pl Sl Q s is
theorem wU.mem{Pl Sl:List (Nat×Value)}:∀ {is:List Nat},wU C fn aC ops n D base Pl Sl Q s is→∀i∈is,aoI C fn aC ops n D base Pl Sl Q s i
 | [],_,i,hi=>by cases hi
 |k::is,h,i,hi=>by
  rcases List.mem_cons.1 hi with rfl|hi
  ·exact h.1
  ·exact wU.mem h.2 i hi
def acg(ops:Array Oper)(ks:List Nat)(is:List Nat):Bool:=
 (List.range ops.size).all fun j=>bk j ks||bk j is||(bw ops j).any fun k=> !bk k ks
theorem Zq{Pl Sl:List (Nat×Value)}(is:List Nat)(mD:fG ops=true)(his:(is.all fun i=>Nat.blt i ops.size&& !bk i (ak Pl))=true)(lX:nodupB (ak Pl)=true)(jD:oG ops (ak Pl)=true)(hs:fH (ak Sl) (ak Pl)=true)(ho:acg ops (ak Pl) is=true)
 (h:wU C fn aC ops n D base Pl Sl Q s is)(eg:is.isEmpty=false):sS C fn aC ops n D base Pl Sl Q s:=by
 have qo:∀i∈is,i∉ak Pl:=fun i hi hm=>by
  have:=(List.all_eq_true.1 his) i hi
  rw[aL.2 hm] at this;simp at this
 have Ib:∀i∈is,i <ops.size:=fun i hi=>by
  have:=(List.all_eq_true.1 his) i hi
  simp only[Bool.and_eq_true,Nat.blt_eq] at this
  exact this.1
 have FR:∀(l:List (Nat×Value)),nodupB (ak l)=true→∀j v w,(j,v)∈l→(j,w)∈l→w=v:=by
  intro l
  induction l with
  |nil=>intro _ j v w h;cases h
  |cons x l ih=>
   rcases x with ⟨k,u⟩
   intro hb j v w h1 h2
   simp only[ak,nodupB,Bool.and_eq_true,Bool.not_eq_true'] at hb
   have hk:k∉ak l:=fun hm=>by rw[aL.2 hm] at hb;cases hb.1
   rcases List.mem_cons.1 h1 with h1|h1<;>rcases List.mem_cons.1 h2 with h2|h2
   ·cases h1;cases h2;rfl
   ·cases h1;exact absurd (aR.2 ⟨_,h2⟩) hk
   ·cases h2;exact absurd (aR.2 ⟨_,h1⟩) hk
   ·exact ih hb.2 j v w h1 h2
 intro hSl X l
 induction l generalizing X with
 |nil=>
  intro env hX hl oJ hf
  cases is with
  |nil=>cases eg
  |cons i is=>exact absurd (hX i (oJ i (Ib i List.mem_cons_self))) (qo i List.mem_cons_self)
 |cons j l ih=>
  intro env hX hl oJ hf
  obtain⟨h1,h2,h3,h4⟩:=oJ
  by_cases hj:j∈ak Pl
  ·
   obtain⟨w,hw⟩:=aR.1 hj
   obtain⟨rest,hr⟩:=vz (n:=n) (D:=D) hf j h3 h2
   rw[hr]
   refine hSl j w (hl j w hw h2) s (Ext.refl s) rest l Q ?_
   rw[←Cg hr]
   refine ih (j::X) _ (fun k hk=>?_) (fun k u hk AS=>hl k u hk (fun h=>AS (List.mem_cons_of_mem _ h))) h4 (sJ mD hf h1 h2 h3 (fun u hu=>FR Pl lX j w u hw hu))
   rcases List.mem_cons.1 hk with rfl|hk
   ·exact hj
   ·exact hX k hk
  ·by_cases yT:j∈is
   ·have h:=wU.mem h j yT
    have qo:=qo j yT
    obtain⟨rest,hr⟩:=vz (n:=n) (D:=D) hf j h3 h2
    rw[hr]
    refine h rest l fun v s' hp ha=>?_
    rw[←Cg hr]
    have LP:∀k,k∈ak Pl→j∉bw ops k:=by
     intro k hk hm
     have:=(List.all_eq_true.1 jD) k hk
     exact qo (bK.1 this j hm)
    have SQ:∀k u,(k,u)∈pending ops j Sl→(k,u)∈Sl:=fun k u hk=>(List.mem_filter.1 hk).1
    refine ha (fun k u hk=>?_) (j::X) l _ (fun k hk=>?_) (fun k u hk AS=>?_) h4 ?_
    ·rw[cR (LP k (bK.1 hs k (aR.2 ⟨u,SQ k u hk⟩)))]
     exact hp k u hk (hSl k u (SQ k u hk))
    ·rcases List.mem_cons.1 hk with rfl|hk
     ·simp[ak]
     ·exact List.mem_cons_of_mem _ (hX k hk)
    ·rcases List.mem_cons.1 hk with hk|hk
     ·cases hk;exact absurd (by simp) AS
     ·have LG:k∉X:=fun h=>AS (List.mem_cons_of_mem _ h)
      refine List.mem_filter.2 ⟨hl k u hk LG,?_⟩
      cases hm:bk k (bw ops j) with
      |false=>rfl
      |true=>exact absurd (h3 k (aL.1 hm)) LG
    ·refine sJ mD (BU hf h2) h1 h2 h3 fun u hu=>?_
     rcases List.mem_cons.1 hu with hu|hu
     ·cases hu;rfl
     ·exact absurd (aR.2 ⟨_,hu⟩) qo
   ·exfalso
    have:=(List.all_eq_true.1 ho) j (List.mem_range.2 h1)
    have e1:bk j (ak Pl)=false:=by
     cases hm:bk j (ak Pl) with
     |false=>rfl
     |true=>exact absurd (aL.1 hm) hj
    have e2:bk j is=false:=by
     cases hm:bk j is with
     |false=>rfl
     |true=>exact absurd (aL.1 hm) yT
    rw[e1,e2] at this
    simp only[Bool.false_or,List.any_eq_true,Bool.not_eq_true'] at this
    obtain⟨k,hk,bW⟩:=this
    have:=hX k (h3 k hk)
    rw[aL.2 this] at bW;cases bW
end any
section rules
variable {P:Program} {C:Class} {fn:FuncId} {aC:Option Nat} {Q:Post} {s:St} {n:Nat} {env:Env} {D:List Deferred}
variable {ops:Array Oper} {i:Nat} {rest:List Nat} {dst:Option Tmp} {ty:TypeId} {pos:String} {dc:Array Edge} {g:Option (Nat×Bool)}
variable {T:TypeId} {d:TypeDesc} {sz bE:Nat} {z:List Value} {ag:Bool} {ro:Nat→Option Obj}
theorem u3{a:Act}(hC:∀main T,C main T→Closed P main T){rw:Cells}(hp:ZH.Perm rw)(h:ab C fn aC ops todo Q a ⟨ro,rw⟩):ab C fn aC ops todo Q a ⟨ro,ZH⟩:=
 ab.more (s:=⟨ro,rw⟩) (s':=⟨ro,ZH⟩) hC ⟨[],by rw[List.append_nil];exact hp,fun b o hb=> .inl hb⟩ h
theorem oap(hC:∀main T,C main T→Closed P main T){v w:Value}{enc:α→List Value}{ps qs:List α}{L R:List (Nat×Obj)}{d':TypeDesc}{E2:TypeId}{ij uF sz2 AE:Nat}{z' z2:List Value}{we ag2:Bool} 
 (ho:ops[i]?=some ⟨dst,.call ⟨.builtin .append,#[x,y],#[T,U]⟩,ty,pos,dc,g⟩) (hw:az ops n env g=true) (tf:TF P T (.slice E) sz bE z ag) (Qy:TF P U (.slice E2) sz2 AE z2 ag2) (jL:TF P E d' ij uF z' we) (hz:z'.length=ij)
 (hx:bu n env x=some v) (hy:bu n env y=some w) (ky:aD v ij E enc ps L) (Jr:Sl ⟨ro,L++R⟩ w ij enc qs) (hq:∀p∈qs,∀c∈enc p,single c=true) (hb:u5 (ps.length+qs.length) uF)
 (h:∀v' L',aD v' ij E enc (ps++qs) L'→ab C fn aC ops rest Q (A n (upd dst v' env) D) ⟨ro,L'++R⟩):ab C fn aC ops (i::rest) Q (A n env D) ⟨ro,L++R⟩:=
 OE hC ho hw tf Qy jL hz hx hy ky Jr (pre:=[]) rfl hq hb h
theorem ost(hC:∀main T,C main T→Closed P main T){b o:Nat}{v:Value}{R:List (Nat×Obj)}{c:List Value}{e:TypeId}(ho:ops[i]?=some ⟨dst,.store T x y,ty,pos,dc,g⟩) (hw:az ops n env g=true) (tf:TF P T d sz bE z ag)
 (hx:bu n env x=some (.pointer (some ⟨b,o,none⟩))) (hy:bu n env y=some (v)) (hl:v.cells=⟨l⟩) (hn:l.length=sz) (h1:∀v∈l,single v=true) (hb:o+l.length≤c.length)
 (h:ab C fn aC ops rest Q (A n (upd dst undef env) D) ⟨ro,(b,.cells ⟨dB c o l⟩ e (0,0))::R⟩):ab C fn aC ops (i::rest) Q (A n env D) ⟨ro,(b,.cells ⟨c⟩ e (0,0))::R⟩:=
 DZ hC ho hw tf hx hy hl hn h1 (L:=[]) rfl hb h
end rules
section rules
variable {P:Program} {C:Class} {fn:FuncId} {aC:Option Nat} {Q:Post} {s:St} {n:Nat} {env:Env} {D:List Deferred}
variable {ops:Array Oper} {i:Nat} {rest:List Nat} {dst:Option Tmp} {ty:TypeId} {pos:String} {dc:Array Edge} {g:Option (Nat×Bool)}
theorem aqF(hC:∀main T,C main T→Closed P main T){k:IntKind}{a b:Int}(ho:ops[i]?=some ⟨dst,.call ⟨.builtin .min,#[x,y],#[T,U]⟩,ty,pos,dc,g⟩) (hw:az ops n env g=true)
 (hx:bu n env x=some (.int k a)) (hy:bu n env y=some (.int k b)) (h:ab C fn aC ops rest Q (A n (upd dst (.int k (min a b)) env) D) s):ab C fn aC ops (i::rest) Q (A n env D) s:=by
 refine bR hC ho hw (by simp) ?_
 have e:(if b <a then b else a)=min a b:=by omega
 simp only[execOp,resolve,invoke,builtin,Builtin.min_,List.map_toArray,List.map_cons,List.map_nil,aG hx,aG hy,List.foldlM_cons,List.foldlM_nil,Builtin.min2,aa,af,e]
 rw[←a8] at h
 exact h
theorem aqG(hC:∀main T,C main T→Closed P main T){k:IntKind}{a b:Int}(ho:ops[i]?=some ⟨dst,.call ⟨.builtin .max,#[x,y],#[T,U]⟩,ty,pos,dc,g⟩) (hw:az ops n env g=true)
 (hx:bu n env x=some (.int k a)) (hy:bu n env y=some (.int k b)) (h:ab C fn aC ops rest Q (A n (upd dst (.int k (max a b)) env) D) s):ab C fn aC ops (i::rest) Q (A n env D) s:=by
 refine bR hC ho hw (by simp) ?_
 have e:(if a <b then b else a)=max a b:=by omega
 simp only[execOp,resolve,invoke,builtin,Builtin.max_,List.map_toArray,List.map_cons,List.map_nil,aG hx,aG hy,List.foldlM_cons,List.foldlM_nil,Builtin.max2,aa,af,e]
 rw[←a8] at h
 exact h
end rules
def cQ(a b:ByteArray):Bool:=a.toList==b.toList
def strLt(a b:ByteArray):Bool:=Op.bytesLess a.toList b.toList
section rules
variable {P:Program} {C:Class} {fn:FuncId} {aC:Option Nat} {Q:Post} {s:St} {n:Nat} {env:Env} {D:List Deferred}
variable {ops:Array Oper} {i:Nat} {rest:List Nat} {dst:Option Tmp} {ty:TypeId} {pos:String} {dc:Array Edge} {g:Option (Nat×Bool)}
theorem aqC(hC:∀main T,C main T→Closed P main T){a:ByteArray}(ho:ops[i]?=some ⟨dst,.binOp .add T x y T',ty,pos,dc,g⟩) (hw:az ops n env g=true)
 (hx:bu n env x=some (.string a)) (hy:bu n env y=some (.string b)) (hb:(a.size:Int)+b.size≤9223372036854775807) (h:ab C fn aC ops rest Q (A n (upd dst (.string (a++b)) env) D) s):ab C fn aC ops (i::rest) Q (A n env D) s:=
 zq hC ho hw hx hy (v:= .string (a++b)) (by
  simp only[Op.stringOp]
  rw[if_neg]
  ·rfl
  ·have:IntKind.i64.max=9223372036854775807:=by decide
   rw[this];push_cast;omega) rfl h
end rules
theorem auW(b:ByteArray)(i:Nat)(h:i <b.size):b.get! i=b.data.toList[i]'(by simpa using h):=by
 have h':i <b.data.size:=h
 show b.data[i]! =_
 rw[getElem!_pos b.data i h']
 simp
theorem WR(b:ByteArray):∀(n i:Nat) (r:List UInt8),b.size-i=n→ByteArray.toList.loop b i r=r.reverse++b.data.toList.drop i
 |0,i,r,h=>by
  unfold ByteArray.toList.loop
  rw[if_neg (by omega),List.drop_eq_nil_of_le]
  ·simp
  ·show b.data.toList.length≤i
   rw[Array.length_toList]
   have:b.data.size=b.size:=rfl
   omega
 |n+1,i,r,h=>by
  unfold ByteArray.toList.loop
  have hi:i <b.size:=by omega
  rw[if_pos hi,WR b n (i+1) _ (by omega),auW b i hi]
  have hl:i <b.data.toList.length:=by rw[Array.length_toList];exact hi
  rw[List.drop_eq_getElem_cons hl]
  simp
theorem pz(b:ByteArray):b.toList=b.data.toList:=by
 show ByteArray.toList.loop b 0 []=_
 rw[WR b _ 0 [] rfl]
 simp
theorem A6{a:ByteArray}:cQ a b=true↔a=b:=by
 unfold cQ
 rw[pz,pz]
 simp only[beq_iff_eq]
 constructor
 ·intro h
  have:a.data=b.data:=Array.toList_inj.1 h
  cases a;cases b;simp at this;subst this;rfl
 ·rintro rfl;rfl
theorem y9(a b:ByteArray):cQ a b=(a.data.toList==b.data.toList):=by unfold cQ;rw[pz,pz]
theorem NR(a b:ByteArray):strLt a b=Op.bytesLess a.data.toList b.data.toList:=by unfold strLt;rw[pz,pz]
def FnG(P:Program)(f:FuncId)(args:List Value)(ro:Nat→Option Obj)(own:Cells)(Φ:Value→(Nat→Option Obj)→Cells→Prop):Prop:=
 Fn (CP P) P f ⟨args⟩ ⟨ro,own⟩ (fun en s'=>∃v aK X,en= .returned v∧s'=⟨aK,X⟩∧Sub ro aK∧Φ v aK X)
theorem FnG.use{own:Cells}{Φ:Value→(Nat→Option Obj)→Cells→Prop}(hp:s.rw.Perm (own++fr))(hf:FnG P f vs s.ro own Φ):
 Fn (CP P) P f ⟨vs⟩ s (fun en s'=>∃v aK X,en= .returned v∧Sub s.ro aK∧Φ v aK X∧(⟨aK,X++fr⟩:St).le s'):=by
 refine Fn.mono (Fn.frame (fr:=fr) (B:=[]) (ro:=s.ro) (s:=s) hf (fun _ h=>(by cases h)) ⟨hp,fun b o hb=> .inl hb,Sub.refl _⟩) fun en s' CG=>?_
 obtain⟨xS,⟨v,aK,X,rfl,rfl,hs,pU⟩,hc⟩:=CG
 refine⟨v,aK,X,rfl,hs,pU,[],by simpa using hc.rw,fun b o hb=>?_⟩
 rcases hc.aE b o hb with h|h
 ·exact .inl h
 ·cases h
theorem E5:∀(A l:List Value) (o:Nat) (c:List Value),dB (A++l) (A.length+o) c=A++dB l o c
 | [],l,o,c=>by simp
 |a::A,l,o,[]=>by rw[kX,kX]
 |a::A,l,o,v::c=>by
  have:=E5 A l o (v::c)
  rw[show (a::A).length+o=A.length+o+1 by simp only[List.length_cons];omega]
  simp only[List.cons_append,dB,this]
theorem I0{m B:List Value}{o:Nat}{c:List Value}(h:o+c.length≤m.length):dB (m++B) o c=dB m o c++B:=by
 rw[qD _ _ _ (by rw[List.length_append];omega),qD _ _ _ h,List.take_append_of_le_length (by omega),List.drop_append_of_le_length h]
 simp only[List.append_assoc]
theorem XO{m c:List Value}(h:c.length=m.length):dB m 0 c=c:=by
 rw[qD _ _ _ (by omega)]
 simp[h]
theorem TA{enc:α→List Value}{ps:List α}(SQ:∀p∈ps,(enc p).length=sz){x:α}(hx:ps[k]?=some x) (hl:l.take (ps.length*sz)=(ps.map enc).flatten):∃A B,A.length=k*sz∧l=A++(enc x++B):=by
 obtain⟨hk,rfl⟩:=List.getElem?_eq_some_iff.1 hx
 refine⟨((ps.take k).map enc).flatten,((ps.drop (k+1)).map enc).flatten++l.drop (ps.length*sz),?_,?_⟩
 ·rw[j5 _ (fun p hp=>SQ p (List.mem_of_mem_take hp)),List.length_take,Nat.min_eq_left (by omega)]
 ·have h3:ps=ps.take k++ps[k]::ps.drop (k+1):=by rw[←List.drop_eq_getElem_cons hk,List.take_append_drop]
  have h4:=congrArg (fun q:List α=>(q.map enc).flatten) h3
  simp only[List.map_append,List.map_cons,List.flatten_append,List.flatten_cons] at h4
  have h5:=(List.take_append_drop (ps.length*sz) l).symm
  rw[hl,h4] at h5
  simpa only[List.append_assoc] using h5
theorem XP{enc:α→List Value}{ps:List α}(SQ:∀p∈ps,(enc p).length=sz){x:α}(hx:ps[k]?=some x) (hl:l.take (ps.length*sz)=(ps.map enc).flatten) {o:Nat} {c:List Value} (h:o+c.length≤sz):
 dB l (k*sz+o) c=dB l (k*sz) (dB (enc x) o c):=by
 have hxl:=SQ x (List.mem_of_getElem? hx)
 obtain⟨A,B,h1,rfl⟩:=TA SQ hx hl
 have e0:∀q,dB (A++(enc x++B)) A.length q=A++dB (enc x++B) 0 q:=fun q=>E5 A _ 0 q
 rw[←h1,E5,e0,I0 (by omega),I0 (by rw[kY];omega),XO (kY _ _ _)]
section rules
variable {P:Program} {C:Class} {fn:FuncId} {aC:Option Nat} {Q:Post} {ro:Nat→Option Obj} {n:Nat} {env:Env} {D:List Deferred}
variable {ops:Array Oper} {i:Nat} {rest:List Nat} {dst:Option Tmp} {ty:TypeId} {pos:String} {dc:Array Edge} {g:Option (Nat×Bool)}
variable {T:TypeId} {d:TypeDesc} {tsz bE:Nat} {z:List Value} {ag:Bool}
theorem ayO(hC:∀main T,C main T→Closed P main T){b o:Nat}{v w:Value}{a e:α}{c:List Value}{enc:α→List Value}{ps:List α}{L:Cells}(ho:ops[i]?=some ⟨dst,.store T x y,ty,pos,dc,g⟩) (hw:az ops n env g=true) (tf:TF P T d tsz bE z ag)
 (hx:bu n env x=some (.pointer (some ⟨b,k*sz+o,none⟩))) (hy:bu n env y=some w) (hl:w.cells=⟨c⟩) (hn:c.length=tsz) (h1:∀v∈c,single v=true) (ky:aD v sz E enc ps L) (hb:MQ v b) (hk:ps[k]?=some a) (he:enc e=dB (enc a) o c) (hf:o+c.length≤sz)
 (h:∀L',aD v sz E enc (ps.set k e) L'→ab C fn aC ops rest Q (A n (upd dst undef env) D) ⟨ro,L'++R⟩):ab C fn aC ops (i::rest) Q (A n env D) ⟨ro,L++R⟩:=by
 have hk1:k <ps.length:=(List.getElem?_eq_some_iff.1 hk).1
 rcases ky with ⟨_,h2,_⟩| ⟨b',l,cap,g1,g2,g3,g4,g5,g6⟩
 ·subst h2;simp at hk
 ·obtain⟨n',c',mo⟩:=hb
  rw[g1] at mo
  cases mo
  subst g2
  have hea:(enc a).length=sz:=g5 a (List.mem_of_getElem? hk)
  have CG:(enc e).length=sz:=by rw[he,kY,hea]
  have hks:k*sz+sz≤ps.length*sz:=by
   have:(k+1)*sz≤ps.length*sz:=Nat.mul_le_mul_right _ (by omega)
   rw[Nat.succ_mul] at this;exact this
  have og:ps.length*sz≤cap*sz:=Nat.mul_le_mul_right _ g4
  refine DZ (L:=[]) (R:=R) hC ho hw tf hx hy hl hn h1 rfl (by omega) ?_
  refine h [(b,.cells ⟨dB l (k*sz+o) c⟩ E (0,0))] (.inr ⟨b,_,cap,by rw[g1,List.length_set],rfl,by rw[kY,g3],by rw[List.length_set];exact g4,fun p hp=>?_,?_⟩)
  ·rcases List.mem_or_eq_of_mem_set hp with h5|h5
   ·exact g5 p h5
   ·subst h5;exact CG
  ·rw[List.length_set,XP g5 hk g6 hf,←he]
   exact PW ps g5 k e CG hk1 l g6
end rules
section rules
variable {P:Program} {C:Class} {fn:FuncId} {aC:Option Nat} {Q:Post} {s:St} {n:Nat} {env:Env} {D:List Deferred}
variable {ops:Array Oper} {i:Nat} {rest:List Nat} {dst:Option Tmp} {ty:TypeId} {pos:String} {dc:Array Edge} {g:Option (Nat×Bool)}
structure EF(P:Program)(f:FuncId)(e:Array Value→Sem Value):Prop where
 ef:∃fn,P.funcs[f]?=some fn∧(fn.name== "runtime.NumGoroutine")=false∧fn.body.isNone=true∧(Extern.findNext fn).isNone=true∧Extern.find fn=some e
theorem acp(hC:∀main T,C main T→Closed P main T){e:Array Value→Sem Value}(ho:ops[i]?=some ⟨dst,.call ⟨.value (.func f),xs,at_⟩,ty,pos,dc,g⟩) (hw:az ops n env g=true)
 (ef:EF P f e) (hx:uM n env xs=some vs) (h:bN P (e ⟨vs⟩) s (fun v s'=>ab C fn aC ops rest Q (A n (upd dst v env) D) s') (fun _ _=>False)):ab C fn aC ops (i::rest) Q (A n env D) s:=by
 obtain⟨fn',h1,h2,h3,h4,h5⟩:=ef.ef
 have h4':Extern.findNext fn'=none:=by
  cases hh:Extern.findNext fn' with
  |none=>rfl
  |some x=>rw[hh] at h4;cases h4
 refine bR hC ho hw (by simp) ?_
 simp only[execOp,resolve,ev,Deferred.ofValue,af,rE hx]
 simp only[invoke,Array.append_empty,Array.empty_append,callFunc,eT,h1,h2,h3,h4',h5,if_true,Bool.false_eq_true,if_false]
 refine⟨rfl,?_⟩
 refine NB (e ⟨vs⟩) (fun v=>(pure (Next.value v):Sem Next)) _ _ _ ?_
 refine uP _ _ _ _ _ _ (fun v s' hv=>?_) (fun _ _ (hf:False)=>hf.elim) h
 rw[←a8] at hv
 exact hv
end rules
def O3(a:ByteArray)(b:UInt8):Int:=
 match (List.range a.size).find? fun i=>a[i]! ==b with
 |some i=>i
 |none=> -1
section rules
variable {P:Program} {C:Class} {fn:FuncId} {aC:Option Nat} {Q:Post} {s:St} {n:Nat} {env:Env} {D:List Deferred}
variable {ops:Array Oper} {i:Nat} {rest:List Nat} {dst:Option Tmp} {ty:TypeId} {pos:String} {dc:Array Edge} {g:Option (Nat×Bool)}
theorem acn(hC:∀main T,C main T→Closed P main T){a:ByteArray}{b:Int}(ho:ops[i]?=some ⟨dst,.call ⟨.value (.func f),xs,at_⟩,ty,pos,dc,g⟩) (hw:az ops n env g=true)
 (ef:EF P f Extern.BytealgIndexByte.indexByte) (hx:uM n env xs=some [.string a,.int .u8 b]) (h:ab C fn aC ops rest Q (A n (upd dst (.int .i64 (O3 a b.toNat.toUInt8)) env) D) s):ab C fn aC ops (i::rest) Q (A n env D) s:=by
 refine acp hC ho hw ef hx ?_
 unfold O3 at h
 show bN P (match (List.range a.size).find? fun i=>a[i]! ==b.toNat.toUInt8 with|some i=>pure (goInt i)|none=>pure (goInt (-1))) s _ _
 split
 ·rename_i j hj
  rw[hj] at h;exact h
 ·rename_i hj
  rw[hj] at h;exact h
theorem ajB(hC:∀main T,C main T→Closed P main T){v:Value}(ho:ops[i]?=some ⟨dst,.call ⟨.value (.func f),xs,at_⟩,ty,pos,dc,g⟩) (hw:az ops n env g=true)
 (ef:EF P f Extern.AbiNoEscape.same) (hx:uM n env xs=some [v]) (h:ab C fn aC ops rest Q (A n (upd dst v env) D) s):ab C fn aC ops (i::rest) Q (A n env D) s:=
 acp hC ho hw ef hx h
end rules
theorem Y6{c:UInt8}(h:b.data.toList[p]?=some c) (ha:c.toNat <128):p <b.size∧Utf8.decode b p=(c.toNat,1):=by
 rw[Array.getElem?_toList] at h
 obtain⟨h1,h2⟩:=Array.getElem?_eq_some_iff.1 h
 refine⟨h1,?_⟩
 have h3:b.get! (p+0)=c:=by
  show b.data[p+0]! =c
  rw[Nat.add_zero,getElem!_pos b.data p h1,h2]
 simp only[Utf8.decode,h3]
 rw[if_pos (by omega)]
section rules
variable {P:Program} {C:Class} {fn:FuncId} {aC:Option Nat} {Q:Post} {ro:Nat→Option Obj} {n:Nat} {env:Env} {D:List Deferred}
variable {ops:Array Oper} {i:Nat} {rest:List Nat} {dst:Option Tmp} {ty:TypeId} {pos:String} {dc:Array Edge} {g:Option (Nat×Bool)}
theorem ajD(hC:∀main T,C main T→Closed P main T){r:Nat}{c:UInt8}(ho:ops[i]?=some ⟨dst,.next x true,ty,pos,dc,g⟩) (hw:az ops n env g=true) (hx:bu n env x=some (.pointer (some ⟨r,0,none⟩))) (hp:b.data.toList[p]?=some c) (ha:c.toNat <128)
 (h:ab C fn aC ops rest Q (A n (upd dst (.tuple ⟨[.bool true,.int .i64 p,.int .i32 c.toNat]⟩) env) D) ⟨ro,(r,.stringIter b (p+1))::R⟩):ab C fn aC ops (i::rest) Q (A n env D) ⟨ro,(r,.stringIter b p)::R⟩:=by
 obtain⟨h1,h2⟩:=Y6 hp ha
 refine XZ hC ho hw hx (L:=[]) rfl h1 ?_
 rw[h2]
 exact h
theorem ajC(hC:∀main T,C main T→Closed P main T){r:Nat}(ho:ops[i]?=some ⟨dst,.next x true,ty,pos,dc,g⟩) (hw:az ops n env g=true) (hx:bu n env x=some (.pointer (some ⟨r,0,none⟩))) (hp:b.data.toList[p]?=none)
 (h:ab C fn aC ops rest Q (A n (upd dst (.tuple ⟨[.bool false]⟩) env) D) ⟨ro,(r,.stringIter b p)::R⟩):ab C fn aC ops (i::rest) Q (A n env D) ⟨ro,(r,.stringIter b p)::R⟩:=by
 refine X3 hC ho hw hx (L:=[]) rfl ?_ h
 rw[Array.getElem?_toList,Array.getElem?_eq_none_iff] at hp
 exact Nat.not_lt.2 hp
end rules
theorem EC(ops:Array Oper)(n:Nat)(env:Env)(D:List Deferred)(o:Oper)(j:Nat)(want:Bool)(d:Tmp)(hg:o.guard=some (j,want))(hd:(ops[j]?).bind (·.dst)=some d)
 (hv:bu n env (.tmp d)=some undef):Region.wanted o (yielded ops (A n env D).tmps)=false:=by
 unfold Region.wanted
 rw[hg]
 simp only[bu] at hv
 by_cases cK:d <n
 ·rw[show Nat.blt d n=true from by simpa [Nat.blt_eq] using cK] at hv
  simp only[cond_true] at hv
  simp only[yielded,hd,Option.bind_some,MZ]
  rw[if_pos cK,mE hv]
  rfl
 ·rw[show Nat.blt d n=false from by simpa [Nat.blt_eq,←Bool.not_eq_true] using cK] at hv
  cases hv
section rules
variable {P:Program} {C:Class} {fn:FuncId} {aC:Option Nat} {Q:Post} {s:St} {n:Nat} {env:Env} {D:List Deferred}
variable {ops:Array Oper} {i:Nat} {rest:List Nat} {dst:Option Tmp} {ty:TypeId} {pos:String} {dc:Array Edge} {g:Option (Nat×Bool)}
theorem ajA(hC:∀main T,C main T→Closed P main T){op:Op}{j:Nat}{want:Bool}{d:Tmp}(ho:ops[i]?=some ⟨dst,op,ty,pos,dc,some (j,want)⟩) (hd:(ops[j]?).bind (·.dst)=some d)
 (hv:bu n env (.tmp d)=some undef) (h:ab C fn aC ops rest Q (A n (upd dst undef env) D) s):ab C fn aC ops (i::rest) Q (A n env D) s:=by
 refine tv hC ho (EC _ _ _ _ _ _ _ _ rfl hd hv) ?_
 rw[a8];exact h
end rules
section rules
variable {P:Program} {C:Class} {fn:FuncId} {Q:Post} {s:St} {n:Nat} {env:Env} {D:List Deferred}
variable {ops:Array Oper} {i:Nat} {rest:List Nat} {dst:Option Tmp} {ty:TypeId} {pos:String} {dc:Array Edge} {g:Option (Nat×Bool)}
theorem ajF(hC:∀main T,C main T→Closed P main T){ca:List Value}(ho:ops[i]?=some ⟨dst,.defer ⟨.value x,#[],#[]⟩,ty,pos,dc,g⟩) (hw:az ops n env g=true)
 (hx:bu n env x=some (.func (.func f) ⟨[]⟩ ⟨ca⟩)) (h:ab C fn none ops rest Q (A n (upd dst undef env) ({target:= .fn (.func f) ⟨ca⟩,args:= #[]}::D)) s):ab C fn none ops (i::rest) Q (A n env D) s:=by
 refine KS hC ho (A1 _ _ _ _ _ hw) (.inl rfl) ?_
 rw[eB]
 simp only[execOp,resolve,aG hx,Deferred.ofValue,af]
 refine⟨rfl,?_⟩
 have hA:({A n env D with defers:={target:= .fn (.func f) ⟨ca⟩,args:= #[]}::(A n env D).defers}:Act).put dst undef=A n (upd dst undef env) ({target:= .fn (.func f) ⟨ca⟩,args:= #[]}::D):=by
  rw[←a8];rfl
 rw[←hA] at h
 have he:(⟨[]⟩:Array Value)++Array.map (ev n env) #[]= #[]:=by simp
 rw[he]
 exact h
def TQ(C:Class)(P:Program)(fn:Func)(g:FuncId)(gn:Func)(t:Tmp)(rest:Code)(R:Ending→St→Prop):Post:=fun e a s=>
 (e= .normal∨e= .ret)∧∃ca:List Value,Nat.ble ca.length gn.ntmps=true∧a.defers=[{target:= .fn (.func g) ⟨ca⟩,args:= #[]}]∧
  Wp C g none rest (fun e2 a2 s2=>(e2= .normal∨e2= .ret)∧a2.defers=[]∧bN P (results fn a.tmps) s2 (fun v s3=>∃s0,s0.le s3∧R (.returned v) s0) (fun _ _=>False)) (A gn.ntmps (upd (some t) .nilIface (fN 0 ca)) []) s
theorem GC(hC:∀main T,C main T→Closed P main T){fn:Func}{c:Code}{args:List Value}{R:Ending→St→Prop}{gid:FuncId}{gn:Func}{t:Tmp}{rc:Code}(hf:P.funcs[f]?=some fn) (hb:fn.body=some c) (hn:fn.ntmps=n) (hl:Nat.ble args.length n=true)
 (adW:HU P gid=some (gn,t,rc)) (h:Wp C f none c (TQ C P fn gid gn t rc R) (A n (fN 0 args) []) s):Fn C P f ⟨args⟩ s R:=by
 intro main T hT cl cs k1 k2
 have iG:=hC main T hT
 let b:Frame:={(default:Frame) with fn:=f,kind:= .normal,roundOf:=none}
 have gY:Frame.enter P f ⟨args⟩ .normal=aM b (A n (fN 0 args) []) [.code c]:=by
  rw[←kA args n (Nat.le_of_ble_eq_true hl)]
  simp[Frame.enter,aM,hf,hb,hn,b]
 rw[gY]
 obtain⟨hgf,z0,Hx,id,o,at_,hgb,h1,h2,h3⟩:=(U3 adW).ex
 have ff:FF P gid:=⟨gn,hgf,Hx,by rw[hgb];rfl⟩
 have rB:∀(todo:List Item) (a':Act) (s':St) (ca:List Value),Nat.ble ca.length gn.ntmps=true→a'.defers=[{target:= .fn (.func gid) ⟨ca⟩,args:= #[]}]→
  Wp C gid none rc (fun e2 a2 s2=>(e2= .normal∨e2= .ret)∧a2.defers=[]∧bN P (results fn a'.tmps) s2 (fun v s3=>∃s0,s0.le s3∧R (.returned v) s0) (fun _ _=>False)) (A gn.ntmps (upd (some t) .nilIface (fN 0 ca)) []) s'→
  T (G {aM b a' todo with mode:= .returning} (cl::cs)) s':=by
  intro todo a' s' ca hlc hd hw
  refine jv hC hT (.inl rfl) ff (ds:=[]) (a:= #[]) (ca:=⟨ca⟩) hd ?_
  let d:Frame:={(default:Frame) with fn:=gid,kind:= .deferred,roundOf:=none}
  have akZ:Frame.enter P gid ((#[]:Array Value)++⟨ca⟩) .deferred=aM d (A gn.ntmps (fN 0 ca) []) [.code (.seq (.region id #[o] false) rc)]:=by
   rw[←kA ca gn.ntmps (Nat.le_of_ble_eq_true hlc)]
   simp[Frame.enter,aM,hgf,hgb,d]
  rw[akZ]
  let c0:Frame:={aM b a' todo with mode:= .returning,defers:=[]}
  show T (G _ (c0::cl::cs)) s'
  refine iG.go rfl rfl (g':=G (aM d (A gn.ntmps (fN 0 ca) []) [.code (.region id #[o] false),.code rc]) (c0::cl::cs)) (fun w=>by simp[G,stepG,stepG.exec,aM]) ?_
  refine iG.go rfl rfl (g':=G (aM d (A gn.ntmps (fN 0 ca) []) [.inRegion #[o] [0],.code rc]) (c0::cl::cs)) (fun w=>by simp[G,stepG,stepG.exec,aM,List.range,List.range.loop]) ?_
  refine ze hC hT (u:= .ret) (ρ:=fun _=>none) rfl rfl h1 h2 h3 .ret fun v' mW hv SX=>?_
  have hv':v'= .nilIface:=by
   rcases hv with hv|hv
   ·cases hv;rfl
   ·exact hv.2
  subst hv'
  refine iG.go rfl rfl (g':=G (aM d ((A gn.ntmps (fN 0 ca) []).put (some t) .nilIface) [.code rc]) ({c0 with mode:=mW}::cl::cs)) (fun w=>by simp[G,stepG,stepG.exec,aM]) ?_
  rw[a8]
  have Pd:∀tmps,results gn tmps=Sem.pure (.tuple #[]):=by intro tmps;simp[results,z0];rfl
  have xu:∀(Uy:List Item) (a2:Act) (s2:St),a2.defers=[]→bN P (results fn a'.tmps) s2 (fun v s3=>∃s0,s0.le s3∧R (.returned v) s0) (fun _ _=>False)→T (G {aM d a2 Uy with mode:= .returning} ({c0 with mode:=mW}::cl::cs)) s2:=by
   intro Uy a2 s2 hd2 vk
   have mj:T (G c0 (cl::cs)) s2:=r5 hC hT hf rfl rfl rfl rfl vk k1
   refine iG.go rfl rfl (fun w=>?_) mj
   rcases SX with rfl| ⟨v,rfl⟩
   ·simp only[G,stepG,unwind,aM,d,hgf,Pd,Sem.runT,rZ,hd2]
    simp[GStep.after,doReturn,c0,aM]
   ·simp only[G,stepG,unwind,aM,d,hgf,Pd,Sem.runT,rZ,hd2]
    simp[GStep.after,doReturn,c0,aM]
  refine hw main T hT d [] _ rfl (by simp[d]) rfl fun e2 a2 s2 q=>?_
  obtain⟨q1,q2,q3⟩:=q
  rcases q1 with rfl|rfl
  ·exact iG.go rfl rfl (g':=G {aM d a2 [] with mode:= .returning} ({c0 with mode:=mW}::cl::cs)) (fun w=>by simp[G,stepG,stepG.exec,aM,d]) (xu _ _ _ q2 q3)
  ·exact fun Uy=>iG.go rfl rfl (g':=G {aM d a2 (.code .ret::Uy) with mode:= .returning} ({c0 with mode:=mW}::cl::cs)) (fun w=>by simp[G,stepG,stepG.exec,aM,d]) (xu _ _ _ q2 q3)
 refine h main T hT b [] (cl::cs) rfl (by simp[b]) rfl fun e a' s' q=>?_
 obtain⟨q1,ca,q0,q2,q3⟩:=q
 rcases q1 with rfl|rfl
 ·exact iG.go rfl rfl (g':=G {aM b a' [] with mode:= .returning} (cl::cs)) (fun w=>by simp[G,stepG,stepG.exec,aM,b]) (rB _ _ _ ca q0 q2 q3)
 ·exact fun todo=>iG.go rfl rfl (g':=G {aM b a' (.code .ret::todo) with mode:= .returning} (cl::cs)) (fun w=>by simp[G,stepG,stepG.exec,aM,b]) (rB _ _ _ ca q0 q2 q3)
end rules
section rules
variable {P:Program} {C:Class} {fn:FuncId} {aC:Option Nat} {Q:Post} {s:St} {n:Nat} {env:Env} {D:List Deferred}
variable {ops:Array Oper} {i:Nat} {rest:List Nat} {dst:Option Tmp} {ty:TypeId} {pos:String} {dc:Array Edge} {g:Option (Nat×Bool)}
variable {T:TypeId} {sz bE:Nat} {z:List Value} {ag:Bool}
theorem ajz(hC:∀main T,C main T→Closed P main T){a:Option Addr}{l c:Nat}(ho:ops[i]?=some ⟨dst,.binOp .eql T x y T',ty,pos,dc,g⟩) (hw:az ops n env g=true) (tf:TF P T (.slice E) sz bE z ag)
 (hx:bu n env x=some (.slice a l c)) (hy:bu n env y=some (.slice none 0 0)) (h:ab C fn aC ops rest Q (A n (upd dst (.bool a.isNone) env) D) s):ab C fn aC ops (i::rest) Q (A n env D) s:=by
 refine bR hC ho hw (by simp) ?_
 have hg:eqGuard .eql T x y (.slice a l c) (.slice none 0 0)=Sem.pure ():=by cases a<;>rfl
 have hb:binOp .eql T (.slice a l c) (.slice none 0 0)=(Op.equal T (.slice a l c) (.slice none 0 0) >>= fun r=>pure (.bool r)):=by cases a<;>rfl
 have he:∀ {α:Type} (K:Bool→Sem α) (Q:α→St→Prop) (E:Halt→St→Prop),bN P (K a.isNone) s Q E→bN P (Op.equal T (.slice a l c) (.slice none 0 0) >>= K) s Q E:=by
  intro α K Q E hK
  have gen:∀d,bN P (Op.equalIn (d+1) T (.slice a l c) (.slice none 0 0) >>= K) s Q E:=by
   intro d
   cases a<;>(simp only[Op.equalIn,aa,bh tf,af,Option.isNone];exact hK)
  exact gen 9999
 simp only[execOp,aG hx,aG hy,hg,hb]
 show bN P ((Op.equal T (.slice a l c) (.slice none 0 0) >>= fun r=>(pure (Value.bool r):Sem Value)) >>= fun x=>(pure (Next.value x):Sem Next)) s _ _
 simp only[aa]
 refine he _ _ _ ?_
 rw[←a8] at h
 exact h
end rules
def abX:Op→Option (List Operand)
 | .move x=>some [x]
 | .assign x=>some [x]
 | .extract x _=>some [x]
 | .nilCheck x=>some [x]
 | .fieldAddr _ x _=>some [x]
 | .makeInterface _ x=>some [x]
 | .indexAddr _ x y=>some [x,y]
 |op=>E8 op
theorem Od{xs:List Operand}(h:abX o.op=some xs){f g:Operand→Value}(hfg:∀x∈xs,f x=g x):execOp f o=execOp g o:=by
 unfold abX at h
 split at h
 all_goals first
  | (rename_i heq;simp only[Option.some.injEq] at h;subst h;simp[execOp,heq,hfg];done)
  |exact tk h hfg
def evj(n:Nat)(e:Env)(x:Operand):Value:=(bu n e x).getD undef
theorem Mk{f:Operand→Value}(hf:Ev n e f):∀ {xs:List Operand} {vs:List Value},xg n e xs=some vs→∀x∈xs,f x=evj n e x
 |y::l,vs,h,x,hx=>by
  simp only[xg] at h
  cases hv:bu n e y with
  |none=>rw[hv] at h;cases h
  |some v=>
   rw[hv] at h
   cases hr:xg n e l with
   |none=>rw[hr] at h;cases h
   |some r=>
    rcases List.mem_cons.1 hx with rfl|hx
    ·rw[hf _ _ hv,evj,hv];rfl
    ·exact Mk hf hr x hx
def apL(P:Program)(n:Nat)(e:Env)(o:Oper):Option Value:=
 match abX o.op with
 |some xs=>match xg n e xs with
  |some _=>match bx P (execOp (evj n e) o) with
   |some (.value v)=>some v
   |_=>none
  |none=>none
 |none=>none
def azk(P:Program)(n:Nat)(e:Env)(x:Operand)(T:TypeId):Option Value:=
 match ba P T with
 |some ⟨.slice _,_,_,_⟩=>match bu n e x with
  |some (.slice _ len _)=>some (.int .i64 len)
  |_=>none
 |some ⟨.string,_,_,_⟩=>match bu n e x with
  |some (.string b)=>some (.int .i64 b.size)
  |_=>none
 |_=>none
def TZ(P:Program)(n:Nat)(e:Env)(T:TypeId)(ps:Array (Nat×Operand)):Option Value:=
 match ba P T with
 |some ⟨.struct fields,_,z,_⟩=>match wB P fields.toList with
  |some pl=>match Nh n e ps.toList with
   |some pv=>match ov (fun i=>pl[i]?) z (tt pv) with
    |some l=>some (.agg ⟨l⟩)
    |none=>none
   |none=>none
  |none=>none
 |some ⟨.array _ E,_,z,_⟩=>match ba P E with
  |some te=>match Nh n e ps.toList with
   |some pv=>match ov (fun i=>some (i*te.size,te.size)) z (tt pv) with
    |some l=>some (.agg ⟨l⟩)
    |none=>none
   |none=>none
  |none=>none
 |_=>none
def aay(P:Program)(n:Nat)(e:Env)(o:Oper):Option Value:=
 match o.op with
 | .pick c x y=>match bu n e c with
  |some (.bool true)=>bu n e x
  |some (.bool false)=>bu n e y
  |_=>none
 | .makeFunc f x y=>match xg n e x.toList with
  |some x'=>match xg n e y.toList with
   |some y'=>some (.func f ⟨x'⟩ ⟨y'⟩)
   |none=>none
  |none=>none
 | .build T ps=>TZ P n e T ps
 | .call ⟨.builtin .len,⟨[x]⟩,⟨[T]⟩⟩=>azk P n e x T
 |_=>apL P n e o
section val
variable {P:Program} {n:Nat} {e:Env} {o:Oper} {s:St} {v:Value}
theorem ai6(h:apL P n e o=some v):Yields P n e o s v:=by
 unfold apL at h
 split at h<;>try (cases h;done)
 rename_i xs hx
 split at h<;>try (cases h;done)
 rename_i vs Dm
 split at h<;>try (cases h;done)
 rename_i w hr
 cases h
 intro s' _ f hf K E hK
 rw[Od hx (Mk hf Dm)]
 exact nZ hr hK
theorem Zh{ps:Array (Nat×Operand)}(heq:o.op= .build T ps)(h:TZ P n e T ps=some v):Yields P n e o s v:=by
 unfold TZ at h
 split at h<;>try (cases h;done)
 ·rename_i fields _ z _ dR
  obtain⟨bE,tf⟩:=au dR
  split at h<;>try (cases h;done)
  rename_i pl QJ
  split at h<;>try (cases h;done)
  rename_i pv H7
  split at h<;>try (cases h;done)
  rename_i l hl
  cases h
  intro s' mT f hf K E hK
  simp only[execOp,heq,Instr.build,aa,jT tf,bh tf,eo tf]
  rw[Array.mapM_eq_mapM_toList]
  simp only[map_eq_pure_bind,aa,af]
  rw[nN (x3 QJ)]
  rw[ki] at hl
  have h1:=fill_eq _ _ _ _ hl
  have h3:(fun x=>(pl.toArray)[x]?:Nat→Option (Nat×Nat))=fun i=>pl[i]?:=by funext i;simp
  simp only[h3,hf.u2 H7,h1,af]
  exact hK
 ·rename_i len E _ z _ dR
  obtain⟨bE,tf⟩:=au dR
  split at h<;>try (cases h;done)
  rename_i te tH
  obtain⟨AE,qt⟩:=au tH
  split at h<;>try (cases h;done)
  rename_i pv H7
  split at h<;>try (cases h;done)
  rename_i l hl
  cases h
  intro s' mT f hf K E hK
  simp only[execOp,heq,Instr.build,aa,jT tf,bh tf,eo tf,cm qt]
  rw[ki] at hl
  have h1:=fill_eq _ _ _ _ hl
  simp only[hf.u2 H7,h1,af]
  exact hK
theorem y6(h:aay P n e o=some v):Yields P n e o s v:=by
 unfold aay at h
 split at h
 ·rename_i c x y heq
  split at h<;>try (cases h;done)
  ·rename_i hc
   intro s' _ f hf K E hK
   simp only[execOp,heq,hf _ _ hc,hf _ _ h]
   exact hK
  ·rename_i hc
   intro s' _ f hf K E hK
   simp only[execOp,heq,hf _ _ hc,hf _ _ h]
   exact hK
 ·rename_i g x y heq
  split at h<;>try (cases h;done)
  rename_i x' hx
  split at h<;>try (cases h;done)
  rename_i y' hy
  cases h
  intro s' _ f hf K E hK
  simp only[execOp,heq,hf.arr hx,hf.arr hy]
  exact hK
 ·rename_i T ps heq;exact Zh heq h
 ·rename_i x T heq
  unfold azk at h
  split at h<;>try (cases h;done)
  ·rename_i dR
   obtain⟨bE,tf⟩:=au dR
   split at h<;>try (cases h;done)
   rename_i hx
   cases h
   intro s' _ f hf K E hK
   simp only[execOp,heq,resolve,invoke,builtin,Builtin.len_,List.map_toArray,List.map_cons,List.map_nil,hf _ _ hx,af,List.getElem?_toArray,List.getElem?_cons_zero,bh tf,aa]
   exact hK
  ·rename_i dR
   obtain⟨bE,tf⟩:=au dR
   split at h<;>try (cases h;done)
   rename_i hx
   cases h
   intro s' _ f hf K E hK
   simp only[execOp,heq,resolve,invoke,builtin,Builtin.len_,List.map_toArray,List.map_cons,List.map_nil,hf _ _ hx,af,List.getElem?_toArray,List.getElem?_cons_zero,bh tf,aa]
   exact hK
 ·exact ai6 h
end val
def ldv(P:Program)(T:TypeId)(l:List Value)(off:Nat):Option Value:=
 match ba P T with
 |some ti=>bif ti.agg then (match sub l off ti.size with
  |some vs=>some (.agg ⟨vs⟩)
  |none=>none) else nth l off
 |none=>none
theorem ac1{v:Value}{b:Nat}{t:TypeId}(heq:o.op= .load T x)(hx:bu n e x=some (.pointer (some ⟨b,off,none⟩)))(hb:s.has b (.cells ⟨l⟩ t fz))(h:ldv P T l off=some v):Yields P n e o s v:=by
 unfold ldv at h
 split at h<;>try (cases h;done)
 rename_i ti dR
 obtain⟨bE,tf⟩:=au dR
 intro s' hs f hf K E hK
 cases ha:ti.agg with
 |true=>
  rw[ha] at h tf
  simp only[cond_true] at h
  split at h<;>try (cases h;done)
  rename_i vs Dm
  cases h
  simp only[execOp,heq,Instr.loadAt,hf _ _ hx,Instr.sureAddr,loadVar,aa,af,j9 tf,if_true,cm tf]
  exact iJ ⟨_,_,_,hs _ _ hb,Dm⟩ hK
 |false=>
  rw[ha] at h tf
  simp only[cond_false] at h
  simp only[execOp,heq,Instr.loadAt,hf _ _ hx,Instr.sureAddr,loadVar,aa,af,j9 tf,Bool.false_eq_true,if_false]
  exact uR ⟨_,_,_,hs _ _ hb,h⟩ hK
theorem aq2{v:Value}{b m:Nat}(k:Nat)(heq:o.op= .load T x)(hx:bu n e x=some (.pointer (some ⟨b,off+k,none⟩)))(hb:cA s b off m l)(h:ldv P T l k=some v):Yields P n e o s v:=by
 unfold ldv at h
 split at h<;>try (cases h;done)
 rename_i ti dR
 obtain⟨bE,tf⟩:=au dR
 intro s' hs f hf K E hK
 cases ha:ti.agg with
 |true=>
  rw[ha] at h tf
  simp only[cond_true] at h
  split at h<;>try (cases h;done)
  rename_i vs Dm
  cases h
  simp only[execOp,heq,Instr.loadAt,hf _ _ hx,Instr.sureAddr,loadVar,aa,af,j9 tf,if_true,cm tf]
  exact iJ ((hb.ext hs).part k ti.size Dm) hK
 |false=>
  rw[ha] at h tf
  simp only[cond_false] at h
  simp only[execOp,heq,Instr.loadAt,hf _ _ hx,Instr.sureAddr,loadVar,aa,af,j9 tf,Bool.false_eq_true,if_false]
  exact uR ((hb.ext hs).cell k v (by rw[←rk];exact h)) hK
structure Cx where
 P:Program
 C:Class
 hC:∀main T,C main T→Closed P main T
 hm:P.follows .mixedOrders=true
 fn:FuncId
 aC:Option Nat
 n:Nat
 D:List Deferred
 ro:Nat→Option Obj
 Q:Post
def Cx.at(X:Cx)(ro:Nat→Option Obj):Cx:={X with ro:=ro}
inductive KI where
 |seq (b:Code)
 |block (id:Nat)
 |next (K:Act→St→Prop)
inductive Sg where
 |b (i:Nat) (o:Obj)
 |l (L:Cells)
def den:List Sg→Cells
 | []=>[]
 | [.l L]=>L
 | .b i o::r=>(i,o)::den r
 | .l L::r=>L++den r
theorem iC(i:Nat)(o:Obj)(r:List Sg):den (.b i o::r)=(i,o)::den r:=by cases r<;>rfl
theorem gv(L:Cells)(r:List Sg):den (.l L::r)=L++den r:=by cases r<;>simp[den]
inductive Pos where
 |ops (ops:Array Oper) (todo:List Nat) (k:List KI)
 |code (c:Code) (k:List KI)
 |nxt (K:Act→St→Prop)
 |GK (ops:Array Oper) (base:Env) (Pl Sl:List (Nat×Value)) (k:List KI)
 |fin (e:Exit)
structure Kn where
 c:Cells
 nd:List (Nat×Cells)
variable {kn:Kn}
structure JS where
 pos:Pos
 env:Env
 rw:List Sg
 kn:Kn
variable {s':JS}
def KQ(X:Cx):List KI→Post
 | []=>X.Q
 | .seq b::k=>lP (fun a s=>Wp X.C X.fn X.aC b (KQ X k) a s) (KQ X k)
 | .block id::k=>qk id (KQ X k)
 | .next K::k=>lP K (KQ X k)
def Cs:Op→Bool
 | .load .. =>false
 | .lookup .. =>false
 | .call ⟨.value _,_,_⟩=>false
 | .call ⟨.invoke ..,_,_⟩=>false
 |_=>true
def vx(ops:Array Oper)(n:Nat)(e:Env):Option (Nat×Bool)→Option Bool
 |none=>some true
 |some (j,want)=>match aS ops j with
  |some d=>match bu n e (.tmp d) with
   |some (.bool true)=>some want
   |some (.bool false)=>some (!want)
   |some (.tuple ⟨[]⟩)=>some false
   |_=>none
  |none=>none
def sa(ops:Array Oper)(n:Nat)(base:Env)(Pl:List (Nat×Value))(j:Nat):Bool:=match ops[j]? with
 |some p=>Cs p.op||(match vx ops n (cq ops base j Pl) p.guard with
  |some false=>true
  |_=>false)
 |none=>false
def PF(X:Cx)(nd:List (Nat×Cells))(ops:Array Oper)(base:Env)(Pl Sl:List (Nat×Value)):Prop:=
 (∀j u,(j,u)∈Sl→sa ops X.n base Pl j=true→∀s,eS X.C X.fn X.aC ops X.n X.D j u (cq ops base j Pl) s)∧
 ∀j u B,(j,u)∈Sl→(j,B)∈nd→∀s,Ext ⟨X.ro,[]⟩ s→(∀x∈B,s.has x.1 x.2)→eS X.C X.fn X.aC ops X.n X.D j u (cq ops base j Pl) s
def ndK:List (Nat×Cells)→List Nat
 | []=>[]
 | (i,_)::l=>i::ndK l
theorem KZ{i:Nat}{B:Cells}:∀ {l:List (Nat×Cells)},(i,B)∈l→i∈ndK l
 | (j,C)::l,h=>by
  simp only[ndK]
  rcases List.mem_cons.1 h with h|h
  ·cases h;exact List.mem_cons_self
  ·exact List.mem_cons_of_mem _ (KZ h)
def JP(X:Cx)(kn:Kn)(e:Env)(w:List Sg):Pos→Prop
 | .ops ops todo k=>ab X.C X.fn X.aC ops todo (KQ X k) (A X.n e X.D) ⟨X.ro,den w⟩
 | .code c k=>Wp X.C X.fn X.aC c (KQ X k) (A X.n e X.D) ⟨X.ro,den w⟩
 | .nxt K=>K (A X.n e X.D) ⟨X.ro,den w⟩
 | .GK ops base Pl Sl k=>PF X kn.nd ops base Pl Sl→sS X.C X.fn X.aC ops X.n X.D base Pl Sl (KQ X k) ⟨X.ro,den w⟩
 | .fin e'=>X.Q e' (A X.n e X.D) ⟨X.ro,den w⟩
def J(X:Cx):Option JS→Prop
 |none=>False
 |some s=>Knows X.ro s.kn.c→JP X s.kn s.env s.rw s.pos
def Of:List KI→Pos
 | []=> .fin .normal
 | .seq b::k=> .code b k
 | .block _::k=>Of k
 | .next K::_=> .nxt K
theorem tq{X:Cx}{w:List Sg}:∀ {k:List KI},JP X kn e w (Of k)→KQ X k .normal (A X.n e X.D) ⟨X.ro,den w⟩
 | [],h=>h
 | .seq _::_,h=>h
 | .block _::k,h=>tq (k:=k) h
 | .next _::_,h=>h
def As(id:Nat):List KI→Option Pos
 | []=>some (.fin (.exit id))
 | .seq _::k=>As id k
 | .block i::k=>bif Nat.beq id i then some (Of k) else As id k
 | .next _::k=>As id k
theorem vI{X:Cx}{w:List Sg}{id:Nat}{p:Pos}:∀ {k:List KI},As id k=some p→JP X kn e w p→KQ X k (.exit id) (A X.n e X.D) ⟨X.ro,den w⟩
 | [],h,hj=>by simp only[As,Option.some.injEq] at h;subst h;exact hj
 | .seq _::k,h,hj=>vI (k:=k) h hj
 | .next _::k,h,hj=>vI (k:=k) h hj
 | .block i::k,h,hj=>by
  simp only[As] at h
  cases hb:Nat.beq id i with
  |true=>
   rw[hb] at h;simp only[cond_true,Option.some.injEq] at h;subst h
   have:=Nat.eq_of_beq_eq_true hb;subst this
   exact CV (tq hj)
  |false=>
   rw[hb] at h;simp only[cond_false] at h
   exact CU hb (vI (k:=k) h hj)
theorem zd{X:Cx}{a:Act}(h:X.Q .ret a s):∀(k:List KI),KQ X k .ret a s
 | []=>h
 | .seq _::k=>zd h k
 | .next _::k=>zd h k
 | .block _::k=>zd h k
def axD:Op→Bool
 | .move _| .assign _| .pick .. | .makeFunc .. | .extract .. | .nilCheck _| .fieldAddr .. | .makeInterface .. | .indexAddr .. | .index .. | .field .. | .binOp .. | .unOp .. | .convert .. | .build .. | .load .. | .lookup .. | .slice .. =>true
 | .call ⟨.builtin .len,_,_⟩| .call ⟨.builtin .cap,_,_⟩| .call ⟨.builtin .min,_,_⟩| .call ⟨.builtin .max,_,_⟩=>true
 |_=>false
def axE(ops:Array Oper)(i:Nat):Bool:=match ops[i]? with
 |some o=>axD o.op
 |none=>false
def enabled(ops:Array Oper)(ks:List Nat)(i:Nat):Bool:= !bk i ks&&fH (bw ops i) ks
def agd(f:Nat→Bool):Nat→Nat→Option Nat
 |0,_=>none
 |k+1,i=>bif f i then some i else agd f k (i+1)
def alK(ops:Array Oper)(ks:List Nat):Option Nat:=
 match agd (fun i=>enabled ops ks i&&axE ops i) ops.size 0 with
 |some i=>some i
 |none=>agd (enabled ops ks) ops.size 0
def p5(n:Nat):JS→Option (Bool×Oper×Env)
 | ⟨.ops ops (i::_) _,e,_,_⟩=>match ops[i]? with
  |some o=>match vx ops n e o.guard with
   |some g=>some (g,o,e)
   |none=>none
  |none=>none
 | ⟨.GK ops base Pl _ _,_,_,_⟩=>match alK ops (ak Pl) with
  |some i=>match ops[i]? with
   |some o=>match vx ops n (cq ops base i Pl) o.guard with
    |some g=>some (g,o,cq ops base i Pl)
    |none=>none
   |none=>none
  |none=>none
 |_=>none
def E6(v:Value):JS→Option JS
 | ⟨.ops ops (i::todo) k,e,w,kn⟩=>match ops[i]? with
  |some o=>some ⟨.ops ops todo k,upd o.dst v e,w,kn⟩
  |none=>none
 | ⟨.GK ops base Pl Sl k,e,w,kn⟩=>match alK ops (ak Pl) with
  |some i=>bif !bk i (ak Pl)&&(fH (bw ops i) (ak Pl)&&(oG ops (ak Pl)&&(fH (ak Sl) (ak Pl)&& !bk i (ndK kn.nd)))) then some ⟨.GK ops base ((i,v)::Pl) ((i,v)::Sl) k,e,w,kn⟩ else none
  |none=>none
 |_=>none
theorem nB{ops:Array Oper}{g:Option (Nat×Bool)}(h:vx ops n e g=some true)(rest:Env):az ops n (e++rest) g=true:=by
 unfold vx at h
 split at h
 ·rfl
 ·rename_i j want
  split at h<;>try (cases h;done)
  rename_i d hd
  have hd:(ops[j]?).bind (·.dst)=some d:=hd
  split at h<;>try (cases h;done)
  ·rename_i hb;simp only[Option.some.injEq] at h;subst h
   exact sX hd (bn hb) rfl
  ·rename_i hb;simp only[Option.some.injEq,Bool.not_eq_true'] at h;subst h
   exact sX hd (bn hb) rfl
section
variable {X:Cx}
theorem yA{ops:Array Oper}{i:Nat}{Q:Post}(ho:ops[i]?=some o) (h:vx ops X.n e o.guard=some false) (rest:Env) (hk:ab X.C X.fn X.aC ops todo Q (A X.n (upd o.dst undef (e++rest)) X.D) s):ab X.C X.fn X.aC ops (i::todo) Q (A X.n (e++rest) X.D) s:=by
 unfold vx at h
 split at h
 ·cases h
 ·rename_i j want hg
  split at h<;>try (cases h;done)
  rename_i d hd
  have hd:(ops[j]?).bind (·.dst)=some d:=hd
  split at h<;>try (cases h;done)
  ·rename_i hb;simp only[Option.some.injEq] at h;subst h
   exact tA X.hC ho hg hd (bn hb) rfl hk
  ·rename_i hb;simp only[Option.some.injEq,Bool.not_eq_false'] at h;subst h
   exact tA X.hC ho hg hd (bn hb) rfl hk
  ·rename_i hb
   rcases o with ⟨dst,op,ty,pos,dc,g⟩
   dsimp only at hg;subst hg
   exact ajA X.hC ho hd (bn hb) hk
def Hh(X:Cx)(e:Env)(o:Oper)(s:St)(v:Value):Prop:=
 ∀(ops:Array Oper) (i:Nat),ops[i]?=some o→∀rest,az ops X.n (e++rest) o.guard=true→∀s',Ext s s'→∀todo Q,ab X.C X.fn X.aC ops todo Q (A X.n (upd o.dst v (e++rest)) X.D) s'→ab X.C X.fn X.aC ops (i::todo) Q (A X.n (e++rest) X.D) s'
theorem jyS{s:JS}{g:Bool}{v:Value}(hh:p5 X.n s=some (g,o,e))(hp:E6 v s=some s')
 (hv:match g with|true=>(Knows X.ro s.kn.c→Hh X e o ⟨X.ro,den s.rw⟩ v)∧(Cs o.op=true→∀s,Hh X e o s v)|false=>v=undef)(hj:J X (some s')):J X (some s):=by
 intro bW
 rcases s with ⟨p,e0,w,kn⟩
 cases p with
 |ops ops todo k=>
  cases todo with
  |nil=>cases hh
  |cons i todo=>
   simp only[p5] at hh
   split at hh<;>try (cases hh;done)
   rename_i o1 ho
   split at hh<;>try (cases hh;done)
   rename_i g1 hg
   cases hh
   simp only[E6,ho,Option.some.injEq] at hp;subst hp
   have hk:ab X.C X.fn X.aC ops todo (KQ X k) (A X.n (upd o.dst v e) X.D) ⟨X.ro,den w⟩:=hj bW
   show ab X.C X.fn X.aC ops (i::todo) (KQ X k) (A X.n e X.D) ⟨X.ro,den w⟩
   cases g with
   |true=>
    have:=hv.1 bW ops i ho [] (nB hg []) _ (Ext.refl _) todo (KQ X k)
    rw[List.append_nil] at this
    exact this hk
   |false=>
    dsimp only at hv;subst hv
    have:=yA (Q:=KQ X k) (s:=⟨X.ro,den w⟩) (todo:=todo) ho hg []
    rw[List.append_nil] at this
    exact this hk
 |GK ops base Pl Sl k=>
  simp only[p5] at hh
  split at hh<;>try (cases hh;done)
  rename_i i hi
  split at hh<;>try (cases hh;done)
  rename_i o1 ho
  split at hh<;>try (cases hh;done)
  rename_i g1 hg
  cases hh
  simp only[E6,hi] at hp
  cases hc:(!bk i (ak Pl)&&(fH (bw ops i) (ak Pl)&&(oG ops (ak Pl)&&(fH (ak Sl) (ak Pl)&& !bk i (ndK kn.nd))))) with
  |false=>rw[hc] at hp;cases hp
  |true=>
   rw[hc] at hp;simp only[cond_true,Option.some.injEq] at hp;subst hp
   simp only[Bool.and_eq_true,Bool.not_eq_true'] at hc
   have Dt:aS ops i=o.dst:=by simp only[aS,ho,Option.bind_some]
   intro hpf
   have qo:∀j,j∈ak Sl→i∉bw ops j:=fun j hj hd=>by
    have h1:=bK.1 hc.2.2.2.1 j hj
    have h2:=bK.1 (List.all_eq_true.1 hc.2.2.1 j h1) i hd
    rw[aL.2 h2] at hc;exact absurd hc.1 (by simp)
   refine He i hc.1 hc.2.1 hc.2.2.1 hc.2.2.2.1 ?_ (hj bW ⟨fun j u Hz hp s0=>?_,fun j u B Hz hB s0 FO uC=>?_⟩)
   ·intro s1 hx rest todo Q hk
    rw[Dt] at hk
    cases g with
    |true=>exact hv.1 bW ops _ ho rest (nB hg rest) _ hx _ _ hk
    |false=>dsimp only at hv;subst hv;exact yA ho hg rest hk
   ·have hii:i∉bw ops i:=fun hd=>by
     have h2:=bK.1 hc.2.1 i hd
     rw[aL.2 h2] at hc;exact absurd hc.1 (by simp)
    rcases List.mem_cons.1 Hz with h1|h1
    ·obtain⟨yT,rfl⟩:=Prod.mk.inj h1
     subst yT
     rw[cR hii]
     intro s1 hx rest todo Q hk
     rw[Dt] at hk
     cases g with
     |true=>
      have hpk:Cs o.op=true:=by
       simp only[sa,ho,cR hii,hg,Bool.or_false] at hp
       exact hp
      exact hv.2 hpk s0 ops _ ho rest (nB hg rest) _ hx _ _ hk
     |false=>dsimp only at hv;subst hv;exact yA ho hg rest hk
    ·have Ng:j∈ak Sl:=aR.2 ⟨u,h1⟩
     rw[cR (qo j Ng)]
     exact hpf.1 j u h1 (by simp only[sa,cR (qo j Ng)] at hp;exact hp) s0
   ·rcases List.mem_cons.1 Hz with h1|h1
    ·obtain⟨yT,rfl⟩:=Prod.mk.inj h1
     subst yT
     have:=KZ hB
     rw[aL.2 this] at hc;exact absurd hc.2.2.2.2 (by simp)
    ·rw[cR (qo j (aR.2 ⟨u,h1⟩))]
     exact hpf.2 j u B h1 hB s0 FO uC
 |_=>cases hh
def ajp(B:Cells)(v:Value):JS→Option JS
 | ⟨.ops ops (i::todo) k,e,w,kn⟩=>match ops[i]? with
  |some o=>some ⟨.ops ops todo k,upd o.dst v e,w,kn⟩
  |none=>none
 | ⟨.GK ops base Pl Sl k,e,w,kn⟩=>match alK ops (ak Pl) with
  |some i=>bif !bk i (ak Pl)&&(fH (bw ops i) (ak Pl)&&(oG ops (ak Pl)&&(fH (ak Sl) (ak Pl)&& !bk i (ndK kn.nd)))) then some ⟨.GK ops base ((i,v)::Pl) ((i,v)::Sl) k,e,w,⟨kn.c,(i,B)::kn.nd⟩⟩ else none
  |none=>none
 |_=>none
theorem jyN{s:JS}{v:Value}{B:Cells}(hh:p5 X.n s=some (true,o,e))(hp:ajp B v s=some s')(hB:∀x∈B,(⟨X.ro,den s.rw⟩:St).has x.1 x.2)(hnp:Cs o.op=false)
 (hv:∀s0,Ext ⟨X.ro,[]⟩ s0→(∀x∈B,s0.has x.1 x.2)→Hh X e o s0 v)(hj:J X (some s')):J X (some s):=by
 intro bW
 rcases s with ⟨p,e0,w,kn⟩
 cases p with
 |ops ops todo k=>
  have:E6 v ⟨.ops ops todo k,e0,w,kn⟩=some s':=by
   cases todo with
   |nil=>cases hh
   |cons i todo=>exact hp
  exact jyS hh this ⟨fun _=>hv _ Mi hB,fun h=>by rw[hnp] at h;cases h⟩ hj bW
 |GK ops base Pl Sl k=>
  simp only[p5] at hh
  split at hh<;>try (cases hh;done)
  rename_i i hi
  split at hh<;>try (cases hh;done)
  rename_i o1 ho
  split at hh<;>try (cases hh;done)
  rename_i g1 hg
  cases hh
  simp only[ajp,hi] at hp
  cases hc:(!bk i (ak Pl)&&(fH (bw ops i) (ak Pl)&&(oG ops (ak Pl)&&(fH (ak Sl) (ak Pl)&& !bk i (ndK kn.nd))))) with
  |false=>rw[hc] at hp;cases hp
  |true=>
   rw[hc] at hp;simp only[cond_true,Option.some.injEq] at hp;subst hp
   simp only[Bool.and_eq_true,Bool.not_eq_true'] at hc
   have Dt:aS ops i=o.dst:=by simp only[aS,ho,Option.bind_some]
   intro hpf
   have qo:∀j,j∈ak Sl→i∉bw ops j:=fun j hj hd=>by
    have h1:=bK.1 hc.2.2.2.1 j hj
    have h2:=bK.1 (List.all_eq_true.1 hc.2.2.1 j h1) i hd
    rw[aL.2 h2] at hc;exact absurd hc.1 (by simp)
   have hii:i∉bw ops i:=fun hd=>by
    have h2:=bK.1 hc.2.1 i hd
    rw[aL.2 h2] at hc;exact absurd hc.1 (by simp)
   have bS:∀s0,Ext ⟨X.ro,[]⟩ s0→(∀x∈B,s0.has x.1 x.2)→eS X.C X.fn X.aC ops X.n X.D i v (cq ops base i Pl) s0:=by
    intro s0 FO uC s1 hx rest todo Q hk
    rw[Dt] at hk
    exact hv s0 FO uC ops _ ho rest (nB hg rest) _ hx _ _ hk
   have aPd:sa ops X.n base ((i,v)::Pl) i=false:=by
    simp only[sa,ho,hnp,cR hii,hg,Bool.or_false]
   refine He i hc.1 hc.2.1 hc.2.2.1 hc.2.2.2.1 (bS _ Mi hB) (hj bW ⟨fun j u Hz hp s0=>?_,fun j u B' Hz hB' s0 FO uC=>?_⟩)
   ·rcases List.mem_cons.1 Hz with h1|h1
    ·obtain⟨yT,rfl⟩:=Prod.mk.inj h1
     subst yT
     rw[aPd] at hp;cases hp
    ·have Ng:j∈ak Sl:=aR.2 ⟨u,h1⟩
     rw[cR (qo j Ng)]
     exact hpf.1 j u h1 (by simp only[sa,cR (qo j Ng)] at hp;exact hp) s0
   ·rcases List.mem_cons.1 Hz with h1|h1
    ·obtain⟨yT,rfl⟩:=Prod.mk.inj h1
     subst yT
     rw[cR hii]
     rcases List.mem_cons.1 hB' with h2|h2
     ·cases h2;exact bS s0 FO uC
     ·have:=KZ h2
      rw[aL.2 this] at hc;exact absurd hc.2.2.2.2 (by simp)
    ·have Ng:j∈ak Sl:=aR.2 ⟨u,h1⟩
     rw[cR (qo j Ng)]
     rcases List.mem_cons.1 hB' with h2|h2
     ·obtain⟨yT,rfl⟩:=Prod.mk.inj h2
      subst yT
      have h3:=bK.1 hc.2.2.2.1 _ Ng
      rw[aL.2 h3] at hc;exact absurd hc.1 (by simp)
     ·exact hpf.2 j u B' h1 h2 s0 FO uC
 |_=>cases hh
theorem jy{s:JS}{g:Bool}{v:Value}(hh:p5 X.n s=some (g,o,e))(hp:E6 v s=some s')
 (hv:match g with|true=>eF o.op=true∧(Knows X.ro s.kn.c→Yields X.P X.n e o ⟨X.ro,den s.rw⟩ v)∧(Cs o.op=true→∀s,Yields X.P X.n e o s v)|false=>v=undef)(hj:J X (some s')):J X (some s):=by
 refine jyS hh hp ?_ hj
 cases g with
 |true=>exact⟨fun bW ops i ho rest hw s' hx todo Q hk=>lG X.hC ho rest hw hv.1 (hv.2.1 bW) hx hk,fun hp s ops i ho rest hw s' hx todo Q hk=>lG X.hC ho rest hw hv.1 (hv.2.2 hp s) hx hk⟩
 |false=>exact hv
end
end Go.L

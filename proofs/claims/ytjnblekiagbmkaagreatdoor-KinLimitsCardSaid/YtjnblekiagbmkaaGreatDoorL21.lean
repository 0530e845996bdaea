/- Part 21 of the proof: a program logic, contracts, a theorem on goroutines. -/
import Derived.Test.YtjnblekiagbmkaaGreatDoorL20
set_option maxRecDepth 100000
set_option linter.all false
namespace Go.L
open Go Go.Conc Go.Proofs
variable {l:List Value} {T R:Nat→Nat→Int} {n:Int} {seen:List Nat} {ck i q j fc:Nat} {xs:List Int} {v0 v1 v3 v5 v6 v7 vb vd:Value}
structure DI where
 f:Bool
 a:Int
 b:Int
 w:Int
def agn(m:jH)(n:Int)(i j:Nat):Int:=max (m.c i j) (n-m.c i j)
def HZ(m:jH)(n:Int)(i:Nat)(s:DI):Nat→DI
 |0=>s
 |j+1=>if agn m n i j <(HZ m n i s j).w then ⟨true,i,j,agn m n i j⟩ else HZ m n i s j
def ago(m:jH)(n:Int)(w:Nat):Nat→DI
 |0=>⟨false,0,0,n⟩
 |i+1=>HZ m n i (ago m n w i) w
def ald(s:DI):Int×Int×Int×Int:=bif s.f then (s.a,s.b,s.w,0) else (0,0,0,11)
theorem aue{m:jH}{s:DI}{f:Bool}{a b w:Int}(h:(⟨f,a,b,w⟩:DI)=HZ m n i s j)(h2:agn m n i j <w):(⟨true,i,j,agn m n i j⟩:DI)=HZ m n i s (j+1):=by rw[HZ,←h,if_pos h2]
theorem auf{m:jH}{s:DI}{f:Bool}{a b w:Int}(h:(⟨f,a,b,w⟩:DI)=HZ m n i s j)(h2:¬agn m n i j <w):(⟨f,a,b,w⟩:DI)=HZ m n i s (j+1):=by rw[HZ,←h,if_neg h2]
theorem aqk{K:bk}{rows:List bU}{ro:Nat→Option Obj}(hK:gV ro l K)(hV:gT K)(hR:rows.length≤2)(hB:mT ro l K rows)(hCt:AI):G0 zT 30 [.agg ⟨l⟩] ro [] (fun r Y=>∃zs v e,zs.Perm (gB K (eP K) (eY K.gone K.new K.af) rows)∧r= .tuple ⟨[v,zI e]⟩∧((zs=[]∧v= zS∧e=9∧Y=[])∨(zs≠[]∧e=0∧∀aL,Knows aL Y→LL aL v (xG (aK zs) ((zs.length:Nat):Int) K.after.length K.before.length)))):=by
 obtain⟨v0,v1,v3,v4,v5,v6,v7,vb,fa,fc,hv,rfl,_⟩:=id hK
 refine HC au [] [] bn fun fr=>zD 2<|jn fun b1=>jd 6 [0]<|KE (vs:=[.agg ⟨[v0,v1,.slice fa 0 fc,v3,v4,v5,v6,v7,zI K.gone,zI K.new,zI K.af,vb]⟩,.func (.func 67) ⟨[]⟩ ⟨[]⟩]) [] (fun _ _ h=>h) (aju hK hV hR hB hCt) ?_
 rintro _ Y5 ⟨zs,v5,e5,hz,rfl,hcs⟩
 refine zD 6<|RI qC (.tuple ⟨[v5,zI e5]⟩) [0,2] Y5 (Sub.refl _) ⟨zs,v5,e5,hz,rfl,hcs⟩
theorem aM4{K:bk}{rows:List bU}{ro:Nat→Option Obj}(hK:gV ro l K)(hV:gT K)(hR:rows.length≤2)(hB:mT ro l K rows)(hCt:AI):G0 zT 35 [.agg ⟨l⟩] ro [] (fun r Y=>∃zs a b w e,zs.Perm (gB K (eP K) (eY K.gone K.new K.af) rows)∧Y=[]∧r= .tuple ⟨[zI a,zI b,zI w,zI e]⟩∧((zs=[]∧a=0∧b=0∧w=0∧e=9)∨(zs≠[]∧(a,b,w,e)=ald (ago (aK zs) ((zs.length:Nat):Int) K.after.length K.before.length)))):=by
 obtain⟨v0,v1,v3,v4,v5,v6,v7,vb,fa,fc,hv,rfl,_⟩:=id hK
 refine HC au [] [] bn fun fr=>zD 2<|jn fun b1=>jd 8 [0]<|aqy (vs:=[.agg ⟨[v0,v1,.slice fa 0 fc,v3,v4,v5,v6,v7,zI K.gone,zI K.new,zI K.af,vb]⟩]) [] (fun _ _ h=>h) (acs hK hV hR hB) ?_
 rintro _ aA Y14 bW ⟨f14,zs,v14,LD,rfl,Le,hz,Sf,he⟩
 have ajT:∀x∈zs,(-4≤x.gone∧x.gone≤4)∧(-4≤x.new∧x.new≤4)∧(0≤x.af∧x.af≤4):=fun x hx=>by obtain⟨i,r,p,_,_,rfl,_⟩:=qu (hz.mem_iff.1 hx);exact sL hV r i p
 have hzl:zs.length≤1250:=by rw[hz.length_eq];exact wD hV _ _ hR
 have hpr:∀x∈zs,∀q,0≤pI x q∧pI x q≤4:=fun x hx=>by obtain⟨i,r,p,_,hp,rfl,_⟩:=qu (hz.mem_iff.1 hx);exact UO ((lX hV _).2 p hp)
 obtain⟨d0,d1,d2,d3,d4,d5,d6,d7,d8,d9,dh,hf,rO,oF,hr,Ds,HQ,I6,bM⟩:=id Le
 obtain⟨lK,J8,J6,kT,rfl,J7,EP,EO⟩:=Ds
 obtain⟨lL,Kb,J9,kU,rfl,Ka,ET,ES⟩:=HQ
 have FP:=hV.before.1
 have HK:=hV.after.1
 refine zD 7<|jf [0] Y14 (fun ro4 qD Zd=>?_)
 have hZ1:=Sf.nv Zd
 obtain⟨Bm,aa0,aaY,yf,rfl,aaZ,Rj,Ri⟩:=hZ1
 refine zD 7<|js 20 (!decide (LD=0)) (fun h5=>?_) (fun h5=>?_)
 ·
  replace h5:=of_decide_eq_false (by simpa using h5)
  have xK:zs=[]∧LD=9:=by rcases he with h| ⟨_,h⟩;exact h;omega
  refine zD 10<|RI qC.a.a (.tuple ⟨[zI 0,zI 0,zI 0,zI LD]⟩) [1] [] (bW.trans qD) ⟨zs,_,_,_,_,hz,rfl,rfl,.inl ⟨xK.1,rfl,rfl,rfl,xK.2⟩⟩
 replace h5:=of_decide_eq_true (by simpa using h5)
 have xK:zs≠[]∧LD=0:=by rcases he with ⟨_,h⟩|h;omega;exact h
 refine zD 5<|jc (vs:=[.slice Bm zs.length yf]) [] (hCt (show bK _ _ _ _ _ from ⟨Bm,aa0,aaY,yf,rfl,aaZ,Rj,Ri⟩) (by omega) hpr) ?_
 rintro _ _ ⟨rfl,rfl⟩
 refine jg 0 []<|jn fun b8=>jd 16 [0]<|jl (b:=f14) (off:=0) (m:=13) (vs:=[d0,d1,d2,d3,d4,d5,.slice lK K.before.length kT,.slice lL K.after.length kU,zI K.gone,zI K.new,zI K.af,d8,d9]) 6 ⟨_,_,_,.inl (qD _ _ hf),rfl⟩<|zD 4<|eN [1,1,1,1,1,0,1,0,0] [] (fun(zz:Nat×Bool×Int×Int×Int)=>[(2,zI zz.2.2.1),(3,zI zz.2.2.2.1),(4,zI zz.2.2.2.2),(5,zI LD),(6,zP f14),(7,.slice Bm zs.length yf),(8,zP b8),(9,.bool zz.2.1),(31,zI (K.before.length:Int)),(32,zI (zz.1:Int))]) (fun(zz:Nat×Bool×Int×Int×Int)=>[.b b8 (.cells ⟨[zI ((aK zs).c 0 0),zI ((aK zs).c 0 1),zI ((aK zs).c 0 2),zI ((aK zs).c 0 3),zI ((aK zs).c 1 0),zI ((aK zs).c 1 1),zI ((aK zs).c 1 2),zI ((aK zs).c 1 3),zI ((aK zs).c 2 0),zI ((aK zs).c 2 1),zI ((aK zs).c 2 2),zI ((aK zs).c 2 3),zI ((aK zs).c 3 0),zI ((aK zs).c 3 1),zI ((aK zs).c 3 2),zI ((aK zs).c 3 3)]⟩ 167 (0,0)),.b b1 (.cells ⟨[v0,v1,.slice fa 0 fc,v3,v4,v5,v6,v7,zI K.gone,zI K.new,zI K.af,vb]⟩ 40 (0,0)),.l fr]) (fun(zz:Nat×Bool×Int×Int×Int)=>zz.1≤K.before.length∧(⟨zz.2.1,zz.2.2.1,zz.2.2.2.1,zz.2.2.2.2⟩:DI)=(ago (aK zs) ((zs.length:Nat):Int) K.after.length zz.1)) (fun(zz:Nat×Bool×Int×Int×Int)=>K.before.length-zz.1) (⟨0,false,0,0,((zs.length:Nat):Int)⟩) ⟨by dsimp only;omega,rfl⟩ [0,1,2] ?_
 rintro⟨i,qf,qa,qb,qw⟩ hI K1 bF rest
 dsimp only at hI
 refine zD 5<|zJ 33 ((i:Int) <(K.before.length:Int)) (fun h6=>?_) fun h6=>?_
 ·
  refine zD 15<|jl (b:=f14) (off:=0) (m:=13) (vs:=[d0,d1,d2,d3,d4,d5,.slice lK K.before.length kT,.slice lL K.after.length kU,zI K.gone,zI K.new,zI K.af,d8,d9]) 7 ⟨_,_,_,.inl (qD _ _ hf),rfl⟩<|zD 4<|eN [1,1,1,1,1,0,1,0,0,1,1,0,0,1,1,0,0] [K1] (fun(zz:Nat×Bool×Int×Int×Int)=>[(2,zI zz.2.2.1),(3,zI zz.2.2.2.1),(4,zI zz.2.2.2.2),(5,zI LD),(6,zP f14),(7,.slice Bm zs.length yf),(8,zP b8),(9,.bool zz.2.1),(10,zI (i:Int)),(31,zI (K.before.length:Int)),(32,zI (i:Int)),(40,zI (K.after.length:Int)),(41,zI (zz.1:Int))]) (fun(zz:Nat×Bool×Int×Int×Int)=>[.b b8 (.cells ⟨[zI ((aK zs).c 0 0),zI ((aK zs).c 0 1),zI ((aK zs).c 0 2),zI ((aK zs).c 0 3),zI ((aK zs).c 1 0),zI ((aK zs).c 1 1),zI ((aK zs).c 1 2),zI ((aK zs).c 1 3),zI ((aK zs).c 2 0),zI ((aK zs).c 2 1),zI ((aK zs).c 2 2),zI ((aK zs).c 2 3),zI ((aK zs).c 3 0),zI ((aK zs).c 3 1),zI ((aK zs).c 3 2),zI ((aK zs).c 3 3)]⟩ 167 (0,0)),.b b1 (.cells ⟨[v0,v1,.slice fa 0 fc,v3,v4,v5,v6,v7,zI K.gone,zI K.new,zI K.af,vb]⟩ 40 (0,0)),.l fr]) (fun(zz:Nat×Bool×Int×Int×Int)=>zz.1≤K.after.length∧(⟨zz.2.1,zz.2.2.1,zz.2.2.2.1,zz.2.2.2.2⟩:DI)=(HZ (aK zs) ((zs.length:Nat):Int) i (ago (aK zs) ((zs.length:Nat):Int) K.after.length i) zz.1)) (fun(zz:Nat×Bool×Int×Int×Int)=>K.after.length-zz.1) (⟨0,qf,qa,qb,qw⟩) ⟨by dsimp only;omega,hI.2⟩ [0,1,2] ?_
  rintro⟨j,qf,qa,qb,qw⟩ hJ K2 mL rest
  dsimp only at hJ
  refine zD 5<|zJ 42 ((j:Int) <(K.after.length:Int)) (fun h7=>?_) fun h7=>?_
  ·
   refine zD 10 ?_
   have iO:=Tc zs i j
   refine zD 3<|IZ (b:=b8) (off:=0) (len:=4) (sz:=4) (i:Int) (by omega)<|IZ (b:=b8) (off:=0+(i:Int).toNat*4) (len:=4) (sz:=1) (j:Int) (by omega)<|oV (b:=b8) (off:=0+(i:Int).toNat*4+(j:Int).toNat*1) (m:=1) (vs:=[zI ((aK zs).c i j)]) 0 [0] [(b8,.cells ⟨[zI ((aK zs).c 0 0),zI ((aK zs).c 0 1),zI ((aK zs).c 0 2),zI ((aK zs).c 0 3),zI ((aK zs).c 1 0),zI ((aK zs).c 1 1),zI ((aK zs).c 1 2),zI ((aK zs).c 1 3),zI ((aK zs).c 2 0),zI ((aK zs).c 2 1),zI ((aK zs).c 2 2),zI ((aK zs).c 2 3),zI ((aK zs).c 3 0),zI ((aK zs).c 3 1),zI ((aK zs).c 3 2),zI ((aK zs).c 3 3)]⟩ 167 (0,0))] (fun s _ hZ=>sC (hZ _ (.head _)) (DX (m:=aK zs) (by omega) (by omega)))<|zD 4<|IZ (b:=b8) (off:=0) (len:=4) (sz:=4) (i:Int) (by omega)<|IZ (b:=b8) (off:=0+(i:Int).toNat*4) (len:=4) (sz:=1) (j:Int) (by omega)<|oV (b:=b8) (off:=0+(i:Int).toNat*4+(j:Int).toNat*1) (m:=1) (vs:=[zI ((aK zs).c i j)]) 0 [0] [(b8,.cells ⟨[zI ((aK zs).c 0 0),zI ((aK zs).c 0 1),zI ((aK zs).c 0 2),zI ((aK zs).c 0 3),zI ((aK zs).c 1 0),zI ((aK zs).c 1 1),zI ((aK zs).c 1 2),zI ((aK zs).c 1 3),zI ((aK zs).c 2 0),zI ((aK zs).c 2 1),zI ((aK zs).c 2 2),zI ((aK zs).c 2 3),zI ((aK zs).c 3 0),zI ((aK zs).c 3 1),zI ((aK zs).c 3 2),zI ((aK zs).c 3 3)]⟩ 167 (0,0))] (fun s _ hZ=>sC (hZ _ (.head _)) (DX (m:=aK zs) (by omega) (by omega)))<|ja ((zs.length:Int)-((aK zs).c i j)) (by omega)<|jmx (k:= .i64) (a:=((aK zs).c i j)) (b:=((zs.length:Int)-((aK zs).c i j)))<|zD 8<|zJ 60 ((max ((aK zs).c i j) ((zs.length:Int)-((aK zs).c i j))) <qw) (fun h8=>?_) fun h8=>?_
   ·
    refine zD 11<|ja ((j:Int)+1) (by omega)<|zD 2<|bI mL (⟨j+1,true,(i:Int),(j:Int),(max ((aK zs).c i j) ((zs.length:Int)-((aK zs).c i j)))⟩) ⟨by dsimp only;omega,aue hJ.2 (by assumption)⟩ (by dsimp only;omega) [0,1,2] (Sub.refl _)
   refine zD 3<|ja ((j:Int)+1) (by omega)<|zD 2<|bI mL (⟨j+1,qf,qa,qb,qw⟩) ⟨by dsimp only;omega,auf hJ.2 (by assumption)⟩ (by dsimp only;omega) [0,1,2] (Sub.refl _)
  refine zD 3<|ja ((i:Int)+1) (by omega)<|zD 2<|bI bF (⟨i+1,qf,qa,qb,qw⟩) ⟨by dsimp only;omega,by have:=hJ.2;rw[show j=K.after.length by omega] at this;exact this⟩ (by dsimp only;omega) [0,1,2] (Sub.refl _)
 refine zD 8<|js 67 (!qf) (fun h9=>?_) (fun h9=>?_)
 ·
  try simp only[zB] at h9
  refine zD 9<|RI qC.a.a (.tuple ⟨[zI 0,zI 0,zI 0,zI 11]⟩) [2] [] (bW.trans qD) ⟨zs,_,_,_,_,hz,rfl,rfl,.inr ⟨xK.1,by have:=hI.2;rw[show i=K.before.length by omega] at this;rw[←this];simp only[ald];cases qf<;>first|rfl|contradiction|simp_all⟩⟩
 try simp only[zB] at h9
 refine zD 13<|RI qC.a.a (.tuple ⟨[zI qa,zI qb,zI qw,zI 0]⟩) [2] [] (bW.trans qD) ⟨zs,_,_,_,_,hz,rfl,rfl,.inr ⟨xK.1,by have:=hI.2;rw[show i=K.before.length by omega] at this;rw[←this];simp only[ald];cases qf<;>first|rfl|contradiction|simp_all⟩⟩
def Hn:Value→Int
 | .int _ n=>n
 |_=>0
def QH(f:P4→Int)(F:List (P4×Value)):Int:=(F.map fun x=>f x.1*Hn x.2).sum
def pk(x:ay):P4:=(x.w0,x.w1,x.w2,x.w3)
def aao(f:P4→Int)(zs:List ay):Int:=(zs.map fun x=>f (pk x)).sum
structure CF(F:List (P4×Value))(zs:List ay):Prop where
 sum:∀f,QH f F=aao f zs
 val:∀x∈F,∃n,x.2= zI n∧0≤n∧n≤zs.length
 key:∀x∈F,∃z∈zs,x.1=pk z
theorem CF.nil:CF [] []:=⟨fun _=>rfl,by simp,by simp⟩
theorem Ez{κ:Type}(g:κ×Value→Int):∀ {F:List (κ×Value)} {i:Nat} {k:κ} {u v:Value},F[i]?=some (k,u)→((tD k v F i).map g).sum=(F.map g).sum-g (k,u)+g (k,v)
 | [],_,_,_,_,h=>by simp at h
 |x::F,0,k,u,v,h=>by simp at h;subst h;simp only[tD,List.map_cons,List.sum_cons];omega
 |x::F,i+1,k,u,v,h=>by
  simp at h
  have:=Ez g (v:=v) h
  simp only[tD,List.map_cons,List.sum_cons];omega
theorem vy{κ:Type}:∀ {F:List (κ×Value)} {i:Nat} {k:κ} {v:Value} {x:κ×Value},x∈tD k v F i→x=(k,v)∨x∈F
 | [],_,_,_,_,h=>by cases h
 |y::F,0,k,v,x,h=>by
  rcases List.mem_cons.1 h with h|h
  ·exact .inl h
  exact .inr (List.mem_cons_of_mem _ h)
 |y::F,i+1,k,v,x,h=>by
  rcases List.mem_cons.1 h with h|h
  ·exact .inr (by rw[h];exact List.mem_cons_self)
  exact(vy h).imp id (List.mem_cons_of_mem _)
theorem CF.look{F:List (P4×Value)}{zs:List ay}(h:CF F zs)(k:P4):∃n,Oa (zI 0) false k F= zI n∧0≤n∧n≤zs.length:=by
 simp only[Oa,lkM]
 cases hf:rX k F 0 with
 |none=>exact⟨0,rfl,by omega,by omega⟩
 |some u=>
  obtain⟨j,u⟩:=u
  have:=(qj hf).2
  exact h.val _ (List.mem_of_getElem? this)
theorem CF.upd{F F1:List (P4×Value)}{zs:List ay}{x:ay}(h:CF F zs)(h1:((∃u,rX (pk x) F 0=some u)∧F1=F)∨(rX (pk x) F 0=none∧F1=F++[(pk x,zI 0)]))(hl:Oa (zI 0) false (pk x) F= zI n)(hn:0≤n∧n≤zs.length):CF (mi (pk x) (zI (n+1)) F1) (zs++[x]):=by
 have hz (f:P4→Int):aao f (zs++[x])=aao f zs+f (pk x):=by simp[aao]
 rcases h1 with ⟨⟨⟨j,u⟩,hf⟩,rfl⟩| ⟨hf,rfl⟩
 ·have hu:=qj hf
  simp only[Nat.sub_zero] at hu
  have qE:u= zI n:=by simpa [Oa,lkM,hf] using hl
  subst qE
  simp only[mi,hf]
  refine⟨fun f=>?_,fun y hy=>?_,fun y hy=>?_⟩
  ·rw[hz,←h.sum,QH,Ez _ hu.2,QH]
   simp only[Hn,Int.mul_add,Int.mul_one];omega
  ·rcases vy hy with rfl|hy
   ·exact⟨n+1,rfl,by omega,by simp;omega⟩
   obtain⟨m,h1,h2⟩:=h.val _ hy
   exact⟨m,h1,by omega,by simp;omega⟩
  rcases vy hy with rfl|hy
  ·exact⟨x,by simp,rfl⟩
  obtain⟨z,h1,h2⟩:=h.key _ hy
  exact⟨z,by simp[h1],h2⟩
 have qE:n=0:=by
  have:(Value.int .i64 0)= zI n:=by simpa [Oa,lkM,hf] using hl
  cases this;rfl
 subst qE
 have hs:mi (pk x) (zI (0+1)) (F++[(pk x,zI 0)])=tD (pk x) (zI (0+1)) (F++[(pk x,zI 0)]) (0+F.length):=by
  simp only[mi,Aj (v:= zI 0) hf]
 have hg:(F++[(pk x,Value.int .i64 0)])[0+F.length]?=some (pk x,zI 0):=by simp
 rw[hs]
 refine⟨fun f=>?_,fun y hy=>?_,fun y hy=>?_⟩
 ·rw[hz,←h.sum,QH,Ez _ hg,QH]
  simp[Hn]
 ·rcases vy hy with rfl|hy
  ·exact⟨0+1,rfl,by omega,by simp;omega⟩
  rcases List.mem_append.1 hy with hy|hy
  ·obtain⟨m,h1,h2⟩:=h.val _ hy
   exact⟨m,h1,by omega,by simp;omega⟩
  rw[List.mem_singleton] at hy;subst hy
  exact⟨0,rfl,by omega,by omega⟩
 rcases vy hy with rfl|hy
 ·exact⟨x,by simp,rfl⟩
 rcases List.mem_append.1 hy with hy|hy
 ·obtain⟨z,h1,h2⟩:=h.key _ hy
  exact⟨z,by simp[h1],h2⟩
 rw[List.mem_singleton] at hy;subst hy
 exact⟨x,by simp,rfl⟩
def fV(i j:Nat):Value→Int
 | .agg ⟨l⟩=>(match l[i]? with
  |some (.int _ n)=>if n=(j:Int)+1 then 1 else 0
  |_=>0)
 |_=>0
def su(i j:Nat)(l:List MapEntry):Int:=(l.map fun e=>fV i j e.key*Hn e.val).sum
theorem aap{F:List (P4×Value)}{es:Array MapEntry}(h:td G3 F es ck)(i j:Nat):su i j es.toList=QH (fun k=>fV i j (G3 k)) F:=by
 have h1:=congrArg (List.map fun p:Value×Value=>fV i j p.1*Hn p.2) h.1
 simp only[List.map_map] at h1
 unfold su QH
 exact congrArg List.sum h1
theorem M8(i j:Nat):∀ {l:List MapEntry} {e:MapEntry},(l.map (·.born)).Nodup→e∈l→su i j l=fV i j e.key*Hn e.val+su i j (l.filter fun x=> !decide (x.born=e.born))
 | [],_,_,h=>by cases h
 |x::l,e,hn,h=>by
  simp only[List.map_cons,List.nodup_cons] at hn
  rcases List.mem_cons.1 h with rfl|h
  ·have:l.filter (fun y=> !decide (y.born=e.born))=l:=by
    refine List.filter_eq_self.2 fun y hy=>?_
    have:y.born≠e.born:=fun h=>hn.1 (h▸List.mem_map_of_mem hy)
    simp[this]
   rw[List.filter_cons_of_neg (by simp),this];rfl
  have ee:x.born≠e.born:=fun k=>hn.1 (k▸List.mem_map_of_mem h)
  rw[List.filter_cons_of_pos (by simp[ee])]
  have:=M8 i j hn.2 h
  simp only[su,List.map_cons,List.sum_cons] at this ⊢
  omega
theorem RB(es:Array MapEntry)(seen:List Nat)(b:Nat):cy es (seen++[b])=(cy es seen).filter fun x=> !decide (x.born=b):=by
 simp only[cy,List.filter_filter]
 refine List.filter_congr fun x _=>?_
 simp only[List.contains_eq_mem,List.mem_append,List.mem_singleton,Bool.decide_or,Bool.not_or]
 rw[Bool.and_comm]
theorem Ii{F:List (P4×Value)}{es:Array MapEntry}(h:td G3 F es ck){e:MapEntry}(he:e∈cy es seen)(i j:Nat):su i j (cy es seen)=fV i j e.key*Hn e.val+su i j (cy es (seen++[e.born])):=by
 rw[RB]
 exact M8 i j ((List.filter_sublist.map _).nodup h.2.1) he
theorem anm(i j:Nat)(v:Value):fV i j v=0∨fV i j v=1:=by
 unfold fV
 split<;>try exact .inl rfl
 split<;>try exact .inl rfl
 split<;>simp
theorem M7{i j:Nat}:∀ {l:List MapEntry},(∀e∈l,0≤Hn e.val)→0≤su i j l
 | [],_=>Int.le_refl _
 |x::l,h=>by
  have h1:=M7 (i:=i) (j:=j) (l:=l) fun e he=>h e (List.mem_cons_of_mem _ he)
  have h2:=h x List.mem_cons_self
  simp only[su,List.map_cons,List.sum_cons] at h1 ⊢
  rcases anm i j x.key with h3|h3<;>rw[h3]<;>omega
theorem ah1{F:List (P4×Value)}{zs:List ay}(h:CF F zs){es:Array MapEntry}(hE:td G3 F es ck):∀e∈cy es seen,0≤Hn e.val:=fun e he=>by
 have h1:e∈es.toList:=(List.mem_filter.1 he).1
 have h2:(e.key,e.val)∈es.toList.map (fun e=>(e.key,e.val)):=List.mem_map_of_mem (f:=fun e:MapEntry=>(e.key,e.val)) h1
 rw[hE.1] at h2
 obtain⟨y,h3,h4⟩:=List.mem_map.1 h2
 obtain⟨n,h5,h6,_⟩:=h.val _ h3
 simp only[Prod.mk.injEq] at h4
 rw[←h4.2,h5];exact h6
theorem VL(x:ay)(j:Nat)(hi:i <4):fV i j (G3 (pk x))=if pI x i=(j:Int)+1 then 1 else 0:=by
 rcases Kz hi with rfl|rfl|rfl|rfl<;>rfl
theorem T8{α:Type}(p:α→Prop)[DecidablePred p]:∀l:List α,(l.map fun x=>if p x then (1:Int) else 0).sum=((l.filter fun x=>decide (p x)).length:Int)
 | []=>rfl
 |x::l=>by
  rw[List.map_cons,List.sum_cons,T8 p l]
  by_cases h:p x
  ·rw[if_pos h,List.filter_cons_of_pos (by simpa using h),List.length_cons];omega
  rw[if_neg h,List.filter_cons_of_neg (by simpa using h)];omega
theorem CF.total{F:List (P4×Value)}{zs:List ay}(h:CF F zs){es:Array MapEntry}(hE:td G3 F es ck)(j:Nat)(hi:i <4):su i j (cy es [])=(aK zs).c i j:=by
 rw[BD,aap hE,h.sum,aao]
 simp only[VL _ j hi]
 exact T8 (fun x=>pI x i=(j:Int)+1) zs
theorem Zv{z:ay}(h:(z.w0==0&&(z.w1==0&&(z.w2==0&&(z.w3==0&&true))))=true)(i:Nat):pI z i=0:=by
 simp only[Bool.and_eq_true,beq_iff_eq] at h
 match i with
 |0=>exact h.1
 |1=>exact h.2.1
 |2=>exact h.2.2.1
 |_+3=>exact h.2.2.2.1
def DF(m:jH)(S T:Nat→Nat→Int):Prop:=∀i j,i <4→j <4→0≤m.c i j∧m.c i j+S i j=T i j
theorem DF.init{F:List (P4×Value)}{zs:List ay}(h:CF F zs){es:Array MapEntry}(hE:td G3 F es ck):DF ⟨fun _ _=>0⟩ (fun i j=>su i j (cy es [])) (aK zs).c:=fun i j hi _=>⟨Int.le_refl _,by show 0+su i j (cy es [])=_;rw[h.total hE j hi];exact Int.zero_add _⟩
def XE(z:ay)(n:Int)(q:Nat)(R:Nat→Nat→Int):Nat→Nat→Int:=fun i j=>(if i <q then 0 else fV i j (G3 (pk z))*n)+R i j
theorem DF.zero{m:jH}{z:ay}{n:Int}{es:Array MapEntry}{ck:Nat}{F:List (P4×Value)}{T:Nat→Nat→Int}{seen:List Nat}{e:MapEntry}(hE:td G3 F es ck)(he:e∈cy es seen)(hk:e.key=G3 (pk z))(hz:∀i,pI z i=0)(h:DF m (fun i j=>su i j (cy es seen)) T):DF m (fun i j=>su i j (cy es (seen++[e.born]))) T:=fun i j hi hj=>by
 have h1:=h i j hi hj
 have h2:=Ii hE he i j
 rw[hk,VL z j hi,if_neg (by rw[hz];omega),Int.zero_mul,Int.zero_add] at h2
 dsimp only at h1 ⊢
 rw[h2] at h1;exact h1
theorem DF.open_{m:jH}{z:ay}{es:Array MapEntry}{F:List (P4×Value)}{e:MapEntry}(hE:td G3 F es ck)(he:e∈cy es seen)(hk:e.key=G3 (pk z))(hv:e.val= zI n)(h:DF m (fun i j=>su i j (cy es seen)) T):DF m (XE z n 0 fun i j=>su i j (cy es (seen++[e.born]))) T:=fun i j hi hj=>by
 have h1:=h i j hi hj
 have h2:=Ii hE he i j
 rw[hk,hv] at h2
 simp only[Hn] at h2
 simp only[XE,if_neg (Nat.not_lt_zero i)]
 dsimp only at h1
 rw[h2] at h1;exact h1
theorem DF.close{m:jH}{z:ay}(h:DF m (XE z n 4 R) T):DF m R T:=fun i j hi hj=>by
 have h1:=h i j hi hj
 simp only[XE,if_pos hi,Int.zero_add] at h1
 exact h1
theorem DF.skip{m:jH}{z:ay}(h:DF m (XE z n q R) T)(hq:¬pI z q>0):DF m (XE z n (q+1) R) T:=fun i j hi hj=>by
 have h1:=h i j hi hj
 simp only[XE] at h1 ⊢
 by_cases e:i=q
 ·subst e
  rw[if_neg (Nat.lt_irrefl _),VL z j hi,if_neg (by omega),Int.zero_mul] at h1
  rw[if_pos (Nat.lt_succ_self _)];exact h1
 by_cases e2:i <q
 ·rw[if_pos e2] at h1;rw[if_pos (by omega)];exact h1
 rw[if_neg e2] at h1;rw[if_neg (by omega)];exact h1
theorem DF.add{m:jH}{z:ay}(h:DF m (XE z n q R) T)(hn:0≤n)(hq:pI z q>0)(hq4:q <4):DF (rq m q (pI z q-1).toNat (m.c q (pI z q-1).toNat+n)) (XE z n (q+1) R) T:=fun i j hi hj=>by
 have h1:=h i j hi hj
 simp only[XE,rq] at h1 ⊢
 by_cases e:i=q
 ·subst e
  rw[if_neg (Nat.lt_irrefl _),VL z j hi] at h1
  rw[if_pos (Nat.lt_succ_self _)]
  by_cases e2:j=(pI z i-1).toNat
  ·rw[if_pos (by omega)] at h1
   rw[if_pos ⟨rfl,e2⟩,←e2];omega
  rw[if_neg (by omega)] at h1
  rw[if_neg (by omega)];omega
 rw[if_neg (c:=i=q∧j=(pI z q-1).toNat) (by omega)]
 by_cases e2:i <q
 ·rw[if_pos e2] at h1;rw[if_pos (by omega)];exact h1
 rw[if_neg e2] at h1;rw[if_neg (by omega)];exact h1
theorem DF.bound{m:jH}{z:ay}(h:DF m (XE z n q R) T)(hR:∀i j,0≤R i j)(hn:0≤n)(hi:i <4)(hj:j <4):0≤m.c i j∧m.c i j≤T i j:=by
 have h1:=h i j hi hj
 have h2:=hR i j
 simp only[XE] at h1
 split at h1
 ·omega
 rcases anm i j (G3 (pk z)) with h3|h3<;>rw[h3] at h1<;>omega
theorem DF.fin{m:jH}{zs:List ay}{es:Array MapEntry}(h:DF m (fun i j=>su i j (cy es seen)) (aK zs).c)(he:cy es seen=[]):BY m=BY (aK zs):=by
 have k (i j:Nat) (hi:i <4) (hj:j <4):m.c i j=(aK zs).c i j:=by
  have:=(h i j hi hj).2
  rw[he] at this
  simpa [su] using this
 simp only[BY,k 0 0 (by decide) (by decide),k 0 1 (by decide) (by decide),k 0 2 (by decide) (by decide),k 0 3 (by decide) (by decide),k 1 0 (by decide) (by decide),k 1 1 (by decide) (by decide),k 1 2 (by decide) (by decide),k 1 3 (by decide) (by decide),k 2 0 (by decide) (by decide),k 2 1 (by decide) (by decide),k 2 2 (by decide) (by decide),k 2 3 (by decide) (by decide),k 3 0 (by decide) (by decide),k 3 1 (by decide) (by decide),k 3 2 (by decide) (by decide),k 3 3 (by decide) (by decide)]
theorem apt{z:ay}(h:q <4):nth [zI z.w0,zI z.w1,zI z.w2,zI z.w3] ((q:Int).toNat*1)=some (zI (pI z q)):=by
 rcases Kz h with rfl|rfl|rfl|rfl<;>rfl
theorem abP{m:jH}{a:Nat}{j:Int}(h:a <4)(k:0≤j∧j <4):nth (BY m) (0+(a:Int).toNat*4+j.toNat*1)=some (zI (m.c a j.toNat)):=by
 obtain⟨b,rfl⟩:=Int.eq_ofNat_of_zero_le k.1
 exact DX h (by omega)
theorem abO{m:jH}{a:Nat}{j v:Int}(h:a <4)(k:0≤j∧j <4):dz (BY m) (0+(a:Int).toNat*4+j.toNat*1) [zI v]=BY (rq m a j.toNat v):=by
 obtain⟨b,rfl⟩:=Int.eq_ofNat_of_zero_le k.1
 exact ai5 h (by omega)
theorem abQ{m:jH}{a:Nat}{j:Int}{v:Value}(h:a <4)(k:0≤j∧j <4):Nat.ble ((0+(a:Int).toNat*4+j.toNat*1)+[v].length) (BY m).length=true:=by
 obtain⟨b,rfl⟩:=Int.eq_ofNat_of_zero_le k.1
 exact ai6 h (by omega)
theorem aSt(z:ay):EqV zT 89 (v4 z.w0 z.w1 z.w2 z.w3) (v4 0 0 0 0) (z.w0==0&&(z.w1==0&&(z.w2==0&&(z.w3==0&&true)))):=Ly (aEu (dep:=9998) (m8 Tryz.typeInfo89 Tryz.underlying89 rfl rfl rfl rfl rfl rfl) mC _ _ _ _ _ _ _ _)
theorem aMM:nX zT 89:=by unfold nX;kernel_rfl
theorem N8{F F1:List (P4×Value)}{k:P4}(h1:((∃u,rX k F 0=some u)∧F1=F)∨(rX k F 0=none∧F1=F++[(k,zI 0)]))(hl:Oa (zI 0) false k F= zI n):Oa (zI 0) false k F1= zI n:=by
 rcases h1 with ⟨_,rfl⟩| ⟨hf,rfl⟩
 ·exact hl
 simp only[Oa,lkM,Aj (v:= zI 0) hf]
 simpa [Oa,lkM,hf] using hl
theorem acz{v:Value}{zs:List ay}{ro:Nat→Option Obj}(hl:bK ro v 8 cN zs)(hn:zs.length≤100000)(hp:∀x∈zs,∀q,0≤pI x q∧pI x q≤4):eG zT 74 [v] ro [] (fun r Y=>r= .agg ⟨BY (aK zs)⟩∧Y=[]):=by
 obtain⟨fL,rD,rC,eV,rfl,tH,lJ,mE⟩:=hl
 refine bC au [] [] bn<|zD 2<|jn fun b2=>zD 3<|jmk G3 fun EN L11 adI=>zD 10<|eN [1,1,0,1,0,0] [] (fun(zz:Nat×(List (P4×Value))×Cells)=>[(2,zP b2),(3,(.map (some EN))),(12,.slice fL zs.length eV),(13,zI (zs.length:Int)),(14,zI (zz.1:Int))]) (fun(zz:Nat×(List (P4×Value))×Cells)=>[.l zz.2.2,.b b2 (.cells ⟨[zI 0,zI 0,zI 0,zI 0,zI 0,zI 0,zI 0,zI 0,zI 0,zI 0,zI 0,zI 0,zI 0,zI 0,zI 0,zI 0]⟩ 167 (0,0))]) (fun(zz:Nat×(List (P4×Value))×Cells)=>zz.1≤zs.length∧j6 EN G3 zz.2.1 zz.2.2∧CF zz.2.1 (zs.take zz.1)) (fun(zz:Nat×(List (P4×Value))×Cells)=>zs.length-zz.1) (⟨0,[],L11⟩) ⟨by dsimp only;omega,adI,CF.nil⟩ [0,1] ?_
 rintro⟨k,F,LM⟩ hI K1 bF rest
 dsimp only at hI
 refine zD 5<|zJ 15 ((k:Int) <(zs.length:Int)) (fun h1=>?_) fun h1=>?_
 ·
  refine zD 6 ?_
  obtain⟨AZ,oM⟩:=zG zs k
  refine iW eV 8 lJ oM<|jl 0 (mE _ _ oM)<|jn fun b5=>jd 2 [0] ?_
  obtain⟨nk,hlk,hnk⟩:=hI.2.2.look (pk AZ)
  have Qg:(zs.take k).length=k:=by rw[List.length_take];omega
  refine jd 4 [0]<|lD [3,5] ⟨fun z2 t3 rP=>?_,fun z5 t6 O2=>?_,trivial⟩
  ·
   refine jlu (kv:=G3) (F:=F) (r:=EN) (K:=89) (pk AZ) (zI 0) false [1] LM ach (fun s _ hZ=>hI.2.1.has hZ)<|bw rP [0,1,2]<|jw 3 (zI nk) hlk<|ja (nk+1) (by omega)<|aH 5 fun Zo Z8 hL8=>jme (kv:=G3) (F:=F) (r:=EN) (L:=LM) 1 (pk AZ) ach mC hI.2.1 fun Fm4 bm4 cm4 Lm4 bdR hm4=>iM hL8 []<|aH 6 fun Zn Z6 X7=>zD 1<|bw X7 [0,1,2]<|aH 7 fun H5 Ia vN=>jes 0 (zI (nk+1)) hm4 fun Lm7 hm7=>cM vN<|zD 2<|ja ((k:Int)+1) (by omega)<|zD 2<|bI bF (⟨k+1,_,Lm7⟩) ⟨by dsimp only;omega,hm7,by dsimp only;rw[jB oM];exact hI.2.2.upd (by assumption) hlk hnk⟩ (by dsimp only;omega) [0,2] (Sub.refl _)
  refine jme (kv:=G3) (F:=F) (r:=EN) (L:=LM) 1 (pk AZ) ach mC hI.2.1 fun Fm9 bm9 cm9 Lm9 aDF hm9=>cM O2<|lD [3,6] ⟨fun z11 t12 F4=>?_,fun z14 t15 HR=>?_,trivial⟩
  ·
   refine jlu (kv:=G3) (F:=Fm9) (r:=EN) (K:=89) (pk AZ) (zI 0) false [0] Lm9 ach (fun s _ hZ=>hm9.own.has hZ)<|cM F4<|jw 3 (zI nk) (N8 aDF hlk)<|ja (nk+1) (by omega)<|aH 6 fun aly alS Lc=>zD 1<|bw Lc [0,1,2]<|aH 7 fun avS awR aey=>jes 0 (zI (nk+1)) hm9 fun aTz aAq=>cM aey<|zD 2<|ja ((k:Int)+1) (by omega)<|zD 2<|bI bF (⟨k+1,_,aTz⟩) ⟨by dsimp only;omega,aAq,by dsimp only;rw[jB oM];exact hI.2.2.upd (by assumption) hlk hnk⟩ (by dsimp only;omega) [0,2] (Sub.refl _)
  refine zD 1<|cM HR<|aH 3 fun avR awQ SN=>jlu (kv:=G3) (F:=Fm9) (r:=EN) (K:=89) (pk AZ) (zI 0) false [0] Lm9 ach (fun s _ hZ=>hm9.own.has hZ)<|cM SN<|jw 3 (zI nk) (N8 aDF hlk)<|ja (nk+1) (by omega)<|aH 7 fun avQ awP SM=>jes 0 (zI (nk+1)) hm9 fun aTy arE=>cM SM<|zD 2<|ja ((k:Int)+1) (by omega)<|zD 2<|bI bF (⟨k+1,_,aTy⟩) ⟨by dsimp only;omega,arE,by dsimp only;rw[jB oM];exact hI.2.2.upd (by assumption) hlk hnk⟩ (by dsimp only;omega) [0,2] (Sub.refl _)
 refine zD 4<|jn fun b6=>jf [1] LM (fun aZ4 aq2 arZ=>?_)
 have hCF:CF F zs:=by have:=hI.2.2;rwa[show k=zs.length by omega,List.take_length] at this
 obtain⟨AW,Hi,rfl,hE1⟩:=hI.2.1
 refine zD 5<|jmR (arZ _ (.head _)) fun r27=>jg 0 [.b r27 (uB EN Hi [])]<|zD 2<|eN [1,1,1,1,0,1,0,0] [] (fun(zz:(List Nat)×jH)=>[(2,zP b2),(6,zP b6),(27,zP r27)]) (fun(zz:(List Nat)×jH)=>[.b r27 (uB EN Hi zz.1),.b b6 (.cells ⟨[zI (zz.2.c 0 0),zI (zz.2.c 0 1),zI (zz.2.c 0 2),zI (zz.2.c 0 3),zI (zz.2.c 1 0),zI (zz.2.c 1 1),zI (zz.2.c 1 2),zI (zz.2.c 1 3),zI (zz.2.c 2 0),zI (zz.2.c 2 1),zI (zz.2.c 2 2),zI (zz.2.c 2 3),zI (zz.2.c 3 0),zI (zz.2.c 3 1),zI (zz.2.c 3 2),zI (zz.2.c 3 3)]⟩ 167 (0,0)),.b b2 (.cells ⟨[zI 0,zI 0,zI 0,zI 0,zI 0,zI 0,zI 0,zI 0,zI 0,zI 0,zI 0,zI 0,zI 0,zI 0,zI 0,zI 0]⟩ 167 (0,0))]) (fun(zz:(List Nat)×jH)=>DF zz.2 (fun i j=>su i j (cy AW zz.1)) (aK zs).c) (fun(zz:(List Nat)×jH)=>(cy AW zz.1).length) (⟨[],⟨fun _ _=>0⟩⟩) (DF.init hCF hE1) [0,1,2] ?_
 rintro⟨seen,m⟩ hI K21 akr rest
 dsimp only at hI
 refine zD 2<|jmN (it:=r27) (kv:=G3) (seen:=seen) 0 (arZ _ (.head _)) hE1 (fun k28 v28 e28 aAQ X3 arX azy=>?_) (fun aqD=>?_)
 ·
  obtain⟨Ff,amM,aAh⟩:=hCF.val _ aAQ
  obtain⟨kQ,aqD,hkz⟩:=hCF.key _ aAQ
  dsimp only at amM hkz
  subst amM
  subst hkz
  have hpz:=hp kQ aqD
  have cz:=Fs X3
  refine jg 0 [.b r27 (uB EN Hi (seen++[e28.born]))]<|zD 8<|jmE (it:=r27) 0 (arZ _ (.head _)) hE1 X3 arX azy<|jg 0 [.b r27 (uB EN Hi (seen++[e28.born]))]<|zD 2<|jn fun b7=>jd 8 [0,0]<|jeq aMM (aSt kQ)<|zD 1<|js 35 (kQ.w0==0&&(kQ.w1==0&&(kQ.w2==0&&(kQ.w3==0&&true)))) (fun h21=>?_) (fun h21=>?_)
  ·
   refine zD 2<|bI akr (⟨(seen++[e28.born]),m⟩) (hI.zero (n:=0) hE1 X3 arX (Zv (by assumption))) cz [1,2,3] (Sub.refl _)
  refine jd 8 [0]<|eN [1,1,1,1,0,1,0,0,1,1,0,1,1,1,0,0] [K21] (fun(zz:Nat×jH)=>[(2,zP b2),(6,zP b6),(8,zI Ff),(27,zP r27),(36,.agg ⟨[zI kQ.w0,zI kQ.w1,zI kQ.w2,zI kQ.w3]⟩),(37,zI (zz.1:Int))]) (fun(zz:Nat×jH)=>[.b r27 (uB EN Hi (seen++[e28.born])),.b b6 (.cells ⟨[zI (zz.2.c 0 0),zI (zz.2.c 0 1),zI (zz.2.c 0 2),zI (zz.2.c 0 3),zI (zz.2.c 1 0),zI (zz.2.c 1 1),zI (zz.2.c 1 2),zI (zz.2.c 1 3),zI (zz.2.c 2 0),zI (zz.2.c 2 1),zI (zz.2.c 2 2),zI (zz.2.c 2 3),zI (zz.2.c 3 0),zI (zz.2.c 3 1),zI (zz.2.c 3 2),zI (zz.2.c 3 3)]⟩ 167 (0,0)),.b b7 (.cells ⟨[zI kQ.w0,zI kQ.w1,zI kQ.w2,zI kQ.w3]⟩ 89 (0,0)),.b b2 (.cells ⟨[zI 0,zI 0,zI 0,zI 0,zI 0,zI 0,zI 0,zI 0,zI 0,zI 0,zI 0,zI 0,zI 0,zI 0,zI 0,zI 0]⟩ 167 (0,0))]) (fun(zz:Nat×jH)=>zz.1≤4∧DF zz.2 (XE kQ Ff zz.1 (fun i j=>su i j (cy AW (seen++[e28.born])))) (aK zs).c) (fun(zz:Nat×jH)=>4-zz.1) (⟨0,m⟩) ⟨by dsimp only;omega,hI.open_ hE1 X3 arX azy⟩ [1,2,0,3] ?_
  rintro⟨q,m⟩ hJ K22 akq rest
  dsimp only at hJ
  refine zD 5<|zJ 38 ((q:Int) <4) (fun Jb=>?_) fun Jb=>?_
  ·
   refine zD 7<|jai (l:=[zI kQ.w0,zI kQ.w1,zI kQ.w2,zI kQ.w3]) (q:Int) 4 1 false (by omega) (v:= zI (pI kQ q)) (show nth [_,_,_,_] _=_ from apt (by omega))<|zD 8<|zJ 42 ((pI kQ q)>0) (fun Ec=>?_) fun Ec=>?_
   ·
    refine zD 4<|ja ((pI kQ q)-1) (by have:=hpz q;omega) ?_
    refine IZ (b:=b6) (off:=0) (len:=4) (sz:=4) (q:Int) (by omega)<|IZ (b:=b6) (off:=0+(q:Int).toNat*4) (len:=4) (sz:=1) ((pI kQ q)-1) (by have:=hpz q;omega) ?_
    refine oV (b:=b6) (off:=0+(q:Int).toNat*4+((pI kQ q)-1).toNat*1) (m:=1) (vs:=[zI (m.c q (pI kQ q-1).toNat)]) 0 [1] [(b6,.cells ⟨[zI (m.c 0 0),zI (m.c 0 1),zI (m.c 0 2),zI (m.c 0 3),zI (m.c 1 0),zI (m.c 1 1),zI (m.c 1 2),zI (m.c 1 3),zI (m.c 2 0),zI (m.c 2 1),zI (m.c 2 2),zI (m.c 2 3),zI (m.c 3 0),zI (m.c 3 1),zI (m.c 3 2),zI (m.c 3 3)]⟩ 167 (0,0))] (fun s _ hZ=>sC (hZ _ (.head _)) (abP (m:=m) (by omega) (by have:=hpz q;omega))) ?_
    refine zD 1<|ja ((m.c q (pI kQ q-1).toNat)+Ff) (by have h7:=hJ.2.bound (fun i j=>M7 (ah1 hCF hE1)) aAh.1 (i:=q) (j:=(pI kQ q-1).toNat) (by omega) (by have:=hpz q;omega);have h8:=Tc zs q (pI kQ q-1).toNat;omega) ?_
    refine IZ (b:=b6) (off:=0) (len:=4) (sz:=4) (q:Int) (by omega)<|IZ (b:=b6) (off:=0+(q:Int).toNat*4) (len:=4) (sz:=1) ((pI kQ q)-1) (by have:=hpz q;omega) ?_
    refine aH 10 fun avN awM aex=>xH 1 b6 (0+(q:Int).toNat*4+((pI kQ q)-1).toNat*1) [zI (m.c 0 0),zI (m.c 0 1),zI (m.c 0 2),zI (m.c 0 3),zI (m.c 1 0),zI (m.c 1 1),zI (m.c 1 2),zI (m.c 1 3),zI (m.c 2 0),zI (m.c 2 1),zI (m.c 2 2),zI (m.c 2 3),zI (m.c 3 0),zI (m.c 3 1),zI (m.c 3 2),zI (m.c 3 3)] [zI ((m.c q (pI kQ q-1).toNat)+Ff)] 167 (by intro v hv;rw[List.mem_singleton] at hv;subst hv;rfl) (abQ (m:=m) (by omega) (by have:=hpz q;omega)) ?_
    refine jmw 0 [.b b6 (.cells ⟨[zI ((rq m q (pI kQ q-1).toNat (m.c q (pI kQ q-1).toNat+Ff)).c 0 0),zI ((rq m q (pI kQ q-1).toNat (m.c q (pI kQ q-1).toNat+Ff)).c 0 1),zI ((rq m q (pI kQ q-1).toNat (m.c q (pI kQ q-1).toNat+Ff)).c 0 2),zI ((rq m q (pI kQ q-1).toNat (m.c q (pI kQ q-1).toNat+Ff)).c 0 3),zI ((rq m q (pI kQ q-1).toNat (m.c q (pI kQ q-1).toNat+Ff)).c 1 0),zI ((rq m q (pI kQ q-1).toNat (m.c q (pI kQ q-1).toNat+Ff)).c 1 1),zI ((rq m q (pI kQ q-1).toNat (m.c q (pI kQ q-1).toNat+Ff)).c 1 2),zI ((rq m q (pI kQ q-1).toNat (m.c q (pI kQ q-1).toNat+Ff)).c 1 3),zI ((rq m q (pI kQ q-1).toNat (m.c q (pI kQ q-1).toNat+Ff)).c 2 0),zI ((rq m q (pI kQ q-1).toNat (m.c q (pI kQ q-1).toNat+Ff)).c 2 1),zI ((rq m q (pI kQ q-1).toNat (m.c q (pI kQ q-1).toNat+Ff)).c 2 2),zI ((rq m q (pI kQ q-1).toNat (m.c q (pI kQ q-1).toNat+Ff)).c 2 3),zI ((rq m q (pI kQ q-1).toNat (m.c q (pI kQ q-1).toNat+Ff)).c 3 0),zI ((rq m q (pI kQ q-1).toNat (m.c q (pI kQ q-1).toNat+Ff)).c 3 1),zI ((rq m q (pI kQ q-1).toNat (m.c q (pI kQ q-1).toNat+Ff)).c 3 2),zI ((rq m q (pI kQ q-1).toNat (m.c q (pI kQ q-1).toNat+Ff)).c 3 3)]⟩ 167 (0,0))] (L:=[(b6,.cells ⟨dz [zI (m.c 0 0),zI (m.c 0 1),zI (m.c 0 2),zI (m.c 0 3),zI (m.c 1 0),zI (m.c 1 1),zI (m.c 1 2),zI (m.c 1 3),zI (m.c 2 0),zI (m.c 2 1),zI (m.c 2 2),zI (m.c 2 3),zI (m.c 3 0),zI (m.c 3 1),zI (m.c 3 2),zI (m.c 3 3)] (0+(q:Int).toNat*4+((pI kQ q)-1).toNat*1) [zI ((m.c q (pI kQ q-1).toNat)+Ff)]⟩ 167 (0,0))]) (by rw[abO (m:=m) (by omega) (by have:=hpz q;omega)];rfl) ?_
    refine iM aex []<|zD 2<|ja ((q:Int)+1) (by omega)<|zD 2<|bI akq (⟨q+1,(rq m q (pI kQ q-1).toNat (m.c q (pI kQ q-1).toNat+Ff))⟩) ⟨by dsimp only;omega,hJ.2.add aAh.1 (by assumption) (by omega)⟩ (by dsimp only;omega) [1,0,2,3] (Sub.refl _)
   refine zD 3<|ja ((q:Int)+1) (by omega)<|zD 2<|bI akq (⟨q+1,m⟩) ⟨by dsimp only;omega,hJ.2.skip (by assumption)⟩ (by dsimp only;omega) [0,1,2,3] (Sub.refl _)
  refine zD 2<|bI akr (⟨(seen++[e28.born]),m⟩) (DF.close (z:=kQ) (n:=Ff) (by have:=hJ.2;rwa[show q=4 by omega] at this)) cz [0,1,3] (Sub.refl _)
 refine jg 0 [.b r27 (uB EN Hi seen)]<|jd 11 [1,2]<|aF q0.a (.agg ⟨[zI (m.c 0 0),zI (m.c 0 1),zI (m.c 0 2),zI (m.c 0 3),zI (m.c 1 0),zI (m.c 1 1),zI (m.c 1 2),zI (m.c 1 3),zI (m.c 2 0),zI (m.c 2 1),zI (m.c 2 2),zI (m.c 2 3),zI (m.c 3 0),zI (m.c 3 1),zI (m.c 3 2),zI (m.c 3 3)]⟩) [2] [] [] aq2 ⟨_,_,rfl,rfl,by rw[←hI.fin aqD],rfl⟩
theorem Pz:AI:=fun hl hn hp=>acz hl hn hp
theorem Ah:∀(l:List Int) (a:Int),l.foldl min a=a∨l.foldl min a∈l
 | [],_=> .inl rfl
 |y::l,a=>by
  simp only[List.foldl_cons]
  rcases Ah l (min a y) with h|h
  ·rw[h]
   rcases(by omega:min a y=a∨min a y=y) with e|e
   ·exact .inl e
   rw[e];exact .inr List.mem_cons_self
  exact .inr (List.mem_cons_of_mem _ h)
theorem N4:∀ {l:List Int},l≠[]→tS l∈l
 | [],h=>absurd rfl h
 |y::l,_=>by
  show l.foldl min y∈_
  rcases Ah l y with h|h
  ·rw[h];exact List.mem_cons_self
  exact List.mem_cons_of_mem _ h
theorem IN{l m:List Int}(h:l.Perm m)(hl:l≠[]):tS l=tS m:=by
 have h1:=Ku (h.mem_iff.1 (N4 hl))
 have h2:=Ku (h.mem_iff.2 (N4 (fun e=>hl (by rw[e] at h;exact h.eq_nil))))
 omega
theorem Gg:∀(l:List Int) (a:Int),a≤l.foldl max a∧∀x∈l,x≤l.foldl max a
 | [],a=>⟨Int.le_refl _,fun _ h=>(by cases h)⟩
 |y::l,a=>by
  obtain⟨h1,h2⟩:=Gg l (max a y)
  refine⟨by simp only[List.foldl_cons];omega,fun x hx=>?_⟩
  rcases List.mem_cons.1 hx with rfl|hx
  ·simp only[List.foldl_cons];omega
  exact h2 x hx
theorem Ai:∀(l:List Int) (a:Int),l.foldl max a=a∨l.foldl max a∈l
 | [],_=> .inl rfl
 |y::l,a=>by
  simp only[List.foldl_cons]
  rcases Ai l (max a y) with h|h
  ·rw[h]
   rcases(by omega:max a y=a∨max a y=y) with e|e
   ·exact .inl e
   rw[e];exact .inr List.mem_cons_self
  exact .inr (List.mem_cons_of_mem _ h)
theorem UW{l:List Int}{x:Int}(h:x∈l):x≤By l:=by
 cases l with
 |nil=>cases h
 |cons y l=>
  rcases List.mem_cons.1 h with rfl|h
  ·exact(Gg l _).1
  exact(Gg l _).2 x h
theorem N5:∀ {l:List Int},l≠[]→By l∈l
 | [],h=>absurd rfl h
 |y::l,_=>by
  show l.foldl max y∈_
  rcases Ai l y with h|h
  ·rw[h];exact List.mem_cons_self
  exact List.mem_cons_of_mem _ h
theorem Xq{l m:List Int}(h:l.Perm m)(hl:l≠[]):By l=By m:=by
 have h1:=UW (h.mem_iff.1 (N5 hl))
 have h2:=UW (h.mem_iff.2 (N5 (fun e=>hl (by rw[e] at h;exact h.eq_nil))))
 omega
theorem Kx{α β:Type}{f:α→β}{l:List α}(h:l≠[]):l.map f≠[]:=fun e=>h (List.map_eq_nil_iff.1 e)
abbrev fsT:List iD:=[⟨2,1,true⟩,⟨0,1,true⟩]
theorem cC(h:0≤n∧n≤4):oD (aS n):=anr (fs:=[]) h (by decide) (by simp) .nil
theorem cV:gT (aS n):=anq (fs:=[]) (by decide) (by simp)
theorem cCT:oD (CN 2 fsT):=anr (by decide) (by decide) (by decide) (by decide)
theorem cVT:gT (CN 2 fsT):=anq (by decide) (by decide)
theorem rT:fN (aS 2)=4:=by kernel_rfl
theorem rL:tS ((gB (aS 1) (eP (aS 1)) (fun _=>true) (jq (aS 1))).map C6)=2:=by kernel_rfl
theorem rLn:(gB (aS 1) (eP (aS 1)) (fun _=>true) (jq (aS 1))).length=0→False:=by
 have e:Nat.beq (gB (aS 1) (eP (aS 1)) (fun _=>true) (jq (aS 1))).length 0=false:=by kernel_rfl
 intro h;rw[h] at e;cases e
theorem r1n:(gB (aS 1) (eP (aS 1)) (eY (aS 1).gone (aS 1).new (aS 1).af) (jq (aS 1))).length=0→False:=by
 have e:Nat.beq (gB (aS 1) (eP (aS 1)) (eY (aS 1).gone (aS 1).new (aS 1).af) (jq (aS 1))).length 0=false:=by kernel_rfl
 intro h;rw[h] at e;cases e
theorem r2n:(gB (aS 2) (eP (aS 2)) (eY (aS 2).gone (aS 2).new (aS 2).af) (jq (aS 2))).length=0→False:=by
 have e:Nat.beq (gB (aS 2) (eP (aS 2)) (eY (aS 2).gone (aS 2).new (aS 2).af) (jq (aS 2))).length 0=false:=by kernel_rfl
 intro h;rw[h] at e;cases e
theorem rM1:tS ((gB (aS 2) (eP (aS 2)) (eY (aS 2).gone (aS 2).new (aS 2).af) (jq (aS 2))).map fun x=>x.af)=0:=by kernel_rfl
theorem rM2:By ((gB (aS 2) (eP (aS 2)) (eY (aS 2).gone (aS 2).new (aS 2).af) (jq (aS 2))).map fun x=>x.af)=2:=by kernel_rfl
theorem rU:xG (aK (gB (aS 1) (eP (aS 1)) (eY (aS 1).gone (aS 1).new (aS 1).af) (jq (aS 1)))) (((gB (aS 1) (eP (aS 1)) (eY (aS 1).gone (aS 1).new (aS 1).af) (jq (aS 1))).length:Nat):Int) (aS 1).after.length (aS 1).before.length=[[0,0],[2,1]]:=by kernel_rfl
theorem rW:JA (CN 2 fsT) (jq (CN 2 fsT))=some 1:=by kernel_rfl
theorem rL1:lZ 1 4=[0]:=by kernel_rfl
theorem rA:(ald (ago (aK (gB (aS 2) (eP (aS 2)) (eY (aS 2).gone (aS 2).new (aS 2).af) (jq (aS 2)))) (((gB (aS 2) (eP (aS 2)) (eY (aS 2).gone (aS 2).new (aS 2).af) (jq (aS 2))).length:Nat):Int) (aS 2).after.length (aS 2).before.length)).2.2=(2,0):=by kernel_rfl
theorem WR{ro:Nat→Option Obj}(hK:gV ro l (aS 2)):G0 zT 8 [.agg ⟨l⟩] ro [] (fun r Y=>r= .tuple ⟨[zI 4,zI 0]⟩∧Y=[]):=
 (zt hK (cC (by decide)) cV).mono fun v X h=>⟨by rw[h.1,rT];rfl,h.2⟩
theorem aaP{ro:Nat→Option Obj}(hK:gV ro l (aS 1)):G0 zT 9 [.agg ⟨l⟩] ro [] (fun r Y=>r= .tuple ⟨[zI 2,zI 0]⟩∧Y=[]):=
 (U4 hK (cC (by decide)) cV).mono fun v X ⟨zs,m,e,hz,hY,hr,h⟩=>by
  rcases h with ⟨h,_⟩| ⟨h,hm,he⟩
  ·exact(rLn (by rw[←hz.length_eq,h];rfl)).elim
  exact⟨by rw[hr,hm,he,IN (hz.map C6) (Kx h),rL],hY⟩
theorem ain{ro:Nat→Option Obj}(hK:gV ro l (aS 1)):G0 zT 30 [.agg ⟨l⟩] ro [] (fun r Y=>∃v,r= .tuple ⟨[v,zI 0]⟩∧∀aL,Knows aL Y→LL aL v [[0,0],[2,1]]):=
 (aqk hK cV (sA (cC (by decide))) (B8 hK (cC (by decide)) cV) Pz).mono fun r X ⟨zs,v,e,hz,hr,h⟩=>by
  rcases h with ⟨h,_⟩| ⟨h,he,hl⟩
  ·exact(r1n (by rw[←hz.length_eq,h];rfl)).elim
  refine⟨v,by rw[hr,he],fun aL hk=>?_⟩
  have:=hl aL hk
  rwa[PB hz,hz.length_eq,rU] at this
theorem aaO{ro:Nat→Option Obj}(hK:gV ro l (aS 2)):G0 zT 31 [.agg ⟨l⟩] ro [] (fun r Y=>r= .tuple ⟨[.agg ⟨[zI 0,zI 2]⟩,zI 0]⟩∧Y=[]):=
 (aqm hK cV (sA (cC (by decide))) (B8 hK (cC (by decide)) cV)).mono fun r X ⟨zs,a,b,e,hz,hY,hr,h⟩=>by
  rcases h with ⟨h,_⟩| ⟨h,ha,hb,he⟩
  ·exact(r2n (by rw[←hz.length_eq,h];rfl)).elim
  exact⟨by rw[hr,ha,hb,he,IN (hz.map _) (Kx h),Xq (hz.map _) (Kx h),rM1,rM2],hY⟩
theorem ao1{ro:Nat→Option Obj}(hK:gV ro l (aS 2)):G0 zT 35 [.agg ⟨l⟩] ro [] (fun r Y=>∃a b,r= .tuple ⟨[zI a,zI b,zI 2,zI 0]⟩∧Y=[]):=
 (aM4 hK cV (sA (cC (by decide))) (B8 hK (cC (by decide)) cV) Pz).mono fun r X ⟨zs,a,b,w,e,hz,hY,hr,h⟩=>by
  rcases h with ⟨h,_⟩| ⟨h,ha⟩
  ·exact(r2n (by rw[←hz.length_eq,h];rfl)).elim
  rw[PB hz,hz.length_eq] at ha
  have h2:=congrArg (fun x:Int×Int×Int×Int=>x.2.2) ha
  dsimp only at h2
  rw[rA] at h2
  cases h2
  exact⟨a,b,hr,hY⟩
theorem aaN{ro:Nat→Option Obj}(hK:gV ro l (CN 2 fsT)):eG zT 32 [.agg ⟨l⟩] ro [] (fun r Y=>∃v,r= .tuple ⟨[v,zI 0]⟩∧az v 1 3 cS [0] Y):=
 Fn.mono (ap5 hK cVT (sA cCT) (B8 hK cCT cVT) (by decide)) fun en s' ⟨r,X,h1,h2,v,e,hr,h⟩=>⟨r,X,h1,h2,by
  rcases h with ⟨m,hm,ho,he⟩| ⟨hm,_⟩
  ·rw[rW] at hm;cases hm
   rw[rL1] at ho
   exact⟨v,by rw[hr,he],ho⟩
  rw[rW] at hm;cases hm⟩
theorem acb{ro:Nat→Option Obj}{v4 vf:Value}{fa:Option Addr}{fs:List iD}(h:gV ro [v0,v1,.slice fa 0 fc,v3,v4,v5,v6,v7,zI 1,zI 1,zI n,vb] (aS n))(hf:bK ro vf 3 wo fs):gV ro [v0,v1,.slice fa 0 fc,v3,v4,v5,v6,v7,zI 1,zI 1,zI n,vf] (CN n fs):=by
 obtain⟨w0,w1,w3,w4,w5,w6,w7,wb,ga,gc,hv,e,h1,h2,h3,h4,h5,h6,h7,_⟩:=h
 cases e
 exact⟨_,_,_,_,_,_,_,_,_,_,hv,rfl,h1,h2,h3,h4,h5,h6,h7,hf⟩
theorem MW{v4:Value}{fa fb:Option Addr}{fn fd:Nat}(h:∀v∈[v0,v1,v3,v4,v5,v6,v7,vb],single v=true):∀v∈[v0,v1,.slice fa 0 fc,v3,v4,v5,v6,v7,zI 1,zI 1,zI 2,.slice fb fn fd],single v=true:=by
 simp only[List.mem_cons,List.not_mem_nil,or_false] at h ⊢
 rintro v (rfl|rfl|rfl|rfl|rfl|rfl|rfl|rfl|rfl|rfl|rfl|rfl)<;>first|rfl|exact h _ (by simp)
theorem LL.up{ro aL:Nat→Option Obj}{v:Value}{W:List (List Int)}(h:LL ro v W)(hs:Sub ro aL):LL aL v W:=by
 obtain⟨ws,h1,h2⟩:=h
 exact⟨ws,h1.up hs,h2.imp fun _ _ k=>k.up hs⟩
theorem aEs(a b c d:Int):EqV zT 94 (.agg ⟨[zI a,zI b]⟩) (.agg ⟨[zI c,zI d]⟩) (a==c&&(b==d&&true)):=
 Ly (ug (dep:=9999) (m8 Tryz.typeInfo94 Tryz.underlying94 rfl rfl rfl rfl rfl rfl) Tryz.stoodInHeld94 (.cons (by decide) (kp mC rfl) (kp mC rfl) (nV mC _ _) (.cons (by decide) (kp mC rfl) (kp mC rfl) (nV mC _ _) .nil)))
theorem aML:nX zT 94:=by unfold nX;kernel_rfl
theorem JU{ro:Nat→Option Obj}:G0 zT 10 [] ro [] (fun r Y=>r= .bool true∧Y=[]):=by
 refine HC au [] [] bn fun fr=>zD 6<|jc (vs:=[zI 2]) [] (Jt) ?_
 rintro _ Y16 ⟨l16,rfl,aQ9,HR⟩
 refine jf [0] Y16 (fun AM bW jC=>?_)
 have aRA:=aQ9 _ jC
 refine KE (vs:=[(.agg ⟨l16⟩)]) [] (fun _ _ h=>h) (WR aRA) ?_
 rintro _ _ ⟨rfl,rfl⟩
 refine jg 0 []<|zD 8<|jc (vs:=[zI 1]) [] (Jt) ?_
 rintro _ Y21 ⟨l21,rfl,aQ8,Ya⟩
 refine jf [0] Y21 (fun ro6 kX Zc=>?_)
 have akr:=aQ8 _ Zc
 refine KE (vs:=[(.agg ⟨l21⟩)]) [] (fun _ _ h=>h) (ain akr) ?_
 rintro _ Y22 ⟨v22,rfl,aPa⟩
 refine zD 5<|jf [0] Y22 (fun ro9 rK hk8=>?_)
 have aRa:=aPa _ hk8
 refine zD 3<|jc (vs:=[zI 2]) [] (Jt) ?_
 rintro _ Y26 ⟨vD,rfl,aQ7,O4⟩
 refine jf [0] Y26 (fun aZ9 azK aPn=>?_)
 have aRy:=aQ7 _ aPn
 refine KE (vs:=[(.agg ⟨vD⟩)]) [] (fun _ _ h=>h) (aaO aRy) ?_
 rintro _ _ ⟨rfl,rfl⟩
 refine jg 0 []<|zD 3<|jn fun b5=>jd 5 [0]<|jc (vs:=[zI 1]) [] (Jt) ?_
 rintro _ Y31 ⟨l31,rfl,aQ6,O3⟩
 refine jf [0] Y31 (fun aZ7 azI aj3=>?_)
 have aRx:=aQ6 _ aj3
 refine KE (vs:=[(.agg ⟨l31⟩)]) [] (fun _ _ h=>h) (aaP aRx) ?_
 rintro _ _ ⟨rfl,rfl⟩
 refine jg 0 []<|zD 8<|jc (vs:=[zI 2]) [] (Jt) ?_
 rintro _ Y36 ⟨l36,rfl,aQ5,KZ⟩
 refine jp (vs:=[zI 2,zI 1,.bool true]) [] [] (fun aA hs hZ=>aEI)<|jp (vs:=[zI 0,zI 1,.bool true]) [] [] (fun aA hs hZ=>aEI)<|jn fun b39=>jf [1,0] (Y36++[(b39,.cells ⟨[zI 2,zI 1,.bool true,zI 0,zI 1,.bool true]⟩ 75 (0,0))]) (fun aZ5 azH XY=>?_)
 have aRv:=aQ5 _ (Knows.left XY)
 have aPC:=bR (sz:=3) (enc:=wo) (T:=75) [⟨2,1,true⟩,⟨0,1,true⟩] (Knows.right XY _ (.head _)) (fun _ _=>rfl)
 obtain⟨v0,v1,v3,v4,v5,v6,v7,vb,fa,fc,rfl,aOi⟩:=KZ
 refine jp (vs:=[.agg ⟨[v0,v1,(.slice fa 0 fc),v3,v4,v5,v6,v7,zI 1,zI 1,zI 2,vb]⟩,(.slice (some ⟨b39,0,none⟩) 2 2)]) [] [] (fun aA hs hZ=>aEH (MW aOi))<|jc (vs:=[.agg ⟨[v0,v1,(.slice fa 0 fc),v3,v4,v5,v6,v7,zI 1,zI 1,zI 2,(.slice (some ⟨b39,0,none⟩) 2 2)]⟩]) [] (aaN (acb aRv aPC)) ?_
 rintro _ Y41 ⟨v41,rfl,aON⟩
 refine zD 8<|jc (vs:=[zI 2]) [] (Jt) ?_
 rintro _ Y45 ⟨l45,rfl,aQ4,akp⟩
 refine jf [0] Y45 (fun aZ3 azG sR=>?_)
 have aRu:=aQ4 _ sR
 refine KE (vs:=[(.agg ⟨l45⟩)]) [] (fun _ _ h=>h) (ao1 aRu) ?_
 rintro _ _ ⟨qa,qb,rfl,rfl⟩
 refine jg 0 []<|jd 49 [1]<|jeq aML (aEs 0 2 0 2)<|zD 3<|jn fun b92=>jn fun b93=>jn fun b94=>jf [2,1,0] ((b92,.cells ⟨[zI 0,zI 0]⟩ 3 (0,0))::((b93,.cells ⟨[zI 2,zI 1]⟩ 3 (0,0))::[(b94,.cells ⟨[.slice (some ⟨b92,0,none⟩) 2 2,.slice (some ⟨b93,0,none⟩) 2 2]⟩ 22 (0,0))])) (fun aZ2 pe arY=>?_)
 obtain⟨wsM,hsM,haM⟩:=aRa.up ((((azK.trans azI).trans azH).trans azG).trans pe)
 have aNO:=bR (sz:=1) (enc:=jz) (T:=22) [.slice (some ⟨b92,0,none⟩) 2 2,.slice (some ⟨b93,0,none⟩) 2 2] (arY _ (.tail _ (.tail _ (.head _)))) (fun _ _=>rfl)
 have aQW:=bR (sz:=1) (enc:=cS) (T:=3) [0,0] (arY _ (.head _)) (fun _ _=>rfl)
 have aQV:=bR (sz:=1) (enc:=cS) (T:=3) [2,1] (arY _ (.tail _ (.head _))) (fun _ _=>rfl)
 refine jp (vs:=[v22,(.slice (some ⟨b94,0,none⟩) 2 2)]) [] [] (fun aA hs hZ=>(show dL _ _ _ _ (.bool (HT [[0,0],[2,1]] [[0,0],[2,1]])) from atT (hsM.up hs) (aNO.up hs) (haM.imp fun _ _ h=>h.up hs) (.cons (aQW.up hs) (.cons (aQV.up hs) .nil)) (by decide) (by decide) (by decide) (by decide)))<|zD 3<|jn fun b99=>jp (vs:=[v41,.slice (some ⟨b99,0,none⟩) 1 1]) [1,0] (Y41++[(b99,.cells ⟨([0].map cS).flatten⟩ 3 (0,0))]) (fun aA hs hZ=>(show dL _ _ _ _ (.bool (Yl [0] [0])) from ano (aON.nv hZ.left) (bR [0] hZ.right.head (by intro p hp;rfl)) (by decide) (by decide))) ?_
 refine zD 4<|RI qC.a.a.a.a.a.a.a.a (.bool true) [3] [] (((((((bW.trans kX).trans rK).trans azK).trans azI).trans azH).trans azG).trans pe) ⟨rfl,rfl⟩
theorem ajh{ro:Nat→Option Obj}(hN:Dn ro vd xs):anL zT 3 [vd] ro (fun r Y=>r= .bool true∧Y=[]):=by
 have hN0:=hN
 obtain⟨hl,hxn⟩:=hN
 obtain⟨fL,rD,rC,eV,rfl,tH,lJ,mE⟩:=hl
 refine aza au (by kernel_rfl) [] bn fun fr=>zD 7<|jc (vs:=[.slice fL xs.length eV]) [] (aSz hN0.1) ?_
 rintro _ X16 ⟨d16,rfl,aeJ⟩
 refine zD 5<|jcG (vs:=[zP d16,zI 3,zI 2]) [0] (aSA hN0 aeJ) ?_
 rintro _ aA X18 bW ⟨K,l,rfl,hO,hK,Lf⟩
 obtain⟨v0,v1,v3,v4,v5,v6,v7,vb,va,vc,hv,rfl,_⟩:=id hK
 have hC:=hO.c
 have hV:=hO.v
 have arG:=hO.BC
 refine jn fun b4=>xH 0 b4 0 [zS,zS,zS,zS,zS,zS,zS,zS,zI 0,zI 0,zI 0,zS] [v0,v1,.slice va 0 vc,v3,v4,v5,v6,v7,zI K.gone,zI K.new,zI K.af,vb] 40 hK.L.all rfl<|zD 2<|HD [1,1,1,1] [] (fun(zz:Nat×Nat×Cells×Cells×Value×Value×Value×Value×Value×Value×Value×Value×(Option Addr)×Nat×Value×Value×Value×Value×Value×Value×Value×Value×(Option Addr)×Nat)=>[(2,.bool false),(3,zP d16),(4,zP b4),(5,zP zz.1),(6,zP zz.2.1)]) (fun(zz:Nat×Nat×Cells×Cells×Value×Value×Value×Value×Value×Value×Value×Value×(Option Addr)×Nat×Value×Value×Value×Value×Value×Value×Value×Value×(Option Addr)×Nat)=>[.b zz.1 (.cells ⟨[zz.2.2.2.2.1,zz.2.2.2.2.2.1,.slice zz.2.2.2.2.2.2.2.2.2.2.2.2.1 0 zz.2.2.2.2.2.2.2.2.2.2.2.2.2.1,zz.2.2.2.2.2.2.1,zz.2.2.2.2.2.2.2.1,zz.2.2.2.2.2.2.2.2.1,zz.2.2.2.2.2.2.2.2.2.1,zz.2.2.2.2.2.2.2.2.2.2.1,zI K.gone,zI K.new,zI K.af,zz.2.2.2.2.2.2.2.2.2.2.2.1]⟩ 40 (0,0)),.b zz.2.1 (.cells ⟨[zz.2.2.2.2.2.2.2.2.2.2.2.2.2.2.1,zz.2.2.2.2.2.2.2.2.2.2.2.2.2.2.2.1,.slice zz.2.2.2.2.2.2.2.2.2.2.2.2.2.2.2.2.2.2.2.2.2.2.1 0 zz.2.2.2.2.2.2.2.2.2.2.2.2.2.2.2.2.2.2.2.2.2.2.2,zz.2.2.2.2.2.2.2.2.2.2.2.2.2.2.2.2.1,zz.2.2.2.2.2.2.2.2.2.2.2.2.2.2.2.2.2.1,zz.2.2.2.2.2.2.2.2.2.2.2.2.2.2.2.2.2.2.1,zz.2.2.2.2.2.2.2.2.2.2.2.2.2.2.2.2.2.2.2.1,zz.2.2.2.2.2.2.2.2.2.2.2.2.2.2.2.2.2.2.2.2.1,zI K.gone,zI K.new,zI K.af,zz.2.2.2.2.2.2.2.2.2.2.2.2.2.2.2.2.2.2.2.2.2.1]⟩ 40 (0,0)),.l zz.2.2.1,.l zz.2.2.2.1,.b b4 (.cells ⟨[v0,v1,.slice va 0 vc,v3,v4,v5,v6,v7,zI K.gone,zI K.new,zI K.af,vb]⟩ 40 (0,0)),.l X18,.l fr]) (fun(zz:Nat×Nat×Cells×Cells×Value×Value×Value×Value×Value×Value×Value×Value×(Option Addr)×Nat×Value×Value×Value×Value×Value×Value×Value×Value×(Option Addr)×Nat)=>(∀kB,Sub aA kB→Knows kB zz.2.2.1→gV kB [zz.2.2.2.2.1,zz.2.2.2.2.2.1,.slice zz.2.2.2.2.2.2.2.2.2.2.2.2.1 0 zz.2.2.2.2.2.2.2.2.2.2.2.2.2.1,zz.2.2.2.2.2.2.1,zz.2.2.2.2.2.2.2.1,zz.2.2.2.2.2.2.2.2.1,zz.2.2.2.2.2.2.2.2.2.1,zz.2.2.2.2.2.2.2.2.2.2.1,zI K.gone,zI K.new,zI K.af,zz.2.2.2.2.2.2.2.2.2.2.2.1] K)∧(∀kB,Sub aA kB→Knows kB zz.2.2.2.1→gV kB [zz.2.2.2.2.2.2.2.2.2.2.2.2.2.2.1,zz.2.2.2.2.2.2.2.2.2.2.2.2.2.2.2.1,.slice zz.2.2.2.2.2.2.2.2.2.2.2.2.2.2.2.2.2.2.2.2.2.2.1 0 zz.2.2.2.2.2.2.2.2.2.2.2.2.2.2.2.2.2.2.2.2.2.2.2,zz.2.2.2.2.2.2.2.2.2.2.2.2.2.2.2.2.1,zz.2.2.2.2.2.2.2.2.2.2.2.2.2.2.2.2.2.1,zz.2.2.2.2.2.2.2.2.2.2.2.2.2.2.2.2.2.2.1,zz.2.2.2.2.2.2.2.2.2.2.2.2.2.2.2.2.2.2.2.1,zz.2.2.2.2.2.2.2.2.2.2.2.2.2.2.2.2.2.2.2.2.1,zI K.gone,zI K.new,zI K.af,zz.2.2.2.2.2.2.2.2.2.2.2.2.2.2.2.2.2.2.2.2.2.1] K)) ?_ (fun K1 bF=>?_)
 ·
  rintro⟨b5,b6,MD,Ef,fJ,fI,fH,fG,fF,fE,fD,fB,fC,fA,dv,du,dt,dr,dq,dk,dj,dg,di,de⟩ hJ3 rest
  dsimp only at hJ3
  obtain⟨sR,pf⟩:=hJ3
  refine jd 11 [4,4,4]<|aH 3 fun AY A6 Ad=>jc (vs:=[zP d16,zI K.gone,zI 4]) [5] (uF (hN0.up bW) Lf (by omega) (by omega)) ?_
  rintro _ X26 ⟨Wo,rfl,aNW,RZ,akw⟩
  refine iM Ad [[5],[5]]<|zD 1<|aH 7 fun rZ si qG=>jc (vs:=[zP d16,zI K.new,zI 4]) [0] (uF (hN0.up bW) akw (by omega) (by omega)) ?_
  rintro _ X30 ⟨w30,rfl,aNU,jZ,akv⟩
  refine iM qG [[5]]<|aH 11 fun tw tz rP=>jc (vs:=[zP d16,zI K.af,zI 4]) [0] (uF (hN0.up bW) akv (by omega) (by omega)) ?_
  rintro _ X34 ⟨w34,rfl,aNT,HG,bdW⟩
  refine iM rP []<|aH 13 fun AX A5 BO=>jd 1 [1]<|iM BO []<|zD 1<|aH 15 fun Zq aab X9=>jd 1 [1]<|iM X9 []<|zD 1<|aH 17 fun Zp aaa O2=>jd 1 [1]<|cM O2<|jd 9 [2,2,2]<|jf [3,4] (MD++Ef) (fun baa hs8 hk9=>?_)
  have aRz:=sR _ hs8 (Knows.left hk9)
  have akq:=pf _ hs8 (Knows.right hk9)
  replace hK:=hK.up hs8
  refine jd 4 [3]<|KE (vs:=[.agg ⟨[v0,v1,.slice va 0 vc,v3,v4,v5,v6,v7,zI K.gone,zI K.new,zI K.af,vb]⟩]) [] (fun _ _ h=>h) (zt (K:=K) hK hC hV) ?_
  rintro _ _ ⟨rfl,rfl⟩
  refine jg 0 []<|jd 9 [1]<|KE (vs:=[.agg ⟨[fJ,fI,.slice fC 0 fA,fH,fG,fF,fE,fD,zI Wo,zI w30,zI w34,fB]⟩]) [] (fun _ _ h=>h) (zt (K:=iL K Wo w30 w34) aRz.Oc (hC.Oc (by omega)) hV.Oc) ?_
  rintro _ _ ⟨rfl,rfl⟩
  refine jg 0 []<|jd 9 [2]<|KE (vs:=[.agg ⟨[dv,du,.slice di 0 de,dt,dr,dq,dk,dj,zI 4,zI 4,zI 4,dg]⟩]) [] (fun _ _ h=>h) (zt (K:=iL K 4 4 4) akq.Oc (hC.Oc (by omega)) hV.Oc) ?_
  rintro _ _ ⟨rfl,rfl⟩
  refine jg 0 []<|jd 9 [3]<|KE (vs:=[.agg ⟨[v0,v1,.slice va 0 vc,v3,v4,v5,v6,v7,zI K.gone,zI K.new,zI K.af,vb]⟩]) [] (fun _ _ h=>h) (U4 hK hC hV) ?_
  rintro _ _ ⟨zs,m58,e58,hz,rfl,rfl,yV⟩
  refine jg 0 []<|zD 8 ?_
  have h1:fN K≤fN (iL K Wo w30 w34):=Ew aNW aNU aNT
  have h2:fN (iL K Wo w30 w34)≤fN (iL K 4 4 4):=Ew (K:=iL K Wo w30 w34) (by show Wo≤4;omega) (by show w30≤4;omega) (by show w34≤4;omega)
  refine zD 17<|js 76 (decide ((fN K:Int)>(fN (iL K Wo w30 w34):Int))) (fun O8=>?_) (fun O8=>?_)
  ·
   have ae7:=O8
   replace ae7:=of_decide_eq_true ae7
   exfalso;omega
  have ae7:=O8
  replace ae7:=of_decide_eq_false ae7
  refine zD 5<|zJ 80 ((fN (iL K Wo w30 w34):Int)>(fN (iL K 4 4 4):Int)) (fun AU=>?_) fun AU=>?_
  ·
   exfalso;omega
  refine zD 8<|zJ 82 (e58=9) (fun wX=>?_) fun wX=>?_
  ·
   refine zD 2 ?_
   obtain⟨hz0,hm0⟩:zs=[]∧m58=0:=by rcases yV with ⟨a,b,_⟩| ⟨_,_,c⟩;exact⟨a,b⟩;omega
   have hn0:fN (iL K 4 4 4)=0:=by rw[Cg hV,←hz.length_eq,hz0];rfl
   refine zD 4<|js 85 (decide ((fN (iL K 4 4 4):Int)=0)) (fun O7=>?_) (fun O7=>?_)
   ·
    have Gc:=O7
    replace Gc:=of_decide_eq_true Gc
    refine zD 4<|js 89 (decide (m58=0)) (fun Gb=>?_) (fun Gb=>?_)
    ·
     have vV:=Gb
     replace vV:=of_decide_eq_true vV
     refine KE [] (fun _ _ h=>h) (JU) ?_
     rintro _ _ ⟨rfl,rfl⟩
     refine jg 0 []<|zD 4<|RI qC.a.a (.bool true) [4] [] (bW.trans hs8) ⟨rfl,rfl⟩
    have vV:=Gb
    replace vV:=of_decide_eq_false vV
    exfalso;omega
   have Gc:=O7
   replace Gc:=of_decide_eq_false Gc
   exfalso;omega
  refine zD 3 ?_
  obtain⟨hz1,hm1,xK⟩:zs≠[]∧m58=tS (zs.map C6)∧e58=0:=by rcases yV with ⟨_,_,c⟩|h;omega;exact h
  have hn1:0 <fN (iL K 4 4 4):=by rw[Cg hV,←hz.length_eq];exact List.length_pos_iff.2 hz1
  refine zD 4<|js 94 (decide (e58=0)) (fun Lh=>?_) (fun Lh=>?_)
  ·
   have Ga:=Lh
   replace Ga:=of_decide_eq_true Ga
   refine zD 4<|js 98 (decide ((fN (iL K 4 4 4):Int)>0)) (fun h17=>?_) (fun h17=>?_)
   ·
    have vQ:=h17
    replace vQ:=of_decide_eq_true vQ
    refine jd 4 [3,3]<|ja (K.gone+K.new) (by omega)<|jd 2 [3]<|ja ((K.gone+K.new)+K.af) (by omega)<|zD 3<|js 109 (decide (((K.gone+K.new)+K.af)≥m58)) (fun SP=>?_) (fun SP=>?_)
    ·
     have F8:=SP
     replace F8:=of_decide_eq_true F8
     refine zD 5<|KE [] (fun _ _ h=>h) (JU) ?_
     rintro _ _ ⟨rfl,rfl⟩
     refine jg 0 []<|zD 4<|RI qC.a.a (.bool true) [4] [] (bW.trans hs8) ⟨rfl,rfl⟩
    have F8:=SP
    replace F8:=of_decide_eq_false F8
    refine zD 5<|js 114 (decide ((fN K:Int)=0)) (fun VC=>?_) (fun VC=>?_)
    ·
     have ae3:=VC
     replace ae3:=of_decide_eq_true ae3
     refine KE [] (fun _ _ h=>h) (JU) ?_
     rintro _ _ ⟨rfl,rfl⟩
     refine jg 0 []<|zD 4<|RI qC.a.a (.bool true) [4] [] (bW.trans hs8) ⟨rfl,rfl⟩
    have ae3:=VC
    replace ae3:=of_decide_eq_false ae3
    exfalso;have:=Xv hz (by omega);omega
   have vQ:=h17
   replace vQ:=of_decide_eq_false vQ
   exfalso;omega
  have Ga:=Lh
  replace Ga:=of_decide_eq_false Ga
  exfalso;omega
 refine jd 3 [0,0]<|lD [1,4,5] ⟨fun z8 t9 vN=>?_,fun z11 t12 F4=>?_,fun z14 t15 HR=>?_,trivial⟩
 ·
  refine jc (vs:=[.agg ⟨[v0,v1,.slice va 0 vc,v3,v4,v5,v6,v7,zI K.gone,zI K.new,zI K.af,vb]⟩]) [] (iF hK hC) ?_
  rintro _ MD ⟨_,_,rfl,⟨fJ,fI,fH,fG,fF,fE,fD,fB,fC,fA,uP,KS⟩,sR,rfl⟩
  have oW:=qI.all (K:=K) ⟨fJ,fI,fH,fG,fF,fE,fD,fB,fC,fA,uP,KS⟩
  subst uP
  refine bw vN [1,2,3]<|lD [3,4,5] ⟨fun z17 t18 SN=>?_,fun z20 t21 SL=>?_,fun z23 t24 La=>?_,trivial⟩
  ·
   refine jc (vs:=[.agg ⟨[v0,v1,.slice va 0 vc,v3,v4,v5,v6,v7,zI K.gone,zI K.new,zI K.af,vb]⟩]) [] (iF hK hC) ?_
   rintro _ Ef ⟨_,_,rfl,⟨dv,du,dt,dr,dq,dk,dj,dg,di,de,lu,pe⟩,pf,rfl⟩
   have kR:=qI.all (K:=K) ⟨dv,du,dt,dr,dq,dk,dj,dg,di,de,lu,pe⟩
   subst lu
   refine cM SN<|lD [4,5] ⟨fun z26 t27 F3=>?_,fun z29 t30 O3=>?_,trivial⟩
   ·
    refine jn fun b5=>cM F3<|aH 5 fun alv alP aew=>jn fun b6=>cM aew<|aH 6 fun avL awK aev=>xH 1 b5 0 [zS,zS,zS,zS,zS,zS,zS,zS,zI 0,zI 0,zI 0,zS] [fJ,fI,.slice fC 0 fA,fH,fG,fF,fE,fD,zI K.gone,zI K.new,zI K.af,fB] 40 oW rfl<|cM aev<|aH 7 fun avK awJ atg=>xH 1 b6 0 [zS,zS,zS,zS,zS,zS,zS,zS,zI 0,zI 0,zI 0,zS] [dv,du,.slice di 0 de,dt,dr,dq,dk,dj,zI K.gone,zI K.new,zI K.af,dg] 40 kR rfl<|cM atg<|zD 1<|bI bF ⟨b5,b6,MD,Ef,fJ,fI,fH,fG,fF,fE,fD,fB,fC,fA,dv,du,dt,dr,dq,dk,dj,dg,di,de⟩ ⟨sR,pf⟩ Nat.zero_lt_one [1,0,3,2,4,5,6] (Sub.refl _)
   refine jn fun b6=>cM O3<|aH 4 fun avJ awI atf=>jn fun b5=>cM atf<|aH 6 fun alu alO KZ=>xH 0 b5 0 [zS,zS,zS,zS,zS,zS,zS,zS,zI 0,zI 0,zI 0,zS] [fJ,fI,.slice fC 0 fA,fH,fG,fF,fE,fD,zI K.gone,zI K.new,zI K.af,fB] 40 oW rfl<|cM KZ<|aH 7 fun Zr aac SI=>xH 1 b6 0 [zS,zS,zS,zS,zS,zS,zS,zS,zI 0,zI 0,zI 0,zS] [dv,du,.slice di 0 de,dt,dr,dq,dk,dj,zI K.gone,zI K.new,zI K.af,dg] 40 kR rfl<|cM SI<|zD 1<|bI bF ⟨b5,b6,MD,Ef,fJ,fI,fH,fG,fF,fE,fD,fB,fC,fA,dv,du,dt,dr,dq,dk,dj,dg,di,de⟩ ⟨sR,pf⟩ Nat.zero_lt_one [1,0,3,2,4,5,6] (Sub.refl _)
  ·
   refine jn fun b5=>bw SL [1,2,3,4]<|lD [3,5] ⟨fun z38 t39 aeu=>?_,fun z41 t42 atb=>?_,trivial⟩
   ·
    refine jc (vs:=[.agg ⟨[v0,v1,.slice va 0 vc,v3,v4,v5,v6,v7,zI K.gone,zI K.new,zI K.af,vb]⟩]) [] (iF hK hC) ?_
    rintro _ Ef ⟨_,_,rfl,⟨dv,du,dt,dr,dq,dk,dj,dg,di,de,lu,pe⟩,pf,rfl⟩
    have kR:=qI.all (K:=K) ⟨dv,du,dt,dr,dq,dk,dj,dg,di,de,lu,pe⟩
    subst lu
    refine cM aeu<|aH 5 fun aUj aU9 ata=>jn fun b6=>cM ata<|aH 6 fun aUi aU8 akp=>xH 2 b5 0 [zS,zS,zS,zS,zS,zS,zS,zS,zI 0,zI 0,zI 0,zS] [fJ,fI,.slice fC 0 fA,fH,fG,fF,fE,fD,zI K.gone,zI K.new,zI K.af,fB] 40 oW rfl<|cM akp<|aH 7 fun aUh aU7 as9=>xH 1 b6 0 [zS,zS,zS,zS,zS,zS,zS,zS,zI 0,zI 0,zI 0,zS] [dv,du,.slice di 0 de,dt,dr,dq,dk,dj,zI K.gone,zI K.new,zI K.af,dg] 40 kR rfl<|cM as9<|zD 1<|bI bF ⟨b5,b6,MD,Ef,fJ,fI,fH,fG,fF,fE,fD,fB,fC,fA,dv,du,dt,dr,dq,dk,dj,dg,di,de⟩ ⟨sR,pf⟩ Nat.zero_lt_one [1,0,3,2,4,5,6] (Sub.refl _)
   refine jn fun b6=>bw atb [1,2,3,4,5]<|aH 3 fun aUg aU6 as8=>jc (vs:=[.agg ⟨[v0,v1,.slice va 0 vc,v3,v4,v5,v6,v7,zI K.gone,zI K.new,zI K.af,vb]⟩]) [] (iF hK hC) ?_
   rintro _ Ef ⟨_,_,rfl,⟨dv,du,dt,dr,dq,dk,dj,dg,di,de,lu,pe⟩,pf,rfl⟩
   have kR:=qI.all (K:=K) ⟨dv,du,dt,dr,dq,dk,dj,dg,di,de,lu,pe⟩
   subst lu
   refine cM as8<|aH 6 fun aUf aU5 as7=>xH 2 b5 0 [zS,zS,zS,zS,zS,zS,zS,zS,zI 0,zI 0,zI 0,zS] [fJ,fI,.slice fC 0 fA,fH,fG,fF,fE,fD,zI K.gone,zI K.new,zI K.af,fB] 40 oW rfl<|cM as7<|aH 7 fun avF awE aet=>xH 2 b6 0 [zS,zS,zS,zS,zS,zS,zS,zS,zI 0,zI 0,zI 0,zS] [dv,du,.slice di 0 de,dt,dr,dq,dk,dj,zI K.gone,zI K.new,zI K.af,dg] 40 kR rfl<|cM aet<|zD 1<|bI bF ⟨b5,b6,MD,Ef,fJ,fI,fH,fG,fF,fE,fD,fB,fC,fA,dv,du,dt,dr,dq,dk,dj,dg,di,de⟩ ⟨sR,pf⟩ Nat.zero_lt_one [1,0,3,2,4,5,6] (Sub.refl _)
  refine jn fun b6=>bw La [1,2,3,4]<|lD [3,4] ⟨fun z50 t51 SH=>?_,fun z53 t54 aeq=>?_,trivial⟩
  ·
   refine jc (vs:=[.agg ⟨[v0,v1,.slice va 0 vc,v3,v4,v5,v6,v7,zI K.gone,zI K.new,zI K.af,vb]⟩]) [] (iF hK hC) ?_
   rintro _ Ef ⟨_,_,rfl,⟨dv,du,dt,dr,dq,dk,dj,dg,di,de,lu,pe⟩,pf,rfl⟩
   have kR:=qI.all (K:=K) ⟨dv,du,dt,dr,dq,dk,dj,dg,di,de,lu,pe⟩
   subst lu
   refine cM SH<|aH 4 fun alq alL aep=>jn fun b5=>cM aep<|aH 6 fun alp alK SG=>xH 0 b5 0 [zS,zS,zS,zS,zS,zS,zS,zS,zI 0,zI 0,zI 0,zS] [fJ,fI,.slice fC 0 fA,fH,fG,fF,fE,fD,zI K.gone,zI K.new,zI K.af,fB] 40 oW rfl<|cM SG<|aH 7 fun avB awA as4=>xH 2 b6 0 [zS,zS,zS,zS,zS,zS,zS,zS,zI 0,zI 0,zI 0,zS] [dv,du,.slice di 0 de,dt,dr,dq,dk,dj,zI K.gone,zI K.new,zI K.af,dg] 40 kR rfl<|cM as4<|zD 1<|bI bF ⟨b5,b6,MD,Ef,fJ,fI,fH,fG,fF,fE,fD,fB,fC,fA,dv,du,dt,dr,dq,dk,dj,dg,di,de⟩ ⟨sR,pf⟩ Nat.zero_lt_one [1,0,3,2,4,5,6] (Sub.refl _)
  refine jn fun b5=>bw aeq [1,2,3,4,5]<|aH 3 fun avA awz as3=>jc (vs:=[.agg ⟨[v0,v1,.slice va 0 vc,v3,v4,v5,v6,v7,zI K.gone,zI K.new,zI K.af,vb]⟩]) [] (iF hK hC) ?_
  rintro _ Ef ⟨_,_,rfl,⟨dv,du,dt,dr,dq,dk,dj,dg,di,de,lu,pe⟩,pf,rfl⟩
  have kR:=qI.all (K:=K) ⟨dv,du,dt,dr,dq,dk,dj,dg,di,de,lu,pe⟩
  subst lu
  refine cM as3<|aH 6 fun avz awy aeo=>xH 1 b5 0 [zS,zS,zS,zS,zS,zS,zS,zS,zI 0,zI 0,zI 0,zS] [fJ,fI,.slice fC 0 fA,fH,fG,fF,fE,fD,zI K.gone,zI K.new,zI K.af,fB] 40 oW rfl<|cM aeo<|aH 7 fun alo alJ aen=>xH 2 b6 0 [zS,zS,zS,zS,zS,zS,zS,zS,zI 0,zI 0,zI 0,zS] [dv,du,.slice di 0 de,dt,dr,dq,dk,dj,zI K.gone,zI K.new,zI K.af,dg] 40 kR rfl<|cM aen<|zD 1<|bI bF ⟨b5,b6,MD,Ef,fJ,fI,fH,fG,fF,fE,fD,fB,fC,fA,dv,du,dt,dr,dq,dk,dj,dg,di,de⟩ ⟨sR,pf⟩ Nat.zero_lt_one [1,0,3,2,4,5,6] (Sub.refl _)
 ·
  refine jn fun b5=>bw F4 [1,2,3]<|lD [1,5] ⟨fun z62 t63 as1=>?_,fun z65 t66 asZ=>?_,trivial⟩
  ·
   refine jc (vs:=[.agg ⟨[v0,v1,.slice va 0 vc,v3,v4,v5,v6,v7,zI K.gone,zI K.new,zI K.af,vb]⟩]) [] (iF hK hC) ?_
   rintro _ MD ⟨_,_,rfl,⟨fJ,fI,fH,fG,fF,fE,fD,fB,fC,fA,uP,KS⟩,sR,rfl⟩
   have oW:=qI.all (K:=K) ⟨fJ,fI,fH,fG,fF,fE,fD,fB,fC,fA,uP,KS⟩
   subst uP
   refine bw as1 [1,2,3,4]<|lD [3,5] ⟨fun z68 t69 asY=>?_,fun z71 t72 asX=>?_,trivial⟩
   ·
    refine jc (vs:=[.agg ⟨[v0,v1,.slice va 0 vc,v3,v4,v5,v6,v7,zI K.gone,zI K.new,zI K.af,vb]⟩]) [] (iF hK hC) ?_
    rintro _ Ef ⟨_,_,rfl,⟨dv,du,dt,dr,dq,dk,dj,dg,di,de,lu,pe⟩,pf,rfl⟩
    have kR:=qI.all (K:=K) ⟨dv,du,dt,dr,dq,dk,dj,dg,di,de,lu,pe⟩
    subst lu
    refine cM asY<|aH 5 fun aT6 aUW aRn=>jn fun b6=>cM aRn<|aH 6 fun aT5 aUV aRm=>xH 3 b5 0 [zS,zS,zS,zS,zS,zS,zS,zS,zI 0,zI 0,zI 0,zS] [fJ,fI,.slice fC 0 fA,fH,fG,fF,fE,fD,zI K.gone,zI K.new,zI K.af,fB] 40 oW rfl<|cM aRm<|aH 7 fun aT4 aUU asW=>xH 1 b6 0 [zS,zS,zS,zS,zS,zS,zS,zS,zI 0,zI 0,zI 0,zS] [dv,du,.slice di 0 de,dt,dr,dq,dk,dj,zI K.gone,zI K.new,zI K.af,dg] 40 kR rfl<|cM asW<|zD 1<|bI bF ⟨b5,b6,MD,Ef,fJ,fI,fH,fG,fF,fE,fD,fB,fC,fA,dv,du,dt,dr,dq,dk,dj,dg,di,de⟩ ⟨sR,pf⟩ Nat.zero_lt_one [1,0,3,2,4,5,6] (Sub.refl _)
   refine jn fun b6=>bw asX [1,2,3,4,5]<|aH 3 fun avx aww asV=>jc (vs:=[.agg ⟨[v0,v1,.slice va 0 vc,v3,v4,v5,v6,v7,zI K.gone,zI K.new,zI K.af,vb]⟩]) [] (iF hK hC) ?_
   rintro _ Ef ⟨_,_,rfl,⟨dv,du,dt,dr,dq,dk,dj,dg,di,de,lu,pe⟩,pf,rfl⟩
   have kR:=qI.all (K:=K) ⟨dv,du,dt,dr,dq,dk,dj,dg,di,de,lu,pe⟩
   subst lu
   refine cM asV<|aH 6 fun avw awv asU=>xH 3 b5 0 [zS,zS,zS,zS,zS,zS,zS,zS,zI 0,zI 0,zI 0,zS] [fJ,fI,.slice fC 0 fA,fH,fG,fF,fE,fD,zI K.gone,zI K.new,zI K.af,fB] 40 oW rfl<|cM asU<|aH 7 fun avv awu asT=>xH 2 b6 0 [zS,zS,zS,zS,zS,zS,zS,zS,zI 0,zI 0,zI 0,zS] [dv,du,.slice di 0 de,dt,dr,dq,dk,dj,zI K.gone,zI K.new,zI K.af,dg] 40 kR rfl<|cM asT<|zD 1<|bI bF ⟨b5,b6,MD,Ef,fJ,fI,fH,fG,fF,fE,fD,fB,fC,fA,dv,du,dt,dr,dq,dk,dj,dg,di,de⟩ ⟨sR,pf⟩ Nat.zero_lt_one [1,0,3,2,4,5,6] (Sub.refl _)
  refine jn fun b6=>bw asZ [1,2,3,4]<|aH 1 fun avu awt asS=>jc (vs:=[.agg ⟨[v0,v1,.slice va 0 vc,v3,v4,v5,v6,v7,zI K.gone,zI K.new,zI K.af,vb]⟩]) [] (iF hK hC) ?_
  rintro _ MD ⟨_,_,rfl,⟨fJ,fI,fH,fG,fF,fE,fD,fB,fC,fA,uP,KS⟩,sR,rfl⟩
  have oW:=qI.all (K:=K) ⟨fJ,fI,fH,fG,fF,fE,fD,fB,fC,fA,uP,KS⟩
  subst uP
  refine bw asS [1,2,3,4,5]<|aH 3 fun aT3 aUT aRl=>jc (vs:=[.agg ⟨[v0,v1,.slice va 0 vc,v3,v4,v5,v6,v7,zI K.gone,zI K.new,zI K.af,vb]⟩]) [] (iF hK hC) ?_
  rintro _ Ef ⟨_,_,rfl,⟨dv,du,dt,dr,dq,dk,dj,dg,di,de,lu,pe⟩,pf,rfl⟩
  have kR:=qI.all (K:=K) ⟨dv,du,dt,dr,dq,dk,dj,dg,di,de,lu,pe⟩
  subst lu
  refine cM aRl<|aH 6 fun aT2 aUS aRk=>xH 3 b5 0 [zS,zS,zS,zS,zS,zS,zS,zS,zI 0,zI 0,zI 0,zS] [fJ,fI,.slice fC 0 fA,fH,fG,fF,fE,fD,zI K.gone,zI K.new,zI K.af,fB] 40 oW rfl<|cM aRk<|aH 7 fun aT1 aUR asR=>xH 3 b6 0 [zS,zS,zS,zS,zS,zS,zS,zS,zI 0,zI 0,zI 0,zS] [dv,du,.slice di 0 de,dt,dr,dq,dk,dj,zI K.gone,zI K.new,zI K.af,dg] 40 kR rfl<|cM asR<|zD 1<|bI bF ⟨b5,b6,MD,Ef,fJ,fI,fH,fG,fF,fE,fD,fB,fC,fA,dv,du,dt,dr,dq,dk,dj,dg,di,de⟩ ⟨sR,pf⟩ Nat.zero_lt_one [1,0,3,2,4,5,6] (Sub.refl _)
 refine jn fun b6=>bw HR [1,2,3]<|lD [1,4] ⟨fun z84 t85 asQ=>?_,fun z87 t88 asP=>?_,trivial⟩
 ·
  refine jc (vs:=[.agg ⟨[v0,v1,.slice va 0 vc,v3,v4,v5,v6,v7,zI K.gone,zI K.new,zI K.af,vb]⟩]) [] (iF hK hC) ?_
  rintro _ MD ⟨_,_,rfl,⟨fJ,fI,fH,fG,fF,fE,fD,fB,fC,fA,uP,KS⟩,sR,rfl⟩
  have oW:=qI.all (K:=K) ⟨fJ,fI,fH,fG,fF,fE,fD,fB,fC,fA,uP,KS⟩
  subst uP
  refine bw asQ [1,2,3,4]<|lD [3,4] ⟨fun z90 t91 asO=>?_,fun z93 t94 aRh=>?_,trivial⟩
  ·
   refine jc (vs:=[.agg ⟨[v0,v1,.slice va 0 vc,v3,v4,v5,v6,v7,zI K.gone,zI K.new,zI K.af,vb]⟩]) [] (iF hK hC) ?_
   rintro _ Ef ⟨_,_,rfl,⟨dv,du,dt,dr,dq,dk,dj,dg,di,de,lu,pe⟩,pf,rfl⟩
   have kR:=qI.all (K:=K) ⟨dv,du,dt,dr,dq,dk,dj,dg,di,de,lu,pe⟩
   subst lu
   refine cM asO<|aH 4 fun aTY aUO aRg=>jn fun b5=>cM aRg<|aH 6 fun aTX aUN asN=>xH 0 b5 0 [zS,zS,zS,zS,zS,zS,zS,zS,zI 0,zI 0,zI 0,zS] [fJ,fI,.slice fC 0 fA,fH,fG,fF,fE,fD,zI K.gone,zI K.new,zI K.af,fB] 40 oW rfl<|cM asN<|aH 7 fun aTW aUM aRf=>xH 3 b6 0 [zS,zS,zS,zS,zS,zS,zS,zS,zI 0,zI 0,zI 0,zS] [dv,du,.slice di 0 de,dt,dr,dq,dk,dj,zI K.gone,zI K.new,zI K.af,dg] 40 kR rfl<|cM aRf<|zD 1<|bI bF ⟨b5,b6,MD,Ef,fJ,fI,fH,fG,fF,fE,fD,fB,fC,fA,dv,du,dt,dr,dq,dk,dj,dg,di,de⟩ ⟨sR,pf⟩ Nat.zero_lt_one [1,0,3,2,4,5,6] (Sub.refl _)
  refine jn fun b5=>bw aRh [1,2,3,4,5]<|aH 3 fun aTV aUL aRe=>jc (vs:=[.agg ⟨[v0,v1,.slice va 0 vc,v3,v4,v5,v6,v7,zI K.gone,zI K.new,zI K.af,vb]⟩]) [] (iF hK hC) ?_
  rintro _ Ef ⟨_,_,rfl,⟨dv,du,dt,dr,dq,dk,dj,dg,di,de,lu,pe⟩,pf,rfl⟩
  have kR:=qI.all (K:=K) ⟨dv,du,dt,dr,dq,dk,dj,dg,di,de,lu,pe⟩
  subst lu
  refine cM aRe<|aH 6 fun aIz aK1 aeC=>xH 1 b5 0 [zS,zS,zS,zS,zS,zS,zS,zS,zI 0,zI 0,zI 0,zS] [fJ,fI,.slice fC 0 fA,fH,fG,fF,fE,fD,zI K.gone,zI K.new,zI K.af,fB] 40 oW rfl<|cM aeC<|aH 7 fun anS aox aeB=>xH 3 b6 0 [zS,zS,zS,zS,zS,zS,zS,zS,zI 0,zI 0,zI 0,zS] [dv,du,.slice di 0 de,dt,dr,dq,dk,dj,zI K.gone,zI K.new,zI K.af,dg] 40 kR rfl<|cM aeB<|zD 1<|bI bF ⟨b5,b6,MD,Ef,fJ,fI,fH,fG,fF,fE,fD,fB,fC,fA,dv,du,dt,dr,dq,dk,dj,dg,di,de⟩ ⟨sR,pf⟩ Nat.zero_lt_one [1,0,3,2,4,5,6] (Sub.refl _)
 refine jn fun b5=>bw asP [1,2,3,4]<|aH 1 fun anR aow aeA=>jc (vs:=[.agg ⟨[v0,v1,.slice va 0 vc,v3,v4,v5,v6,v7,zI K.gone,zI K.new,zI K.af,vb]⟩]) [] (iF hK hC) ?_
 rintro _ MD ⟨_,_,rfl,⟨fJ,fI,fH,fG,fF,fE,fD,fB,fC,fA,uP,KS⟩,sR,rfl⟩
 have oW:=qI.all (K:=K) ⟨fJ,fI,fH,fG,fF,fE,fD,fB,fC,fA,uP,KS⟩
 subst uP
 refine bw aeA [1,2,3,4,5]<|aH 3 fun aIy aK0 aDw=>jc (vs:=[.agg ⟨[v0,v1,.slice va 0 vc,v3,v4,v5,v6,v7,zI K.gone,zI K.new,zI K.af,vb]⟩]) [] (iF hK hC) ?_
 rintro _ Ef ⟨_,_,rfl,⟨dv,du,dt,dr,dq,dk,dj,dg,di,de,lu,pe⟩,pf,rfl⟩
 have kR:=qI.all (K:=K) ⟨dv,du,dt,dr,dq,dk,dj,dg,di,de,lu,pe⟩
 subst lu
 refine cM aDw<|aH 6 fun aIx aKZ aDv=>xH 2 b5 0 [zS,zS,zS,zS,zS,zS,zS,zS,zI 0,zI 0,zI 0,zS] [fJ,fI,.slice fC 0 fA,fH,fG,fF,fE,fD,zI K.gone,zI K.new,zI K.af,fB] 40 oW rfl<|cM aDv<|aH 7 fun aIw aKY aez=>xH 3 b6 0 [zS,zS,zS,zS,zS,zS,zS,zS,zI 0,zI 0,zI 0,zS] [dv,du,.slice di 0 de,dt,dr,dq,dk,dj,zI K.gone,zI K.new,zI K.af,dg] 40 kR rfl<|cM aez<|zD 1<|bI bF ⟨b5,b6,MD,Ef,fJ,fI,fH,fG,fF,fE,fD,fB,fC,fA,dv,du,dt,dr,dq,dk,dj,dg,di,de⟩ ⟨sR,pf⟩ Nat.zero_lt_one [1,0,3,2,4,5,6] (Sub.refl _)
theorem Fq(W:World)(hN:Dn (fun b=>W.heap[b]?) vd xs) {Post:Value→World→Prop}
 (O1:∀w:World,(∀(b:Nat) (o:Obj),W.heap[b]?=some o→w.heap[b]?=some o)→w.os=W.os→w.output=W.output→Post (.bool true) w):
 ∃N last o w' t',runNT zT (N+1) (solo (G (Frame.enter zT 3 ⟨[vd]⟩ .normal) []) W) #[]=(.ended o w',t')∧runN zT N (solo (G (Frame.enter zT 3 ⟨[vd]⟩ .normal) []) W)= .next last∧step zT last= .ended o w'∧Good zT Post last o w' t':=by
 have ha:aP ⟨fun b=>W.heap[b]?,[]⟩ W:=⟨fun _ _ h=>h,(fun _ _ h=>(by cases h)),by simp,(fun _ _ h=>(by cases h))⟩
 exact aal ha (ajh hN _ _ _ fun v Y w p6 pn tt Dp=>by
  obtain⟨rfl,rfl⟩:=p6
  exact O1 w (fun b o hb=>pn.ro b o hb) tt Dp)
end Go.L

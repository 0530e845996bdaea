/- Part 7 of the proof. -/
import Derived.Test.YtfamogolneloaaaGreatDoorS6
set_option maxRecDepth 100000
set_option linter.all false
namespace Go.L
open Go Go.Conc Go.Proofs
variable {rs:List cb} {cs fs:List bQ} {hd:List cz} {k b i many b1 b2 bD b3 bl bm bt br bg n b4:Nat} {f t x na nb:ByteArray} {vl vc vh c11 c0 c1 c5 c6 c7 vt:Value} {xs ys l:List ByteArray} {p:ByteArray×ByteArray} {Stop:Cells→Prop} {af gone new lo hi:Int}
theorem aAj{w:ByteArray}{ro:Nat→Option Obj}(hs:1≤w.size∧w.size≤12)(hc:cO w (bs [99,108,97,115,115])=false)(hf:cO w (bs [102,105,110,105,115])=false)(hK:∀b∈w.data.toList,97≤b.toNat∧b.toNat≤122):dz zT 208 [.string w] ro (.bool true):=by
 refine bG av [] [] bh<|zD 11<|jj 4 [(0,.string w),(2,.bool false),(12,.bool ((decide ((w.size:Int)=0))||(decide ((w.size:Int)>12))))] (fun ia=>?_) (fun hj=>?_)
 rotate_left
 refine js 8 (decide ((w.size:Int)=0)) (fun h1=>?_) (fun h1=>?_)
 ·
  have gD:=h1
  replace gD:=of_decide_eq_true gD
  refine zD 4<|jw 12 (.bool ((decide ((w.size:Int)=0))||(decide ((w.size:Int)>12)))) (w:= .bool true) (by rw[h1]<;>rfl) ?_
  exact hj _ (by kernel_rfl) (by kernel_rfl)
 ·
  have gD:=h1
  replace gD:=of_decide_eq_false gD
  refine zD 4<|jw 12 (.bool ((decide ((w.size:Int)=0))||(decide ((w.size:Int)>12)))) (w:= .bool (decide ((w.size:Int)>12))) (by rw[h1]<;>rfl) ?_
  exact hj _ (by kernel_rfl) (by kernel_rfl)
 refine zD 1<|jj 3 [(0,.string w),(2,.bool false),(16,.bool (((decide ((w.size:Int)=0))||(decide ((w.size:Int)>12)))||(cO w (bs [99,108,97,115,115]))))] (fun ia=>?_) (fun hj=>?_)
 rotate_left
 refine js 13 ((decide ((w.size:Int)=0))||(decide ((w.size:Int)>12))) (fun h2=>?_) (fun h2=>?_)
 ·
  have mM:=h2
  try simp only[zB] at mM
  refine zD 3<|jw 16 (.bool (((decide ((w.size:Int)=0))||(decide ((w.size:Int)>12)))||(cO w (bs [99,108,97,115,115])))) (w:= .bool true) (by rw[h2]<;>rfl) ?_
  exact hj _ (by kernel_rfl) (by kernel_rfl)
 ·
  have mM:=h2
  try simp only[zB] at mM
  refine zD 3<|jw 16 (.bool (((decide ((w.size:Int)=0))||(decide ((w.size:Int)>12)))||(cO w (bs [99,108,97,115,115])))) (w:= .bool (cO w (bs [99,108,97,115,115]))) (by rw[h2]<;>rfl) ?_
  exact hj _ (by kernel_rfl) (by kernel_rfl)
 refine zD 1<|jj 3 [(0,.string w),(2,.bool false),(20,.bool ((((decide ((w.size:Int)=0))||(decide ((w.size:Int)>12)))||(cO w (bs [99,108,97,115,115])))||(cO w (bs [102,105,110,105,115]))))] (fun ia=>?_) (fun hj=>?_)
 rotate_left
 refine js 17 (((decide ((w.size:Int)=0))||(decide ((w.size:Int)>12)))||(cO w (bs [99,108,97,115,115]))) (fun h3=>?_) (fun h3=>?_)
 ·
  have wP:=h3
  try simp only[zB] at wP
  refine zD 3<|jw 20 (.bool ((((decide ((w.size:Int)=0))||(decide ((w.size:Int)>12)))||(cO w (bs [99,108,97,115,115])))||(cO w (bs [102,105,110,105,115])))) (w:= .bool true) (by rw[h3]<;>rfl) ?_
  exact hj _ (by kernel_rfl) (by kernel_rfl)
 ·
  have wP:=h3
  try simp only[zB] at wP
  refine zD 3<|jw 20 (.bool ((((decide ((w.size:Int)=0))||(decide ((w.size:Int)>12)))||(cO w (bs [99,108,97,115,115])))||(cO w (bs [102,105,110,105,115])))) (w:= .bool (cO w (bs [102,105,110,105,115]))) (by rw[h3]<;>rfl) ?_
  exact hj _ (by kernel_rfl) (by kernel_rfl)
 refine zD 1<|js 20 ((((decide ((w.size:Int)=0))||(decide ((w.size:Int)>12)))||(cO w (bs [99,108,97,115,115])))||(cO w (bs [102,105,110,105,115]))) (fun h4=>?_) (fun h4=>?_)
 ·
  try simp only[zB] at h4
  exfalso;simp only[hc,hf,Bool.or_false,Bool.or_eq_true,decide_eq_true_eq,Bool.false_eq_true,or_false] at h4;omega
 try simp only[zB] at h4
 refine zD 6<|jn fun r22=>zD 2<|ek [1,1,0,1,0,0] [] (fun(zz:Nat)=>[(22,zP r22)]) (fun(zz:Nat)=>[.b r22 (.stringIter w zz)]) (fun(zz:Nat)=>zz≤w.data.toList.length) (fun(zz:Nat)=>w.data.toList.length-zz) 0 (by omega) [0] ?_
 rintro p hI K1 bM rest
 refine zD 2 ?_
 cases aaJ:w.data.toList[p]? with
 |some vx=>
  refine jnA r22 0 aaJ (by have:=hK _ (List.mem_of_getElem? aaJ);omega) ?_
  refine zD 7 ?_
  have X7:=hK _ (List.mem_of_getElem? aaJ)
  refine zD 9<|jj 3 [(22,zP r22),(31,.bool ((decide ((vx.toNat:Int) <97))||(decide ((vx.toNat:Int)>122))))] (fun ia=>?_) (fun hj=>?_)
  rotate_left
  refine js 28 (decide ((vx.toNat:Int) <97)) (fun h5=>?_) (fun h5=>?_)
  ·
   have NM:=h5
   replace NM:=of_decide_eq_true NM
   refine zD 3<|jw 31 (.bool ((decide ((vx.toNat:Int) <97))||(decide ((vx.toNat:Int)>122)))) (w:= .bool true) (by rw[h5]<;>rfl) ?_
   exact hj _ (by kernel_rfl) (by kernel_rfl)
  ·
   have NM:=h5
   replace NM:=of_decide_eq_false NM
   refine zD 3<|jw 31 (.bool ((decide ((vx.toNat:Int) <97))||(decide ((vx.toNat:Int)>122)))) (w:= .bool (decide ((vx.toNat:Int)>122))) (by rw[h5]<;>rfl) ?_
   exact hj _ (by kernel_rfl) (by kernel_rfl)
  refine zD 1<|js 31 ((decide ((vx.toNat:Int) <97))||(decide ((vx.toNat:Int)>122))) (fun h6=>?_) (fun h6=>?_)
  ·
   try simp only[zB] at h6
   exfalso;omega
  try simp only[zB] at h6
  refine zD 2<|bA bM (p+1) (by have:=(List.getElem?_eq_some_iff.1 aaJ).1;omega) (by have:=(List.getElem?_eq_some_iff.1 aaJ).1;omega) [0] (Sub.refl _)
 |none=>
  refine jnZ r22 0 aaJ<|zD 10<|aH q0 (.bool true) [] [] [] (Sub.refl _) ⟨_,_,rfl,rfl,rfl,rfl⟩
def E7(x y:bQ):Bool:=cO y.name x.name
theorem ash{x y:bQ}{ro:Nat→Option Obj}(hb:ro b=some (.cells ⟨[.string x.name,zI x.under]⟩ 140 (0,0))):dz zT 210 [.agg ⟨[.string y.name,zI y.under]⟩,zP b] ro (.bool (cO y.name x.name)):=by
 refine bG av [] [] bh<|zD 2<|jn fun b2=>jd 7 [0]<|jl (b:=b) (off:=0) (m:=2) (vs:=[.string x.name,zI x.under]) 0 ⟨_,_,_,.inl hb,rfl⟩<|zD 4<|aH q0 (.bool (cO y.name x.name)) [] [] [] (Sub.refl _) ⟨_,_,rfl,rfl,rfl,rfl⟩
theorem asg{v:Value}{x:bQ}{ro:Nat→Option Obj}(hf:bH ro v 2 pK fs)(hn:fs.length≤1000)(hb:ro b=some (.cells ⟨[.string x.name,zI x.under]⟩ 140 (0,0))):dz zT 232 [v,.func (.func 210) ⟨[]⟩ ⟨[zP b]⟩] ro (zI (bP (E7 x) fs 0)):=by
 obtain⟨lV,Cs,Cr,kA,rfl,Fs,v9,vZ⟩:=hf
 refine bG av [] [] bh<|zD 12<|ek [1,0,1,0,0] [] (fun(zz:Nat)=>[(0,.slice lV fs.length kA),(1,.func (.func 210) ⟨[]⟩ ⟨[zP b]⟩),(7,zI (fs.length:Int)),(8,zI (zz:Int))]) (fun(zz:Nat)=>[]) (fun(zz:Nat)=>zz≤fs.length∧bP (E7 x) fs 0=bP (E7 x) (fs.drop zz) zz) (fun(zz:Nat)=>fs.length-zz) 0 ⟨by omega,rfl⟩ [] ?_
 rintro k hI K1 bM rest
 refine zD 5<|zJ 9 ((k:Int) <(fs.length:Int)) (fun h1=>?_) fun h1=>?_
 ·
  refine zD 14 ?_
  obtain⟨eF,dK⟩:=zG fs k
  refine iM kA 2 v9 dK<|jl 0 (vZ _ _ dK)<|jp (vs:=[.agg ⟨[.string eF.name,zI eF.under]⟩,zP b]) [] [] (fun aC hs hZ=>(ash (y:=eF) (hs _ _ hb)))<|zD 1<|js 16 (E7 x eF) (fun h2=>?_) (fun h2=>?_)
  ·
   refine zD 7<|aH q0 (zI (k:Int)) [] [] [] (Sub.refl _) ⟨_,_,rfl,rfl,by rw[hI.2,gM dK,show E7 x eF=true from (by assumption)];rfl,rfl⟩
  refine zD 3<|ja ((k:Int)+1) (by omega)<|zD 2<|bA bM (k+1) ⟨by omega,by rw[hI.2,gM dK,show E7 x eF=false from (by assumption)];rfl⟩ (by omega) [] (Sub.refl _)
 refine zD 7<|aH q0 (zI (-1)) [] [] [] (Sub.refl _) ⟨_,_,rfl,rfl,by rw[hI.2,nn (by omega)],rfl⟩
theorem alj{v:Value}{x:bQ}{ro:Nat→Option Obj}(hf:bH ro v 2 pK fs)(hn:fs.length≤1000)(hb:ro b=some (.cells ⟨[.string x.name,zI x.under]⟩ 140 (0,0))):dz zT 209 [v,.func (.func 210) ⟨[]⟩ ⟨[zP b]⟩] ro (.bool (decide (bP (E7 x) fs 0≥0))):=by
 obtain⟨lV,Cs,Cr,kA,rfl,Fs,v9,vZ⟩:=hf
 refine bG av [] [] bh<|zD 8<|jp (vs:=[.slice lV fs.length kA,.func (.func 210) ⟨[]⟩ ⟨[zP b]⟩]) [] [] (fun aC hs hZ=>asg ((show bH _ _ _ _ _ from ⟨lV,Cs,Cr,kA,rfl,Fs,v9,vZ⟩).up hs) (by first|omega| (simp only[List.length_set,List.length_append,List.length_cons,List.length_nil];omega)) (hs _ _ hb)) ?_
 refine zD 4<|aH q0 (.bool (decide ((bP (E7 x) fs 0)≥0))) [] [] [] (Sub.refl _) ⟨_,_,rfl,rfl,rfl,rfl⟩
def hdP(x y:bC):Bool:=cO y.word x.word
theorem aAr{x y:bC}{ro:Nat→Option Obj}(hb:ro b=some (.cells ⟨[.string x.word,zI x.cls,zI x.oF,x.eC]⟩ 143 (0,0))):dz zT 213 [.agg ⟨[.string y.word,zI y.cls,zI y.oF,y.eC]⟩,zP b] ro (.bool (cO y.word x.word)):=by
 refine bG av [] [] bh<|zD 2<|jn fun b2=>jd 7 [0]<|jl (b:=b) (off:=0) (m:=4) (vs:=[.string x.word,zI x.cls,zI x.oF,x.eC]) 0 ⟨_,_,_,.inl hb,rfl⟩<|zD 4<|aH q0 (.bool (cO y.word x.word)) [] [] [] (Sub.refl _) ⟨_,_,rfl,rfl,rfl,rfl⟩
theorem aAq{v:Value}{fs:List bC}{x:bC}{ro:Nat→Option Obj}(hf:bH ro v 4 mz fs)(hn:fs.length≤1000)(hb:ro b=some (.cells ⟨[.string x.word,zI x.cls,zI x.oF,x.eC]⟩ 143 (0,0))):dz zT 233 [v,.func (.func 213) ⟨[]⟩ ⟨[zP b]⟩] ro (zI (bP (hdP x) fs 0)):=by
 obtain⟨lV,Cs,Cr,kA,rfl,Fs,v9,vZ⟩:=hf
 refine bG av [] [] bh<|zD 12<|ek [1,0,1,0,0] [] (fun(zz:Nat)=>[(0,.slice lV fs.length kA),(1,.func (.func 213) ⟨[]⟩ ⟨[zP b]⟩),(7,zI (fs.length:Int)),(8,zI (zz:Int))]) (fun(zz:Nat)=>[]) (fun(zz:Nat)=>zz≤fs.length∧bP (hdP x) fs 0=bP (hdP x) (fs.drop zz) zz) (fun(zz:Nat)=>fs.length-zz) 0 ⟨by omega,rfl⟩ [] ?_
 rintro k hI K1 bM rest
 refine zD 5<|zJ 9 ((k:Int) <(fs.length:Int)) (fun h1=>?_) fun h1=>?_
 ·
  refine zD 14 ?_
  obtain⟨eF,dK⟩:=zG fs k
  refine iM kA 4 v9 dK<|jl 0 (vZ _ _ dK)<|jp (vs:=[.agg ⟨[.string eF.word,zI eF.cls,zI eF.oF,eF.eC]⟩,zP b]) [] [] (fun aC hs hZ=>(aAr (y:=eF) (hs _ _ hb)))<|zD 1<|js 16 (hdP x eF) (fun h2=>?_) (fun h2=>?_)
  ·
   refine zD 7<|aH q0 (zI (k:Int)) [] [] [] (Sub.refl _) ⟨_,_,rfl,rfl,by rw[hI.2,gM dK,show hdP x eF=true from (by assumption)];rfl,rfl⟩
  refine zD 3<|ja ((k:Int)+1) (by omega)<|zD 2<|bA bM (k+1) ⟨by omega,by rw[hI.2,gM dK,show hdP x eF=false from (by assumption)];rfl⟩ (by omega) [] (Sub.refl _)
 refine zD 7<|aH q0 (zI (-1)) [] [] [] (Sub.refl _) ⟨_,_,rfl,rfl,by rw[hI.2,nn (by omega)],rfl⟩
theorem asd{v:Value}{fs:List bC}{x:bC}{ro:Nat→Option Obj}(hf:bH ro v 4 mz fs)(hn:fs.length≤1000)(hb:ro b=some (.cells ⟨[.string x.word,zI x.cls,zI x.oF,x.eC]⟩ 143 (0,0))):dz zT 212 [v,.func (.func 213) ⟨[]⟩ ⟨[zP b]⟩] ro (.bool (decide (bP (hdP x) fs 0≥0))):=by
 obtain⟨lV,Cs,Cr,kA,rfl,Fs,v9,vZ⟩:=hf
 refine bG av [] [] bh<|zD 8<|jp (vs:=[.slice lV fs.length kA,.func (.func 213) ⟨[]⟩ ⟨[zP b]⟩]) [] [] (fun aC hs hZ=>aAq ((show bH _ _ _ _ _ from ⟨lV,Cs,Cr,kA,rfl,Fs,v9,vZ⟩).up hs) (by first|omega| (simp only[List.length_set,List.length_append,List.length_cons,List.length_nil];omega)) (hs _ _ hb)) ?_
 refine zD 4<|aH q0 (.bool (decide ((bP (hdP x) fs 0)≥0))) [] [] [] (Sub.refl _) ⟨_,_,rfl,rfl,rfl,rfl⟩
def Ay(w:ByteArray):Bool:=Nat.ble 1 w.size&&(Nat.ble w.size 12&&(!cO w (bs [99,108,97,115,115])&&(!cO w (bs [102,105,110,105,115])&&w.data.toList.all fun b=>Nat.ble 97 b.toNat&&Nat.ble b.toNat 122)))
theorem Zu:∀w∈nT,Ay w=true:=List.all_eq_true.1 (by kernel_rfl)
theorem abl:∀w∈pY,Ay w=true:=List.all_eq_true.1 (by kernel_rfl)
theorem ac5{w:ByteArray}{ro:Nat→Option Obj}(h:Ay w=true):dz zT 208 [.string w] ro (.bool true):=by
 simp only[Ay,Bool.and_eq_true,Nat.ble_eq,Bool.not_eq_true',List.all_eq_true] at h
 exact aAj ⟨h.1,h.2.1⟩ h.2.2.1 h.2.2.2.1 h.2.2.2.2
structure lR(cs:List bQ)(hd:List cz):Prop where
 nc:0 <cs.length∧cs.length≤6
 nh:hd.length≤6
 cls:∀(i:Nat) (c:bQ),cs[i]?=some c→Ay c.name=true∧ -1≤c.under∧c.under <i
 names:(cs.map (·.name)).Pairwise fun a b=>cO a b=false
 Bg:∀(i:Nat) (x:cz),hd[i]?=some x→Ay x.word=true∧gZ cs.length hd.length i x
 words:(hd.map (·.word)).Pairwise fun a b=>cO a b=false∧strLt b a=false
theorem xu.v(h:xu cs hd):lR cs hd:=
 ⟨⟨h.nc.1,by have:=h.nc.2;omega⟩,by have:=h.nh;omega,fun i c hc=>⟨Zu _ (h.cls i c hc).1,(h.cls i c hc).2⟩,h.names,fun i x hx=>⟨abl _ (h.Bg i x hx).1,(h.Bg i x hx).2⟩,h.words⟩
theorem RR{α:Type}{p:α→α→Bool}{l:List α}{x:α}(h:l.Pairwise fun y x=>p x y=false)(hx:l[i]?=some x):bP (p x) (l.take i) 0 <0:=by
 rw[Dh]
 ·omega
 intro y hy
 obtain⟨j,hj⟩:=List.getElem?_of_mem hy
 rw[List.getElem?_take] at hj
 split at hj
 ·rename_i Ak
  exact qv h Ak hj hx
 cases hj
theorem aom{x:bQ}(h:lR cs hd)(hx:cs[i]?=some x):bP (E7 x) (cs.take i) 0 <0:=
 RR (p:=E7) (List.pairwise_map.1 h.names) hx
theorem OX{hv:List bC}(h:dD dO hv hd):hv.map (·.word)=hd.map (·.word):=by
 induction h with
 |nil=>rfl
 |cons h1 _ ih=>simp only[List.map_cons,h1.1,ih]
theorem av4{hv:List bC}{x:bC}(h:lR cs hd)(hs:dD dO hv hd)(hx:hv[i]?=some x):bP (hdP x) (hv.take i) 0 <0:=
 RR (p:=hdP) ((List.pairwise_map.1 (OX hs▸h.words)).imp fun h=>h.1) hx
theorem aEM{hv:List bC}{j:Nat}{x y:bC}(h:lR cs hd)(hs:dD dO hv hd)(IQ:j <i)(hx:hv[i]?=some x) (hy:hv[j]?=some y):strLt x.word y.word=false:=
 (qv (List.pairwise_map.1 (OX hs▸h.words)) IQ hy hx).2
theorem adq{ro:Nat→Option Obj}{nc nh:Nat}{x:bC}{y:cz}(h:gZ nc nh i y)(hr:rV ro x y):
 (-1≤x.cls∧x.cls <nc)∧(-1≤x.oF∧x.oF <nh∧x.oF≠i)∧(y.eC.length≤nh∧y.eC.Pairwise (· < ·)∧∀z∈y.eC,0≤z∧z <nh∧z≠i)∧(x.oF≠ -1→x.cls= -1∧y.eC.length=0)∧(x.oF= -1→x.cls= -1→y.eC.length≠0):=by
 rw[hr.2.1,hr.2.2.1]
 exact⟨h.1,h.2.1,h.2.2.1,fun a=>⟨(h.2.2.2.1 a).1,by rw[(h.2.2.2.1 a).2];rfl⟩,fun a b c=>h.2.2.2.2 a b (List.eq_nil_of_length_eq_zero c)⟩
theorem asj{v:Value}{ro:Nat→Option Obj}(hc:bH ro v 2 pK cs)(hT:lR cs hd)(hi:i <cs.length):dz zT 182 [v,zI (i:Int)] ro (zI 0):=by
 obtain⟨dj,AP,AO,de,rfl,DW,yU,yT⟩:=hc
 have Ec:=hT.nc
 refine bG av [] [] bh<|zD 8 ?_
 obtain⟨x8,hx8⟩:=zG cs i
 refine iM de 2 yU hx8<|jl 0 (yT _ _ hx8)<|jn fun b5=>jd 5 [0] ?_
 have iZ:=hT.cls _ _ hx8
 have hcn:bP (E7 x8) (cs.take (i:Int).toNat) 0 <0:=aom hT hx8
 have htk:(cs.take (i:Int).toNat).length≤cs.length:=by rw[List.length_take];omega
 refine jd 3 [0]<|jp (vs:=[.string x8.name]) [] [] (fun aC hs hZ=>(ac5 iZ.1))<|zD 8<|jcH (hi:=(i:Int)) (show bH _ _ _ _ _ from ⟨dj,AP,AO,de,rfl,DW,yU,yT⟩) (by omega) (fun v18 auJ=>?_)
 obtain⟨apG,aBc,aA8,apF,rfl,aBa,aBb,aA9⟩:=auJ
 refine zD 1<|jp (vs:=[.slice apG ((((cs).take (i:Int).toNat)).length) apF,.func (.func 210) ⟨[]⟩ ⟨[zP b5]⟩]) [0] [(b5,.cells ⟨[.string x8.name,zI x8.under]⟩ 140 (0,0))] (fun aC hs hZ=>alj (x:=x8) ((show bH _ _ _ _ _ from ⟨apG,aBc,aA8,apF,rfl,aBa,aBb,aA9⟩).up hs) (by first|omega| (simp only[List.length_set,List.length_append,List.length_cons,List.length_nil];omega)) hZ.head) ?_
 refine zD 2<|js 15 (decide (bP (E7 x8) ((cs).take (i:Int).toNat) 0≥0)) (fun h1=>?_) (fun h1=>?_)
 ·
  exfalso;have:=of_decide_eq_true h1;omega
 refine jd 7 [0]<|ja ((cs.length:Int)-1) (by omega)<|jp (vs:=[zI x8.under,zI (-1),zI ((cs.length:Int)-1)]) [] [] (fun aC hs hZ=>jC)<|zD 3<|js 21 (!(iC x8.under (-1) ((cs.length:Int)-1))) (fun h2=>?_) (fun h2=>?_)
 ·
  try simp only[zB] at h2
  exfalso;simp only[iC,Bool.and_eq_false_iff,decide_eq_false_iff_not] at h2;omega
 try simp only[zB] at h2
 refine jd 9 [0]<|zJ 29 (x8.under≥(i:Int)) (fun h3=>?_) fun h3=>?_
 ·
  exfalso;omega
 refine zD 7<|aH q0 (zI 0) [] [] [] (Sub.refl _) ⟨_,_,rfl,rfl,rfl,rfl⟩
theorem aAp{hv:List bC}{ro:Nat→Option Obj}(hR:jY ro vc vh cs hv hd)(oP:dD dO hv hd)(hT:lR cs hd)(hi:i <hv.length):dz zT 183 [.agg ⟨[vc,vh]⟩,zI (i:Int)] ro (zI 0):=by
 obtain⟨hc,hh,dk⟩:=id hR
 obtain⟨dj,AP,AO,de,rfl,DW,yU,yT⟩:=hc
 obtain⟨cK,sr,sq,cA,rfl,tN,py,px⟩:=hh
 have Ec:=hT.nc
 have hnh:=hT.nh
 have hlen:=oP.len
 refine bG av [] [] bh<|zD 2<|jn fun b2=>jd 9 [0,0] ?_
 obtain⟨eF,dK⟩:=zG hv i
 refine iM cA 4 py dK<|jl 0 (px _ _ dK)<|aM 7 fun B4 Cc yy=>jn fun b6=>bI yy [1]<|zD 1<|aM 9 fun B3 Cb zp=>jsx 0 b6 0 [.string ByteArray.empty,zI 0,zI 0,zS] [.string eF.word,zI eF.cls,zI eF.oF,eF.eC] 143 (m9 dk _ (List.mem_of_getElem? dK)) rfl<|eo zp<|zD 4 ?_
 obtain⟨Fg,aCS,auP⟩:=dk.get dK
 obtain⟨fL,sj,si,fp,hqe,tZ,lU,mS⟩:=auP.2.2.2
 have aRv:=(hT.Bg _ _ aCS).1
 have hsh:=adq (hT.Bg _ _ aCS).2 auP
 obtain⟨bB,nJ,IK,fA,hs5⟩:=hsh
 have hwb:Ay eF.word=true:=by rw[auP.1];exact aRv
 have hcn:bP (hdP eF) (hv.take (i:Int).toNat) 0 <0:=av4 hT oP dK
 have htk:(hv.take (i:Int).toNat).length≤hv.length:=by rw[List.length_take];omega
 refine jmw 0 [.b b6 (.cells ⟨[.string eF.word,zI eF.cls,zI eF.oF,.slice fL Fg.eC.length fp]⟩ 143 (0,0))] (L:=[(b6,.cells ⟨[.string eF.word,zI eF.cls,zI eF.oF,eF.eC]⟩ 143 (0,0))]) (by rw[hqe];rfl) ?_
 refine jd 3 [0]<|jp (vs:=[.string eF.word]) [] [] (fun aC hs hZ=>(ac5 hwb))<|zD 8<|jcH (hi:=(i:Int)) (show bH _ _ _ _ _ from ⟨cK,sr,sq,cA,rfl,tN,py,px⟩) (by omega) (fun v24 aRO=>?_)
 obtain⟨apE,aA7,aA3,apD,rfl,aA5,aA6,aA4⟩:=aRO
 refine zD 1<|jp (vs:=[.slice apE ((((hv).take (i:Int).toNat)).length) apD,.func (.func 213) ⟨[]⟩ ⟨[zP b6]⟩]) [0] [(b6,.cells ⟨[.string eF.word,zI eF.cls,zI eF.oF,.slice fL Fg.eC.length fp]⟩ 143 (0,0))] (fun aC hs hZ=>asd (x:=eF) ((show bH _ _ _ _ _ from ⟨apE,aA7,aA3,apD,rfl,aA5,aA6,aA4⟩).up hs) (by first|omega| (simp only[List.length_set,List.length_append,List.length_cons,List.length_nil];omega)) (by rw[hqe];exact hZ.head)) ?_
 refine zD 2<|js 21 (decide (bP (hdP eF) ((hv).take (i:Int).toNat) 0≥0)) (fun h3=>?_) (fun h3=>?_)
 ·
  exfalso;have:=of_decide_eq_true h3;omega
 refine zD 6<|js 2 (decide ((i:Int)>0)) (fun h4=>?_) (fun h4=>?_)
 ·
  have yz:=h4
  replace yz:=of_decide_eq_true yz
  refine jd 4 [0]<|ja ((i:Int)-1) (by omega) ?_
  obtain⟨x36,zd⟩:=zG hv (((i:Int)-1).toNat)
  refine OB ((i:Int)-1) cA 4 py zd (by omega)<|zD 1<|jl 0 (px _ _ zd)<|zD 4<|js 27 (strLt eF.word x36.word) (fun h5=>?_) (fun h5=>?_)
  ·
   exfalso;rw[aEM hT oP (by omega) dK zd] at h5;cases h5
  refine jd 9 [0,1]<|ja ((cs.length:Int)-1) (by omega)<|jp (vs:=[zI eF.cls,zI (-1),zI ((cs.length:Int)-1)]) [] [] (fun aC hs hZ=>jC)<|zD 3<|js 41 (!(iC eF.cls (-1) ((cs.length:Int)-1))) (fun h6=>?_) (fun h6=>?_)
  ·
   try simp only[zB] at h6
   exfalso;simp only[iC,Bool.and_eq_false_iff,decide_eq_false_iff_not] at h6;omega
  try simp only[zB] at h6
  refine jd 6 [0]<|ja ((hv.length:Int)-1) (by omega)<|jp (vs:=[zI eF.oF,zI (-1),zI ((hv.length:Int)-1)]) [] [] (fun aC hs hZ=>jC)<|zD 3<|js 41 (!(iC eF.oF (-1) ((hv.length:Int)-1))) (fun h7=>?_) (fun h7=>?_)
  ·
   try simp only[zB] at h7
   exfalso;simp only[iC,Bool.and_eq_false_iff,decide_eq_false_iff_not] at h7;omega
  try simp only[zB] at h7
  refine jd 9 [0]<|zJ 57 (eF.oF=(i:Int)) (fun h8=>?_) fun h8=>?_
  ·
   exfalso;omega
  refine jd 11 [0]<|ek [1,1,1,0,1,0,0] [] (fun(zz:Nat)=>[(1,zI (i:Int)),(5,.slice cK hv.length cA),(6,zP b6),(63,.slice fL Fg.eC.length fp),(64,zI (Fg.eC.length:Int)),(65,zI (zz:Int))]) (fun(zz:Nat)=>[.b b6 (.cells ⟨[.string eF.word,zI eF.cls,zI eF.oF,.slice fL Fg.eC.length fp]⟩ 143 (0,0))]) (fun(zz:Nat)=>zz≤Fg.eC.length) (fun(zz:Nat)=>Fg.eC.length-zz) 0 (by omega) [0] ?_
  rintro k hI K3 hK3 rest
  refine zD 5<|zJ 66 ((k:Int) <(Fg.eC.length:Int)) (fun h9=>?_) fun h9=>?_
  ·
   refine zD 7 ?_
   obtain⟨x68,Nn⟩:=zG Fg.eC k
   refine iM fp 1 lU Nn<|jl 0 (mS _ _ Nn)<|zD 5 ?_
   have aUt:=IK.2.2 _ (List.mem_of_getElem? Nn)
   refine zD 4<|ja ((hv.length:Int)-1) (by omega)<|jp (vs:=[zI x68,zI 0,zI ((hv.length:Int)-1)]) [] [] (fun aC hs hZ=>jC)<|zD 3<|js 70 (!(iC x68 0 ((hv.length:Int)-1))) (fun FG=>?_) (fun FG=>?_)
   ·
    try simp only[zB] at FG
    exfalso;simp only[iC,Bool.and_eq_false_iff,decide_eq_false_iff_not] at FG;omega
   try simp only[zB] at FG
   refine zD 8<|zJ 77 (x68=(i:Int)) (fun HG=>?_) fun HG=>?_
   ·
    exfalso;omega
   refine zD 6<|js 84 (decide ((k:Int)>0)) (fun BY=>?_) (fun BY=>?_)
   ·
    have air:=BY
    replace air:=of_decide_eq_true air
    refine jd 4 [0]<|ja ((k:Int)-1) (by omega) ?_
    obtain⟨x90,Ur⟩:=zG Fg.eC (((k:Int)-1).toNat)
    refine OB ((k:Int)-1) fp 1 lU Ur (by omega)<|jl 0 (mS _ _ Ur)<|zD 4<|zJ 81 (x68≤x90) (fun Ap=>?_) fun Ap=>?_
    ·
     exfalso;have:=qv IK.2.1 (show ((k:Int)-1).toNat <k by omega) Ur Nn;omega
    refine zD 3<|ja ((k:Int)+1) (by omega)<|zD 2<|bA hK3 (k+1) (by omega) (by omega) [0] (Sub.refl _)
   have air:=BY
   replace air:=of_decide_eq_false air
   refine zD 14<|ja ((k:Int)+1) (by omega)<|zD 2<|bA hK3 (k+1) (by omega) (by omega) [0] (Sub.refl _)
  refine jd 9 [0]<|js 98 (!decide (eF.oF=(-1))) (fun Rv=>?_) (fun Rv=>?_)
  ·
   have HF:=Rv
   replace HF:=of_decide_eq_false (by simpa using HF)
   refine jd 4 [0]<|js 102 (!decide (eF.cls=(-1))) (fun HE=>?_) (fun HE=>?_)
   ·
    have wQ:=HE
    replace wQ:=of_decide_eq_false (by simpa using wQ)
    refine zD 29 ?_
    exfalso;omega
   have wQ:=HE
   replace wQ:=of_decide_eq_true (by simpa using wQ)
   refine jd 7 [0]<|js 109 (decide ((Fg.eC.length:Int)>0)) (fun NN=>?_) (fun NN=>?_)
   ·
    have HD:=NN
    replace HD:=of_decide_eq_true HD
    refine zD 22 ?_
    exfalso;omega
   have HD:=NN
   replace HD:=of_decide_eq_false HD
   refine jd 4 [0]<|js 113 (decide (eF.oF=(-1))) (fun h17=>?_) (fun h17=>?_)
   ·
    have HC:=h17
    replace HC:=of_decide_eq_true HC
    refine jd 5 [0]<|js 118 (decide (eF.cls=(-1))) (fun Ru=>?_) (fun Ru=>?_)
    ·
     have aip:=Ru
     replace aip:=of_decide_eq_true aip
     refine jd 7 [0]<|zJ 124 ((Fg.eC.length:Int)=0) (fun Yn=>?_) fun Yn=>?_
     ·
      exfalso;(try simp only[Bool.or_eq_true,Bool.and_eq_true,decide_eq_true_eq,Bool.not_eq_true',decide_eq_false_iff_not] at Yn);omega
     refine zD 7<|aH q0 (zI 0) [] [] [] (Sub.refl _) ⟨_,_,rfl,rfl,rfl,rfl⟩
    have aip:=Ru
    replace aip:=of_decide_eq_false aip
    refine zD 14<|aH q0 (zI 0) [] [] [] (Sub.refl _) ⟨_,_,rfl,rfl,rfl,rfl⟩
   have HC:=h17
   replace HC:=of_decide_eq_false HC
   refine zD 19<|aH q0 (zI 0) [] [] [] (Sub.refl _) ⟨_,_,rfl,rfl,rfl,rfl⟩
  have HF:=Rv
  replace HF:=of_decide_eq_true (by simpa using HF)
  refine jd 15 [0]<|js 113 (decide (eF.oF=(-1))) (fun h20=>?_) (fun h20=>?_)
  ·
   have aio:=h20
   replace aio:=of_decide_eq_true aio
   refine jd 5 [0]<|js 118 (decide (eF.cls=(-1))) (fun h21=>?_) (fun h21=>?_)
   ·
    have ain:=h21
    replace ain:=of_decide_eq_true ain
    refine jd 7 [0]<|zJ 124 ((Fg.eC.length:Int)=0) (fun FE=>?_) fun FE=>?_
    ·
     exfalso;(try simp only[Bool.or_eq_true,Bool.and_eq_true,decide_eq_true_eq,Bool.not_eq_true',decide_eq_false_iff_not] at FE);omega
    refine zD 7<|aH q0 (zI 0) [] [] [] (Sub.refl _) ⟨_,_,rfl,rfl,rfl,rfl⟩
   have ain:=h21
   replace ain:=of_decide_eq_false ain
   refine zD 14<|aH q0 (zI 0) [] [] [] (Sub.refl _) ⟨_,_,rfl,rfl,rfl,rfl⟩
  have aio:=h20
  replace aio:=of_decide_eq_false aio
  refine zD 19<|aH q0 (zI 0) [] [] [] (Sub.refl _) ⟨_,_,rfl,rfl,rfl,rfl⟩
 have yz:=h4
 replace yz:=of_decide_eq_false yz
 refine jd 21 [0,1]<|ja ((cs.length:Int)-1) (by omega)<|jp (vs:=[zI eF.cls,zI (-1),zI ((cs.length:Int)-1)]) [] [] (fun aC hs hZ=>jC)<|zD 3<|js 41 (!(iC eF.cls (-1) ((cs.length:Int)-1))) (fun Ao=>?_) (fun Ao=>?_)
 ·
  try simp only[zB] at Ao
  exfalso;simp only[iC,Bool.and_eq_false_iff,decide_eq_false_iff_not] at Ao;omega
 try simp only[zB] at Ao
 refine jd 6 [0]<|ja ((hv.length:Int)-1) (by omega)<|jp (vs:=[zI eF.oF,zI (-1),zI ((hv.length:Int)-1)]) [] [] (fun aC hs hZ=>jC)<|zD 3<|js 41 (!(iC eF.oF (-1) ((hv.length:Int)-1))) (fun h24=>?_) (fun h24=>?_)
 ·
  try simp only[zB] at h24
  exfalso;simp only[iC,Bool.and_eq_false_iff,decide_eq_false_iff_not] at h24;omega
 try simp only[zB] at h24
 refine jd 9 [0]<|zJ 57 (eF.oF=(i:Int)) (fun h25=>?_) fun h25=>?_
 ·
  exfalso;omega
 refine jd 11 [0]<|ek [1,1,1,0,1,0,0] [] (fun(zz:Nat)=>[(1,zI (i:Int)),(5,.slice cK hv.length cA),(6,zP b6),(63,.slice fL Fg.eC.length fp),(64,zI (Fg.eC.length:Int)),(65,zI (zz:Int))]) (fun(zz:Nat)=>[.b b6 (.cells ⟨[.string eF.word,zI eF.cls,zI eF.oF,.slice fL Fg.eC.length fp]⟩ 143 (0,0))]) (fun(zz:Nat)=>zz≤Fg.eC.length) (fun(zz:Nat)=>Fg.eC.length-zz) 0 (by omega) [0] ?_
 rintro k hI K4 hK4 rest
 refine zD 5<|zJ 66 ((k:Int) <(Fg.eC.length:Int)) (fun h26=>?_) fun h26=>?_
 ·
  refine zD 7 ?_
  obtain⟨x68,Nn⟩:=zG Fg.eC k
  refine iM fp 1 lU Nn<|jl 0 (mS _ _ Nn)<|zD 5 ?_
  have aUt:=IK.2.2 _ (List.mem_of_getElem? Nn)
  refine zD 4<|ja ((hv.length:Int)-1) (by omega)<|jp (vs:=[zI x68,zI 0,zI ((hv.length:Int)-1)]) [] [] (fun aC hs hZ=>jC)<|zD 3<|js 70 (!(iC x68 0 ((hv.length:Int)-1))) (fun h27=>?_) (fun h27=>?_)
  ·
   try simp only[zB] at h27
   exfalso;simp only[iC,Bool.and_eq_false_iff,decide_eq_false_iff_not] at h27;omega
  try simp only[zB] at h27
  refine zD 8<|zJ 77 (x68=(i:Int)) (fun h28=>?_) fun h28=>?_
  ·
   exfalso;omega
  refine zD 6<|js 84 (decide ((k:Int)>0)) (fun h29=>?_) (fun h29=>?_)
  ·
   have aij:=h29
   replace aij:=of_decide_eq_true aij
   refine jd 4 [0]<|ja ((k:Int)-1) (by omega) ?_
   obtain⟨x90,Ur⟩:=zG Fg.eC (((k:Int)-1).toNat)
   refine OB ((k:Int)-1) fp 1 lU Ur (by omega)<|jl 0 (mS _ _ Ur)<|zD 4<|zJ 81 (x68≤x90) (fun h30=>?_) fun h30=>?_
   ·
    exfalso;have:=qv IK.2.1 (show ((k:Int)-1).toNat <k by omega) Ur Nn;omega
   refine zD 3<|ja ((k:Int)+1) (by omega)<|zD 2<|bA hK4 (k+1) (by omega) (by omega) [0] (Sub.refl _)
  have aij:=h29
  replace aij:=of_decide_eq_false aij
  refine zD 14<|ja ((k:Int)+1) (by omega)<|zD 2<|bA hK4 (k+1) (by omega) (by omega) [0] (Sub.refl _)
 refine jd 9 [0]<|js 98 (!decide (eF.oF=(-1))) (fun h31=>?_) (fun h31=>?_)
 ·
  have aih:=h31
  replace aih:=of_decide_eq_false (by simpa using aih)
  refine jd 4 [0]<|js 102 (!decide (eF.cls=(-1))) (fun h32=>?_) (fun h32=>?_)
  ·
   have aie:=h32
   replace aie:=of_decide_eq_false (by simpa using aie)
   refine zD 29 ?_
   exfalso;omega
  have aie:=h32
  replace aie:=of_decide_eq_true (by simpa using aie)
  refine jd 7 [0]<|js 109 (decide ((Fg.eC.length:Int)>0)) (fun h33=>?_) (fun h33=>?_)
  ·
   have aid:=h33
   replace aid:=of_decide_eq_true aid
   refine zD 22 ?_
   exfalso;omega
  have aid:=h33
  replace aid:=of_decide_eq_false aid
  refine jd 4 [0]<|js 113 (decide (eF.oF=(-1))) (fun h34=>?_) (fun h34=>?_)
  ·
   have aic:=h34
   replace aic:=of_decide_eq_true aic
   refine jd 5 [0]<|js 118 (decide (eF.cls=(-1))) (fun Vj=>?_) (fun Vj=>?_)
   ·
    have aib:=Vj
    replace aib:=of_decide_eq_true aib
    refine jd 7 [0]<|zJ 124 ((Fg.eC.length:Int)=0) (fun Ym=>?_) fun Ym=>?_
    ·
     exfalso;(try simp only[Bool.or_eq_true,Bool.and_eq_true,decide_eq_true_eq,Bool.not_eq_true',decide_eq_false_iff_not] at Ym);omega
    refine zD 7<|aH q0 (zI 0) [] [] [] (Sub.refl _) ⟨_,_,rfl,rfl,rfl,rfl⟩
   have aib:=Vj
   replace aib:=of_decide_eq_false aib
   refine zD 14<|aH q0 (zI 0) [] [] [] (Sub.refl _) ⟨_,_,rfl,rfl,rfl,rfl⟩
  have aic:=h34
  replace aic:=of_decide_eq_false aic
  refine zD 19<|aH q0 (zI 0) [] [] [] (Sub.refl _) ⟨_,_,rfl,rfl,rfl,rfl⟩
 have aih:=h31
 replace aih:=of_decide_eq_true (by simpa using aih)
 refine jd 15 [0]<|js 113 (decide (eF.oF=(-1))) (fun h37=>?_) (fun h37=>?_)
 ·
  have aia:=h37
  replace aia:=of_decide_eq_true aia
  refine jd 5 [0]<|js 118 (decide (eF.cls=(-1))) (fun h38=>?_) (fun h38=>?_)
  ·
   have ah9:=h38
   replace ah9:=of_decide_eq_true ah9
   refine jd 7 [0]<|zJ 124 ((Fg.eC.length:Int)=0) (fun S4=>?_) fun S4=>?_
   ·
    exfalso;(try simp only[Bool.or_eq_true,Bool.and_eq_true,decide_eq_true_eq,Bool.not_eq_true',decide_eq_false_iff_not] at S4);omega
   refine zD 7<|aH q0 (zI 0) [] [] [] (Sub.refl _) ⟨_,_,rfl,rfl,rfl,rfl⟩
  have ah9:=h38
  replace ah9:=of_decide_eq_false ah9
  refine zD 14<|aH q0 (zI 0) [] [] [] (Sub.refl _) ⟨_,_,rfl,rfl,rfl,rfl⟩
 have aia:=h37
 replace aia:=of_decide_eq_false aia
 refine zD 19<|aH q0 (zI 0) [] [] [] (Sub.refl _) ⟨_,_,rfl,rfl,rfl,rfl⟩
theorem Wz{hv:List bC}{ro:Nat→Option Obj}(hR:jY ro vc vh cs hv hd)(oP:dD dO hv hd)(hT:lR cs hd):dz zT 154 [.agg ⟨[vc,vh]⟩] ro (zI 0):=by
 obtain⟨hc,hh,dk⟩:=id hR
 obtain⟨dj,AP,AO,de,rfl,DW,yU,yT⟩:=hc
 obtain⟨cK,sr,sq,cA,rfl,tN,py,px⟩:=hh
 have Ec:=hT.nc
 have hnh:=hT.nh
 have hlen:=oP.len
 refine bG av [] [] bh<|zD 2<|jn fun b1=>jd 10 [0]<|jj 5 [(1,zP b1),(2,zI 0),(16,.bool ((decide ((cs.length:Int)>6))||(decide ((hv.length:Int)>6))))] (fun ia=>?_) (fun hj=>?_)
 rotate_left
 refine js 11 (decide ((cs.length:Int)>6)) (fun h1=>?_) (fun h1=>?_)
 ·
  have gD:=h1
  replace gD:=of_decide_eq_true gD
  refine zD 5<|jw 16 (.bool ((decide ((cs.length:Int)>6))||(decide ((hv.length:Int)>6)))) (w:= .bool true) (by rw[h1]<;>rfl) ?_
  exact hj _ (by kernel_rfl) (by kernel_rfl)
 ·
  have gD:=h1
  replace gD:=of_decide_eq_false gD
  refine jd 5 [0]<|jw 16 (.bool ((decide ((cs.length:Int)>6))||(decide ((hv.length:Int)>6)))) (w:= .bool (decide ((hv.length:Int)>6))) (by rw[h1]<;>rfl) ?_
  exact hj _ (by kernel_rfl) (by kernel_rfl)
 refine zD 1<|js 16 ((decide ((cs.length:Int)>6))||(decide ((hv.length:Int)>6))) (fun h2=>?_) (fun h2=>?_)
 ·
  try simp only[zB] at h2
  exfalso;omega
 try simp only[zB] at h2
 refine jd 11 [0]<|ek [1,1,0,1,0,0] [] (fun(zz:Nat)=>[(1,zP b1),(19,zI (cs.length:Int)),(20,zI (zz:Int))]) (fun(zz:Nat)=>[.b b1 (.cells ⟨[.slice dj cs.length de,.slice cK hv.length cA]⟩ 35 (0,0))]) (fun(zz:Nat)=>zz≤cs.length) (fun(zz:Nat)=>cs.length-zz) 0 (by omega) [0] ?_
 rintro k hI K1 bM rest
 refine zD 5<|zJ 21 ((k:Int) <(cs.length:Int)) (fun h3=>?_) fun h3=>?_
 ·
  refine jd 14 [0]<|jp (vs:=[.slice dj cs.length de,zI (k:Int)]) [] [] (fun aC hs hZ=>asj ((show bH _ _ _ _ _ from ⟨dj,AP,AO,de,rfl,DW,yU,yT⟩).up hs) hT (by omega))<|zD 10<|ja ((k:Int)+1) (by omega)<|zD 2<|bA bM (k+1) (by omega) (by omega) [0] (Sub.refl _)
 refine jd 11 [0]<|ek [1,1,1,0,1,0,0] [] (fun(zz:Nat)=>[(1,zP b1),(33,zI (hv.length:Int)),(34,zI (zz:Int))]) (fun(zz:Nat)=>[.b b1 (.cells ⟨[.slice dj cs.length de,.slice cK hv.length cA]⟩ 35 (0,0))]) (fun(zz:Nat)=>zz≤hv.length) (fun(zz:Nat)=>hv.length-zz) 0 (by omega) [0] ?_
 rintro j hJ K2 lI rest
 refine zD 5<|zJ 35 ((j:Int) <(hv.length:Int)) (fun h4=>?_) fun h4=>?_
 ·
  refine jd 13 [0]<|jp (vs:=[.agg ⟨[.slice dj cs.length de,.slice cK hv.length cA]⟩,zI (j:Int)]) [] [] (fun aC hs hZ=>(aAp (hR.up hs) oP hT (by omega)))<|zD 10<|ja ((j:Int)+1) (by omega)<|zD 2<|bA lI (j+1) (by omega) (by omega) [0] (Sub.refl _)
 refine zD 7<|aH q0 (zI 0) [] [] [] (Sub.refl _) ⟨_,_,rfl,rfl,rfl,rfl⟩
theorem asl{hv:List bC}{ro:Nat→Option Obj}(hR:jY ro vc vh cs hv hd)(oP:dD dO hv hd)(hT:lR cs hd):dz zT 119 [.agg ⟨[vc,vh]⟩] ro (zI 0):=by
 obtain⟨hc,hh,dk⟩:=id hR
 obtain⟨dj,AP,AO,de,rfl,DW,yU,yT⟩:=hc
 obtain⟨cK,sr,sq,cA,rfl,tN,py,px⟩:=hh
 have Ec:=hT.nc
 have hnh:=hT.nh
 have hlen:=oP.len
 refine bG av [] [] bh<|zD 2<|jn fun b1=>jd 5 [0]<|jp (vs:=[.agg ⟨[.slice dj cs.length de,.slice cK hv.length cA]⟩]) [] [] (fun aC hs hZ=>(Wz (hR.up hs) oP hT))<|zD 3<|aH q0 (zI 0) [] [] [] (Sub.refl _) ⟨_,_,rfl,rfl,rfl,rfl⟩
def JE(a b:ByteArray):Int:=bif strLt a b then-1 else bif !(strLt a b||cO a b) then 1 else 0
def N7:List ByteArray→List ByteArray→Int
 | [],[]=>0
 | [],_::_=> -1
 |_::_,[]=>1
 |x::xs,y::ys=>if JE x y=0 then N7 xs ys else JE x y
theorem YE{y:ByteArray}(hx:xs[k]?=some x) (hy:ys[k]?=some y):N7 (xs.drop k) (ys.drop k)=if JE x y=0 then N7 (xs.drop (k+1)) (ys.drop (k+1)) else JE x y:=by rw[fI hx,fI hy];rfl
theorem ajm(hx:xs[k]?=some x) (hy:¬k <ys.length):N7 (xs.drop k) (ys.drop k)=1:=by rw[fI hx,eO hy];rfl
theorem Sa(hx:¬k <xs.length):N7 (xs.drop k) (ys.drop k)=if k <ys.length then-1 else 0:=by
 rw[eO hx]
 split
 ·rename_i h
  rw[List.drop_eq_getElem_cons h];rfl
 rename_i h
 rw[eO h];rfl
def td(s p:ByteArray):Bool:=decide (s.size≥p.size)&&cO (s.extract 0 p.size) p
structure an where
 h:Int
 n:Int
 l:Int
abbrev cL(x:an):List Value:=[zI x.h,zI x.n,zI x.l]
def pP(h n l:Int)(y:an):Bool:=h==y.h&&(n==y.n&&(l==y.l&&true)&&true)
theorem aIe{a:ByteArray}{ro:Nat→Option Obj}:dz zT 282 [.string a] ro (.bool false):=by
 refine bG av [] [] bh<|zD 12<|aH q0 (.bool (!(cO a a))) [] [] [] (Sub.refl _) ⟨_,_,rfl,rfl,by rw[Cd.2 rfl];rfl,rfl⟩
theorem aWi{a b:ByteArray}{ro:Nat→Option Obj}:dz zT 258 [.string a,.string b] ro (zI (JE a b)):=by
 refine bG av [] [] bh<|zD 7<|jp (vs:=[.string a]) [] [] (fun aC hs hZ=>aIe)<|zD 5<|jp (vs:=[.string b]) [] [] (fun aC hs hZ=>aIe)<|zD 23<|js 16 (strLt a b) (fun h1=>?_) (fun h1=>?_)
 ·
  refine zD 6<|aH q0 (zI (-1)) [] [] [] (Sub.refl _) ⟨_,_,rfl,rfl,by simp_all[JE],rfl⟩
 refine zD 9<|js 19 (!(strLt a b||cO a b)) (fun h2=>?_) (fun h2=>?_)
 ·
  try simp only[zB] at h2
  refine zD 6<|aH q0 (zI 1) [] [] [] (Sub.refl _) ⟨_,_,rfl,rfl,by simp_all[JE],rfl⟩
 try simp only[zB] at h2
 refine zD 7<|aH q0 (zI 0) [] [] [] (Sub.refl _) ⟨_,_,rfl,rfl,by simp_all[JE],rfl⟩
theorem aOP{v w:Value}{ro:Nat→Option Obj}(hv:bH ro v 1 qg xs)(hw:bH ro w 1 qg ys)(hx:xs.length≤1000)(hy:ys.length≤1000):dz zT 238 [v,w] ro (zI (N7 xs ys)):=by
 obtain⟨MI,qvb,qvo,BU,rfl,qvk,PH,PG⟩:=hv
 obtain⟨TU,qwb,qwo,MH,rfl,qwk,qwh,qwl⟩:=hw
 refine bG av [] [] bh<|zD 12<|ek [1,0,1,0,0] [] (fun(zz:Nat)=>[(0,.slice MI xs.length BU),(1,.slice TU ys.length MH),(9,.slice MI xs.length BU),(10,zI (xs.length:Int)),(11,zI (zz:Int))]) (fun(zz:Nat)=>[]) (fun(zz:Nat)=>(zz≤xs.length∧zz≤ys.length)∧N7 xs ys=N7 (xs.drop zz) (ys.drop zz)) (fun(zz:Nat)=>xs.length-zz) 0 ⟨by omega,rfl⟩ [] ?_
 rintro k hI K1 bM rest
 refine zD 5<|zJ 12 ((k:Int) <(xs.length:Int)) (fun h1=>?_) fun h1=>?_
 ·
  refine zD 7 ?_
  obtain⟨eF,dK⟩:=zG xs k
  refine iM BU 1 PH dK<|jl 0 (PG _ _ dK)<|zD 11<|zJ 19 ((k:Int)≥(ys.length:Int)) (fun h2=>?_) fun h2=>?_
  ·
   refine zD 6<|aH q0 (zI 1) [] [] [] (Sub.refl _) ⟨_,_,rfl,rfl,by rw[hI.2,ajm dK (by omega)],rfl⟩
  refine zD 6 ?_
  obtain⟨sI,ux⟩:=zG ys k
  refine iM MH 1 qwh ux<|jl 0 (qwl _ _ ux)<|zD 6<|jp (vs:=[.string eF,.string sI]) [] [] (fun aC hs hZ=>aWi)<|zD 7<|js 28 (!decide ((JE eF sI)=0)) (fun h3=>?_) (fun h3=>?_)
  ·
   replace h3:=of_decide_eq_false (by simpa using h3)
   refine zD 7<|aH q0 (zI (JE eF sI)) [] [] [] (Sub.refl _) ⟨_,_,rfl,rfl,by rw[hI.2,YE dK ux,if_neg (by omega)],rfl⟩
  replace h3:=of_decide_eq_true (by simpa using h3)
  refine zD 3<|ja ((k:Int)+1) (by omega)<|zD 2<|bA bM (k+1) ⟨by omega,by rw[hI.2,YE dK ux,if_pos (by omega)]⟩ (by omega) [] (Sub.refl _)
 refine zD 11<|zJ 35 ((xs.length:Int) <(ys.length:Int)) (fun h4=>?_) fun h4=>?_
 ·
  refine zD 6<|aH q0 (zI (-1)) [] [] [] (Sub.refl _) ⟨_,_,rfl,rfl,by rw[hI.2,Sa (by omega),if_pos (by omega)],rfl⟩
 refine zD 7<|aH q0 (zI 0) [] [] [] (Sub.refl _) ⟨_,_,rfl,rfl,by rw[hI.2,Sa (by omega),if_neg (by omega)],rfl⟩
theorem aaR{a b:ByteArray}{ro:Nat→Option Obj}(hn:a.size≤1000∧b.size≤1000):dz zT 307 [.string a,.string b] ro (.bool (td a b)):=by
 refine bG av [] [] bh<|zD 12<|js 10 (decide ((a.size:Int)≥(b.size:Int))) (fun h1=>?_) (fun h1=>?_)
 ·
  have gD:=h1
  replace gD:=of_decide_eq_true gD
  refine zD 3<|jtH (b:=a) (hi:=(b.size:Int)) (by omega)<|zD 6<|aH q0 (.bool (cO (a.extract 0 (b.size:Int).toNat) b)) [] [] [] (Sub.refl _) ⟨_,_,rfl,rfl,by simp_all[td]<;>(intro;omega),rfl⟩
 have gD:=h1
 replace gD:=of_decide_eq_false gD
 refine zD 10<|aH q0 (.bool false) [] [] [] (Sub.refl _) ⟨_,_,rfl,rfl,by simp_all[td]<;>(intro;omega),rfl⟩
theorem aaS{a b:ByteArray}{ro:Nat→Option Obj}(hn:a.size≤1000∧b.size≤1000):dz zT 299 [.string a,.string b] ro (.bool (td a b)):=by
 refine bG av [] [] bh<|zD 8<|jp (vs:=[.string a,.string b]) [] [] (fun aC hs hZ=>(aaR (by omega)))<|zD 3<|aH q0 (.bool (td a b)) [] [] [] (Sub.refl _) ⟨_,_,rfl,rfl,rfl,rfl⟩
theorem afo{v:Value}{ps:List an}{h n l:Int}{ro:Nat→Option Obj}(hp:bH ro v 3 cL ps)(hn:ps.length≤1000):dz zT 124 [v,.agg ⟨[zI h,zI n,zI l]⟩] ro (zI (bP (pP h n l) ps 0)):=by
 obtain⟨SI,qpb,qpo,Km,rfl,qpk,ZS,ZR⟩:=hp
 refine bG av [] [] bh<|zD 2<|jn fun b3=>zD 10<|ek [1,0,1,0,0] [] (fun(zz:Nat)=>[(0,.slice SI ps.length Km),(3,zP b3),(7,zI (ps.length:Int)),(8,zI (zz:Int))]) (fun(zz:Nat)=>[.b b3 (.cells ⟨[zI h,zI n,zI l]⟩ 164 (0,0))]) (fun(zz:Nat)=>zz≤ps.length∧bP (pP h n l) ps 0=bP (pP h n l) (ps.drop zz) zz) (fun(zz:Nat)=>ps.length-zz) 0 ⟨by omega,rfl⟩ [0] ?_
 rintro k hI K1 bM rest
 refine zD 5<|zJ 9 ((k:Int) <(ps.length:Int)) (fun h1=>?_) fun h1=>?_
 ·
  refine jd 14 [0] ?_
  obtain⟨eF,dK⟩:=zG ps k
  refine iM Km 3 ZS dK<|jl 0 (ZR _ _ dK)<|jeq aB7 (axe h n l eF.h eF.n eF.l)<|zD 1<|js 16 (h==eF.h&&(n==eF.n&&(l==eF.l&&true)&&true)) (fun h2=>?_) (fun h2=>?_)
  ·
   refine zD 7<|aH q0 (zI (k:Int)) [] [] [] (Sub.refl _) ⟨_,_,rfl,rfl,by rw[hI.2,gM dK,show pP h n l eF=true from (by assumption)];rfl,rfl⟩
  refine zD 3<|ja ((k:Int)+1) (by omega)<|zD 2<|bA bM (k+1) ⟨by omega,by rw[hI.2,gM dK,show pP h n l eF=false from (by assumption)];rfl⟩ (by omega) [0] (Sub.refl _)
 refine zD 7<|aH q0 (zI (-1)) [] [] [] (Sub.refl _) ⟨_,_,rfl,rfl,by rw[hI.2,nn (by omega)],rfl⟩
theorem KW{v:Value}{ps:List an}{h n l:Int}{ro:Nat→Option Obj}(hp:bH ro v 3 cL ps)(hn:ps.length≤1000):dz zT 88 [v,.agg ⟨[zI h,zI n,zI l]⟩] ro (.bool (decide (bP (pP h n l) ps 0≥0))):=by
 obtain⟨SI,qpb,qpo,Km,rfl,qpk,ZS,ZR⟩:=hp
 refine bG av [] [] bh<|zD 2<|jn fun b3=>jd 6 [0]<|jp (vs:=[.slice SI ps.length Km,.agg ⟨[zI h,zI n,zI l]⟩]) [] [] (fun aC hs hZ=>afo ((show bH _ _ _ _ _ from ⟨SI,qpb,qpo,Km,rfl,qpk,ZS,ZR⟩).up hs) (by first|omega| (simp only[List.length_set,List.length_append,List.length_cons,List.length_nil];omega))) ?_
 refine zD 4<|aH q0 (.bool (decide ((bP (pP h n l) ps 0)≥0))) [] [] [] (Sub.refl _) ⟨_,_,rfl,rfl,rfl,rfl⟩
theorem aeD{v:Value}{ws:List ByteArray}{ro:Nat→Option Obj}(hv:bH ro v 1 qg ws)(hn:ws.length≤1000)(hW:∀w∈ws,(1≤w.size∧w.size≤6)∧Script w):dz zT 215 [v] ro (zI 0):=by
 obtain⟨MI,qvb,qvo,BU,rfl,qvk,PH,PG⟩:=hv
 refine bG av [] [] bh<|zD 12<|ek [1,0,1,0,0] [] (fun(zz:Nat)=>[(6,.slice MI ws.length BU),(7,zI (ws.length:Int)),(8,zI (zz:Int))]) (fun(zz:Nat)=>[]) (fun(zz:Nat)=>zz≤ws.length) (fun(zz:Nat)=>ws.length-zz) 0 (by omega) [] ?_
 rintro k hI K1 bM rest
 refine zD 5<|zJ 9 ((k:Int) <(ws.length:Int)) (fun h1=>?_) fun h1=>?_
 ·
  refine zD 6 ?_
  obtain⟨x10,sA⟩:=zG ws k
  refine iM BU 1 PH sA<|jl 0 (PG _ _ sA)<|zD 5<|jp (vs:=[.string x10]) [] [] (fun aC hs hZ=>(T9 (hW _ (List.mem_of_getElem? sA)).1 (hW _ (List.mem_of_getElem? sA)).2))<|zD 10<|ja ((k:Int)+1) (by omega)<|zD 2<|bA bM (k+1) (by omega) (by omega) [] (Sub.refl _)
 refine zD 7<|aH q0 (zI 0) [] [] [] (Sub.refl _) ⟨_,_,rfl,rfl,rfl,rfl⟩
def xY(w:ByteArray):Prop:=∀b∈w.data.toList,b.toNat <128∧kindOf (b.toNat:Int)=1
def aml(w:ByteArray):Bool:=w.data.toList.all fun b=>Nat.blt b.toNat 128&&decide (kindOf (b.toNat:Int)=1)
theorem GP{w:ByteArray}(h:aml w=true):xY w:=fun b hb=>by
 have:=List.all_eq_true.1 h b hb
 simp only[Bool.and_eq_true,Nat.blt_eq,decide_eq_true_eq] at this
 exact this
def WL(r:cb):Bool:=(Nat.ble 1 r.f.size&&Nat.ble r.f.size 2)&&(Nat.ble r.t.size 2&&(aml r.f&&(aml r.t&& !cO r.f r.t)))
theorem ZE:(aqK.all fun f=>toW.all fun t=>WL ⟨f,t⟩)=true:=by kernel_rfl
structure rR(r:cb):Prop where
 f1:1≤r.f.size∧r.f.size≤2
 t1:r.t.size≤2
 fl:xY r.f
 tl:xY r.t
 ne:cO r.f r.t=false
theorem asx{r:cb}(h:DD r):rR r:=by
 have:=List.all_eq_true.1 (List.all_eq_true.1 ZE r.f h.1) r.t h.2
 simp only[WL,Bool.and_eq_true,Nat.ble_eq,Bool.not_eq_true'] at this
 exact⟨this.1,this.2.1,GP this.2.2.1,GP this.2.2.2.1,this.2.2.2.2⟩
theorem aCb{r:Int}{ro:Nat→Option Obj}:dz zT 252 [.int .i32 r] ro (.bool (!decide (kindOf r=1))):=by
 refine bG av [] [] bh<|zD 7<|jp (vs:=[.int .i32 r]) [] [] (fun aC hs hZ=>apM)<|zD 4<|aH q0 (.bool (!decide ((kindOf r)=1))) [] [] [] (Sub.refl _) ⟨_,_,rfl,rfl,rfl,rfl⟩
theorem aOO{w:ByteArray}{ro:Nat→Option Obj}(hK:xY w):dz zT 290 [.string w,.func (.func 252) ⟨[]⟩ ⟨[]⟩,.bool true] ro (zI (-1)):=by
 refine bG av [] [] bh<|zD 8<|jn fun r10=>zD 2<|ek [1,0,1,0,0] [] (fun(zz:Nat)=>[(1,.func (.func 252) ⟨[]⟩ ⟨[]⟩),(2,.bool true),(10,zP r10)]) (fun(zz:Nat)=>[.b r10 (.stringIter w zz)]) (fun(zz:Nat)=>zz≤w.data.toList.length) (fun(zz:Nat)=>w.data.toList.length-zz) 0 (by omega) [0] ?_
 rintro p hI K1 bM rest
 refine zD 2 ?_
 cases aaK:w.data.toList[p]? with
 |some x11=>
  refine jnA r10 0 aaK (hK _ (List.mem_of_getElem? aaK)).1<|zD 14 ?_
  have X7:=(hK _ (List.mem_of_getElem? aaK)).2
  refine zD 3<|jp (vs:=[.int .i32 (x11.toNat:Int)]) [] [] (fun aC hs hZ=>aCb)<|zD 1<|je (.bool ((!decide (kindOf (x11.toNat:Int)=1))==true)) rfl<|zD 1<|js 19 ((!decide (kindOf (x11.toNat:Int)=1))==true) (fun h1=>?_) (fun h1=>?_)
  ·
   exfalso;rw[X7] at h1;cases h1
  refine zD 2<|bA bM (p+1) (by have:=(List.getElem?_eq_some_iff.1 aaK).1;omega) (by have:=(List.getElem?_eq_some_iff.1 aaK).1;omega) [0] (Sub.refl _)
 |none=>
  refine jnZ r10 0 aaK<|zD 10<|aH q0 (zI (-1)) [] [] [] (Sub.refl _) ⟨_,_,rfl,rfl,rfl,rfl⟩
theorem aAE{w:ByteArray}{ro:Nat→Option Obj}(hK:xY w):dz zT 273 [.string w,.func (.func 252) ⟨[]⟩ ⟨[]⟩] ro (zI (-1)):=by
 refine bG av [] [] bh<|zD 8<|jp (vs:=[.string w,.func (.func 252) ⟨[]⟩ ⟨[]⟩,.bool true]) [] [] (fun aC hs hZ=>(aOO hK))<|zD 3<|aH q0 (zI (-1)) [] [] [] (Sub.refl _) ⟨_,_,rfl,rfl,rfl,rfl⟩
theorem aAG{w:ByteArray}{ro:Nat→Option Obj}(hK:xY w):dz zT 251 [.string w,.func (.func 252) ⟨[]⟩ ⟨[]⟩] ro (.bool false):=by
 refine bG av [] [] bh<|zD 8<|jp (vs:=[.string w,.func (.func 252) ⟨[]⟩ ⟨[]⟩]) [] [] (fun aC hs hZ=>(aAE hK))<|zD 4<|aH q0 (.bool false) [] [] [] (Sub.refl _) ⟨_,_,rfl,rfl,rfl,rfl⟩
theorem Qm{w:ByteArray}{ro:Nat→Option Obj}(hK:xY w)(hn:w.size≤1000):dz zT 234 [.string w,zI lo,zI hi] ro (.bool (decide (lo≤w.size)&&decide ((w.size:Int)≤hi))):=by
 refine bG av [] [] bh<|zD 11<|jj 5 [(0,.string w),(6,.bool false),(16,.bool ((decide (lo≤(w.size:Int)))&&(decide ((w.size:Int)≤hi))))] (fun ia=>?_) (fun hj=>?_)
 rotate_left
 refine js 11 (decide (lo≤(w.size:Int))) (fun h1=>?_) (fun h1=>?_)
 ·
  have gD:=h1
  replace gD:=of_decide_eq_true gD
  refine zD 5<|jw 16 (.bool ((decide (lo≤(w.size:Int)))&&(decide ((w.size:Int)≤hi)))) (w:= .bool (decide ((w.size:Int)≤hi))) (by rw[h1]<;>rfl) ?_
  exact hj _ (by kernel_rfl) (by kernel_rfl)
 ·
  have gD:=h1
  replace gD:=of_decide_eq_false gD
  refine zD 5<|jw 16 (.bool ((decide (lo≤(w.size:Int)))&&(decide ((w.size:Int)≤hi)))) (w:= .bool false) (by rw[h1]<;>rfl) ?_
  exact hj _ (by kernel_rfl) (by kernel_rfl)
 refine zD 1<|jj 4 [(6,.bool false),(21,.bool (((decide (lo≤(w.size:Int)))&&(decide ((w.size:Int)≤hi)))&&true))] (fun ia=>?_) (fun hj=>?_)
 rotate_left
 refine js 17 ((decide (lo≤(w.size:Int)))&&(decide ((w.size:Int)≤hi))) (fun h2=>?_) (fun h2=>?_)
 ·
  have mM:=h2
  try simp only[zB] at mM
  refine zD 1<|jp (vs:=[.string w,.func (.func 252) ⟨[]⟩ ⟨[]⟩]) [] [] (fun aC hs hZ=>(aAG hK))<|zD 2<|jw 21 (.bool (((decide (lo≤(w.size:Int)))&&(decide ((w.size:Int)≤hi)))&&true)) (w:= .bool true) (by rw[h2]<;>rfl) ?_
  exact hj _ (by kernel_rfl) (by kernel_rfl)
 ·
  have mM:=h2
  try simp only[zB] at mM
  refine zD 4<|jw 21 (.bool (((decide (lo≤(w.size:Int)))&&(decide ((w.size:Int)≤hi)))&&true)) (w:= .bool false) (by rw[h2]<;>rfl) ?_
  exact hj _ (by kernel_rfl) (by kernel_rfl)
 refine zD 3<|aH q0 (.bool (((decide (lo≤(w.size:Int)))&&(decide ((w.size:Int)≤hi)))&&true)) [] [] [] (Sub.refl _) ⟨_,_,rfl,rfl,by simp_all,rfl⟩
theorem KD{w:ByteArray}{ro:Nat→Option Obj}(hK:xY w)(h1:lo≤w.size)(h2:(w.size:Int)≤hi)(h3:w.size≤1000):dz zT 234 [.string w,zI lo,zI hi] ro (.bool true):=by
 have:=Qm (ro:=ro) hK h3 (lo:=lo) (hi:=hi)
 rw[decide_eq_true h1,decide_eq_true h2] at this
 exact this
theorem aaf{v:Value}{ro:Nat→Option Obj}(hv:bH ro v 2 iV rs)(hn:rs.length≤4)(hR:∀r∈rs,rR r):dz zT 214 [v] ro (zI 0):=by
 obtain⟨MI,qvb,qvo,BU,rfl,qvk,PH,PG⟩:=hv
 refine bG av [] [] bh<|zD 11<|zJ 7 ((rs.length:Int)>4) (fun h1=>?_) fun h1=>?_
 ·
  exfalso;omega
 refine zD 10<|ek [1,1,0,1,0,0] [] (fun(zz:Nat)=>[(8,.slice MI rs.length BU),(9,zI (rs.length:Int)),(10,zI (zz:Int))]) (fun(zz:Nat)=>[]) (fun(zz:Nat)=>zz≤rs.length) (fun(zz:Nat)=>rs.length-zz) 0 (by omega) [] ?_
 rintro k hI K1 bM rest
 refine zD 5<|zJ 11 ((k:Int) <(rs.length:Int)) (fun h2=>?_) fun h2=>?_
 ·
  refine zD 6 ?_
  obtain⟨tM,qH⟩:=zG rs k
  refine iM BU 2 PH qH<|jl 0 (PG _ _ qH)<|jn fun b4=>jd 3 [0] ?_
  have hrp:=(hR _ (List.mem_of_getElem? qH))
  have hrf:=hrp.f1
  have hrt:=hrp.t1
  refine jd 3 [0]<|jp (vs:=[.string tM.f,zI 1,zI 2]) [] [] (fun aC hs hZ=>(KD hrp.fl (by omega) (by omega) (by omega)))<|jd 4 [0]<|jp (vs:=[.string tM.t,zI 0,zI 2]) [] [] (fun aC hs hZ=>(KD hrp.tl (by omega) (by omega) (by omega)))<|jd 10 [0,0]<|js 30 (cO tM.f tM.t) (fun h3=>?_) (fun h3=>?_)
  ·
   exfalso;rw[hrp.ne] at h3;cases h3
  refine zD 3<|ja ((k:Int)+1) (by omega)<|zD 2<|bA bM (k+1) (by omega) (by omega) [] (Sub.refl _)
 refine zD 7<|aH q0 (zI 0) [] [] [] (Sub.refl _) ⟨_,_,rfl,rfl,rfl,rfl⟩
def vg:List Int→Int
 | []=>0
 |x::xs=>xs.foldl min x
def CQ:List Int→Int
 | []=>0
 |x::xs=>xs.foldl max x
theorem atp{xs:List Int}{x:Int}(h:xs[0]?=some x):vg xs=(xs.drop 1).foldl min x:=by
 cases xs with
 |nil=>cases h
 |cons y l=>simp at h;subst h;rfl
theorem atq{xs:List Int}{x:Int}(h:xs[0]?=some x):CQ xs=(xs.drop 1).foldl max x:=by
 cases xs with
 |nil=>cases h
 |cons y l=>simp at h;subst h;rfl
def qy(l:List Int):Int:=(l.filter fun x=>decide (x>0)).length
theorem Ku{l:List Int}{x:Int}(h:l[k]?=some x):qy (l.take (k+1))=qy (l.take k)+if x>0 then 1 else 0:=by
 rw[fg h,qy,List.filter_append,qy]
 by_cases hx:x>0<;>simp[hx]
structure ai where
 past:Int
 w0:Int
 w1:Int
 w2:Int
 w3:Int
 gone:Int
 new:Int
 af:Int
abbrev cy(x:ai):List Value:=[zI x.past,zI x.w0,zI x.w1,zI x.w2,zI x.w3,zI x.gone,zI x.new,zI x.af]
def bZ(g n m:Int)(x:ai):Bool:=decide (x.gone≤g)&&(decide (x.new≤n)&&decide (x.af≤m))
def hasB(f i:Int):Bool:=decide (Uo .u8 (aT .u8 f i) 1=1)
theorem aOM{v:Value}{xs:List Int}{ro:Nat→Option Obj}(hl:bH ro v 1 cq xs)(hn:0 <xs.length∧xs.length≤1000000):dz zT 111 [v] ro (zI (vg xs)):=by
 obtain⟨fL,sj,si,fp,rfl,tZ,lU,mS⟩:=hl
 refine bG av [] [] bh<|zD 11<|zJ 7 ((xs.length:Int) <1) (fun h1=>?_) fun h1=>?_
 ·
  exfalso;omega
 refine zD 5 ?_
 obtain⟨x10,sA⟩:=zG xs 0
 refine iM fp 1 lU sA<|jl 0 (mS _ _ sA)<|zD 8<|ek [1,1,1,0,1,0,0] [] (fun(zz:Nat×Int)=>[(0,.slice fL xs.length fp),(2,zI 0),(3,zI zz.2),(4,zI (zz.1:Int))]) (fun(zz:Nat×Int)=>[]) (fun(zz:Nat×Int)=>(1≤zz.1∧zz.1≤xs.length)∧vg xs=(xs.drop zz.1).foldl min zz.2) (fun(zz:Nat×Int)=>xs.length-zz.1) (⟨1,x10⟩) ⟨by dsimp only;omega,atp sA⟩ [] ?_
 rintro⟨k,m⟩ hI K1 bM rest
 dsimp only at hI
 refine zD 8<|zJ 15 ((k:Int) <(xs.length:Int)) (fun h2=>?_) fun h2=>?_
 ·
  refine zD 8 ?_
  obtain⟨yK,qG⟩:=zG xs k
  refine iM fp 1 lU qG<|jl 0 (mS _ _ qG)<|jmn (k:= .i64) (a:=m) (b:=yK)<|zD 4<|ja ((k:Int)+1) (by omega)<|zD 2<|bA bM (⟨k+1,(min m yK)⟩) ⟨by dsimp only;omega,by rw[hI.2,fI qG];rfl⟩ (by dsimp only;omega) [] (Sub.refl _)
 refine zD 8<|aH q0 (zI m) [] [] [] (Sub.refl _) ⟨_,_,rfl,rfl,by rw[hI.2,eO (by omega)];rfl,rfl⟩
theorem aON{v:Value}{xs:List Int}{ro:Nat→Option Obj}(hl:bH ro v 1 cq xs)(hn:0 <xs.length∧xs.length≤1000000):dz zT 112 [v] ro (zI (CQ xs)):=by
 obtain⟨fL,sj,si,fp,rfl,tZ,lU,mS⟩:=hl
 refine bG av [] [] bh<|zD 11<|zJ 7 ((xs.length:Int) <1) (fun h1=>?_) fun h1=>?_
 ·
  exfalso;omega
 refine zD 5 ?_
 obtain⟨x10,sA⟩:=zG xs 0
 refine iM fp 1 lU sA<|jl 0 (mS _ _ sA)<|zD 8<|ek [1,1,1,0,1,0,0] [] (fun(zz:Nat×Int)=>[(0,.slice fL xs.length fp),(2,zI 0),(3,zI zz.2),(4,zI (zz.1:Int))]) (fun(zz:Nat×Int)=>[]) (fun(zz:Nat×Int)=>(1≤zz.1∧zz.1≤xs.length)∧CQ xs=(xs.drop zz.1).foldl max zz.2) (fun(zz:Nat×Int)=>xs.length-zz.1) (⟨1,x10⟩) ⟨by dsimp only;omega,atq sA⟩ [] ?_
 rintro⟨k,m⟩ hI K1 bM rest
 dsimp only at hI
 refine zD 8<|zJ 15 ((k:Int) <(xs.length:Int)) (fun h2=>?_) fun h2=>?_
 ·
  refine zD 8 ?_
  obtain⟨yK,qG⟩:=zG xs k
  refine iM fp 1 lU qG<|jl 0 (mS _ _ qG)<|jmx (k:= .i64) (a:=m) (b:=yK)<|zD 4<|ja ((k:Int)+1) (by omega)<|zD 2<|bA bM (⟨k+1,(max m yK)⟩) ⟨by dsimp only;omega,by rw[hI.2,fI qG];rfl⟩ (by dsimp only;omega) [] (Sub.refl _)
 refine zD 8<|aH q0 (zI m) [] [] [] (Sub.refl _) ⟨_,_,rfl,rfl,by rw[hI.2,eO (by omega)];rfl,rfl⟩
theorem apZ{v:Value}{xs:List Int}{ro:Nat→Option Obj}(hl:bH ro v 1 cq xs)(hn:0 <xs.length∧xs.length≤1000000):dz zT 79 [v] ro (.agg ⟨[zI (vg xs),zI (CQ xs)]⟩):=by
 obtain⟨fL,sj,si,fp,rfl,tZ,lU,mS⟩:=hl
 refine bG av [] [] bh<|zD 2<|jn fun b2=>zD 4<|jp (vs:=[.slice fL xs.length fp]) [] [] (fun aC hs hZ=>aOM ((show bH _ _ _ _ _ from ⟨fL,sj,si,fp,rfl,tZ,lU,mS⟩).up hs) (by omega))<|zD 1<|jp (vs:=[.slice fL xs.length fp]) [] [] (fun aC hs hZ=>aON ((show bH _ _ _ _ _ from ⟨fL,sj,si,fp,rfl,tZ,lU,mS⟩).up hs) (by omega))<|jd 4 [0]<|aH q0 (.agg ⟨[zI (vg xs),zI (CQ xs)]⟩) [0] [] [] (Sub.refl _) ⟨_,_,rfl,rfl,rfl,rfl⟩
theorem amH{x:ai}{ro:Nat→Option Obj}:dz zT 78 [.agg ⟨[zI x.past,zI x.w0,zI x.w1,zI x.w2,zI x.w3,zI x.gone,zI x.new,zI x.af]⟩] ro (.bool true):=by
 refine bG av [] [] bh<|zD 2<|jn fun b1=>zD 7<|aH q0 (.bool true) [] [] [] (Sub.refl _) ⟨_,_,rfl,rfl,rfl,rfl⟩
theorem afm{f:Nat}{x:ai}{c2 c3 c4:Value}{ro:Nat→Option Obj}(hf:ro f=some (.cells ⟨[c0,c1,c2,c3,c4,c5,c6,c7,zI gone,zI new,zI af,c11,vt]⟩ 128 (0,0))):dz zT 91 [zP f,.agg ⟨[zI x.past,zI x.w0,zI x.w1,zI x.w2,zI x.w3,zI x.gone,zI x.new,zI x.af]⟩] ro (.bool (bZ gone new af x)):=by
 refine bG av [] [] bh<|zD 2<|jn fun b3=>jd 10 [0]<|jl (b:=f) (off:=0) (m:=13) (vs:=[c0,c1,c2,c3,c4,c5,c6,c7,zI gone,zI new,zI af,c11,vt]) 8 ⟨_,_,_,.inl hf,rfl⟩<|zD 2<|js 8 (decide (x.gone≤gone)) (fun h1=>?_) (fun h1=>?_)
 ·
  have gD:=h1
  replace gD:=of_decide_eq_true gD
  refine jd 6 [0]<|jl (b:=f) (off:=0) (m:=13) (vs:=[c0,c1,c2,c3,c4,c5,c6,c7,zI gone,zI new,zI af,c11,vt]) 9 ⟨_,_,_,.inl hf,rfl⟩<|zD 3<|js 18 (decide (x.new≤new)) (fun h2=>?_) (fun h2=>?_)
  ·
   have mM:=h2
   replace mM:=of_decide_eq_true mM
   refine jd 6 [0]<|jl (b:=f) (off:=0) (m:=13) (vs:=[c0,c1,c2,c3,c4,c5,c6,c7,zI gone,zI new,zI af,c11,vt]) 10 ⟨_,_,_,.inl hf,rfl⟩<|zD 5<|aH q0 (.bool (decide (x.af≤af))) [] [] [] (Sub.refl _) ⟨_,_,rfl,rfl,by simp_all[bZ]<;>(intros;omega),rfl⟩
  have mM:=h2
  replace mM:=of_decide_eq_false mM
  refine zD 12<|aH q0 (.bool false) [] [] [] (Sub.refl _) ⟨_,_,rfl,rfl,by simp_all[bZ]<;>(intros;omega),rfl⟩
 have gD:=h1
 replace gD:=of_decide_eq_false gD
 refine zD 22<|aH q0 (.bool false) [] [] [] (Sub.refl _) ⟨_,_,rfl,rfl,by simp_all[bZ]<;>(intros;omega),rfl⟩
theorem at4{f i:Int}{ro:Nat→Option Obj}(hi:0≤i∧i≤8):dz zT 117 [.int .u8 f,zI i] ro (.bool (hasB f i)):=by
 refine bG av [] [] bh<|zD 8<|jsr (k:= .u8) (k':= .i64) (a:=f) (b:=i) 120 (by omega)<|zD 5<|aH q0 (.bool (decide ((Uo .u8 (aT .u8 f i) 1)=1))) [] [] [] (Sub.refl _) ⟨_,_,rfl,rfl,rfl,rfl⟩
theorem atK{p0 p1 p2 p3:Int}{ro:Nat→Option Obj}:dz zT 131 [.agg ⟨[zI p0,zI p1,zI p2,zI p3]⟩] ro (zI (qy [p0,p1,p2,p3])):=by
 refine bG av [] [] bh<|zD 2<|jn fun b1=>jd 13 [0]<|ek [1,1,0,1,0,0] [] (fun(zz:Nat×Int)=>[(2,zI 0),(3,zI zz.2),(6,.agg ⟨[zI p0,zI p1,zI p2,zI p3]⟩),(7,zI (zz.1:Int))]) (fun(zz:Nat×Int)=>[]) (fun(zz:Nat×Int)=>zz.1≤4∧zz.2=qy ([p0,p1,p2,p3].take zz.1)∧(0≤zz.2∧zz.2≤zz.1)) (fun(zz:Nat×Int)=>4-zz.1) (⟨0,0⟩) ⟨by omega,rfl,by omega⟩ [] ?_
 rintro⟨k,n⟩ hI K1 bM rest
 dsimp only at hI
 refine zD 5<|zJ 8 ((k:Int) <4) (fun h1=>?_) fun h1=>?_
 ·
  refine zD 6 ?_
  obtain⟨x9,hx9⟩:=zG ([p0,p1,p2,p3]:List Int) k (show k <4 from by omega)
  refine jai (l:=[zI p0,zI p1,zI p2,zI p3]) (k:Int) 4 1 false (by omega) (v:= zI x9) (show nth _ (k*1)=_ by rw[Nat.mul_one];exact aQh hx9) ?_
  refine zD 7<|zJ 11 (x9>0) (fun h2=>?_) fun h2=>?_
  ·
   refine zD 3<|ja (n+1) (by omega)<|zD 3<|ja ((k:Int)+1) (by omega)<|zD 2<|bA bM (⟨k+1,(n+1)⟩) ⟨by dsimp only;omega,by rw[Ku hx9,if_pos (by assumption),hI.2.1],by dsimp only;omega⟩ (by dsimp only;omega) [] (Sub.refl _)
  refine zD 3<|ja ((k:Int)+1) (by omega)<|zD 2<|bA bM (⟨k+1,n⟩) ⟨by dsimp only;omega,by rw[Ku hx9,if_neg (by assumption),hI.2.1,Int.add_zero],by dsimp only;omega⟩ (by dsimp only;omega) [] (Sub.refl _)
 refine zD 8<|aH q0 (zI n) [] [] [] (Sub.refl _) ⟨_,_,rfl,rfl,by rw[hI.2.1,show k=4 by omega];rfl,rfl⟩
theorem rF{α:Type}{xs:List α}{a:Option Addr}{o:Nat}(h:∀k,k <xs.length→a=some ⟨b,o,none⟩)(hn:a.isNone=true):xs=[]:=by
 cases xs with
 |nil=>rfl
 |cons x l=>rw[h 0 (by simp)] at hn;cases hn
theorem asu{v:Value}{ro:Nat→Option Obj}(hl:bH ro v 1 qg xs)(hn:xs.length≤1000):eV zT 256 [v] ro [] (fun r Y=>∃L,az r 1 9 qg xs L∧Y=L):=by
 obtain⟨fL,sj,si,fp,rfl,tZ,lU,mS⟩:=hl
 refine bG av [] [] bh<|zD 8<|jsn 137 (a:=fL) (l:=xs.length) (c:=fp)<|zD 1<|js 4 (fL.isNone) (fun h1=>?_) (fun h1=>?_)
 ·
  refine zD 6<|aH q0 (zS) [] [] [] (Sub.refl _) ⟨_,_,rfl,rfl,[],by rw[rF lU (by assumption)];exact az.nil _ _ _,rfl⟩
 refine zD 4<|jn fun b5=>zD 1<|jT (sz:=1) (ps:=[]) (qs:=xs) (enc:=qg) (w:= .slice fL xs.length fp) [0] [] [] (cR (b:=b5) (T:=9)) (fun s he _=>⟨fL,sj,si,fp,rfl,lU,fun i p hp=>(mS i p hp).ext he⟩) (fun p _=>ar rfl) (by simp<;>omega) (fun v7 L7 iT=>?_)
 rw[List.nil_append] at iT
 obtain⟨Ti,Td,Re⟩:=iT.form
 subst Re
 refine zD 3<|aH q0 ((.slice Ti (xs).length Td)) [] [0] L7 (Sub.refl _) ⟨_,_,rfl,rfl,_,iT,rfl⟩
theorem aQE{f:Nat}{fs:List dc}{c2 c3 c4:Value}{ro:Nat→Option Obj}(hx:bH ro c11 3 xa fs)(hf:ro f=some (.cells ⟨[c0,c1,c2,c3,c4,c5,c6,c7,zI gone,zI new,zI af,c11,vt]⟩ 128 (0,0)))(hn:fs.length≤7):dz zT 51 [zP f] ro (.int .u8 (IntKind.u8.wrap (dJ .u8 1 (fs.length:Int)-1))):=by
 obtain⟨qxa,qxb,qxo,qxc,rfl,qxk,qxh,qxl⟩:=hx
 refine bG av [] [] bh<|zD 10<|jl (b:=f) (off:=0) (m:=13) (vs:=[c0,c1,c2,c3,c4,c5,c6,c7,zI gone,zI new,zI af,.slice qxa fs.length qxc,vt]) 11 ⟨_,_,_,.inl hf,rfl⟩<|zD 1<|jsh (k:= .u8) (k':= .i64) (a:=1) (b:=(fs.length:Int)) 120 (by omega)<|zD 4<|aH q0 (.int .u8 (IntKind.u8.wrap ((dJ .u8 1 (fs.length:Int))-1))) [] [] [] (Sub.refl _) ⟨_,_,rfl,rfl,rfl,rfl⟩
theorem yb{r:Value}{A B:Prop}(h:(r= .bool true∧A)∨(r= .bool false∧B)):∃c,r= .bool c∧(c=true→A)∧(c=false→B):=by
 rcases h with ⟨rfl,h⟩| ⟨rfl,h⟩
 ·exact⟨true,rfl,fun _=>h,nofun⟩
 exact⟨false,rfl,nofun,fun _=>h⟩
def uQ(w f t:ByteArray)(i:Nat):ByteArray:=w.extract 0 (i:Int).toNat++t++w.extract ((i:Int)+(f.size:Int)).toNat w.size
def qu(w f t:ByteArray)(i:Nat):Option ByteArray:=if td (w.extract i w.size) f=true∧1≤(uQ w f t i).size∧(uQ w f t i).size≤12 then some (uQ w f t i) else none
def ve(w f t:ByteArray)(k:Nat):List ByteArray:=(List.range k).filterMap (qu w f t)
def DV(w f t:ByteArray):List ByteArray:=ve w f t (w.size+1)
theorem Ck(w f t:ByteArray)(k:Nat):ve w f t (k+1)=ve w f t k++(qu w f t k).toList:=by
 rw[ve,ve,List.range_succ,List.filterMap_append]
 cases h:qu w f t k<;>simp[h]
theorem adE(w f t:ByteArray)(h:k≤n):∃l,ve w f t n=ve w f t k++l:=by
 induction n with
 |zero=>exact⟨[],by rw[show k=0 by omega];simp⟩
 |succ n ih=>
  by_cases hk:k=n+1
  ·exact⟨[],by rw[hk];simp⟩
  obtain⟨l,hl⟩:=ih (by omega)
  exact⟨l++(qu w f t n).toList,by rw[Ck,hl,List.append_assoc]⟩
theorem PC{w:ByteArray}(hk:k <n)(h:qu w f t k=some x):(ve w f t n)[(ve w f t k).length]?=some x∧(ve w f t (k+1)).length=(ve w f t k).length+1:=by
 obtain⟨l,hl⟩:=adE w f t (k:=k+1) (n:=n) hk
 rw[hl,Ck,h]
 constructor
 ·rw[List.append_assoc,List.getElem?_append_right (Nat.le_refl _)];simp
 simp
theorem WQ{w:ByteArray}(h:qu w f t k=none):(ve w f t (k+1)).length=(ve w f t k).length:=by
 rw[Ck,h];simp
abbrev aqO(l:List ByteArray):(Nat→Option Obj)→Nat→List Value→Cells→Prop:=fun _ k vs LL=>∃x,l[k]?=some x∧vs=[.string x]∧LL=[]
theorem xY.ext{w:ByteArray}(h:xY w)(i j:Nat):xY (w.extract i j):=by
 intro b hb
 refine h b ?_
 have:(w.extract i j).data.toList=(w.data.extract i j).toList:=by simp[ByteArray.data_extract]
 rw[this,Array.toList_extract] at hb
 simp only[List.extract_eq_drop_take] at hb
 exact List.mem_of_mem_drop (List.mem_of_mem_take hb)
theorem xY.app{v w:ByteArray}(h:xY v)(k:xY w):xY (v++w):=by
 intro b hb
 have:(v++w).data.toList=v.data.toList++w.data.toList:=by simp[ByteArray.data_append]
 rw[this] at hb
 exact(List.mem_append.1 hb).elim (h b) (k b)
theorem J7{w:ByteArray}(hw:xY w)(ht:xY t):xY (uQ w f t i):=((hw.ext _ _).app ht).app (hw.ext _ _)
theorem ad1{a b:ByteArray}(h:td a b=true):b.size≤a.size:=by
 unfold td at h
 simp only[Bool.and_eq_true,decide_eq_true_eq] at h
 omega
def ae0(w:ByteArray):Bool:=decide ((1:Int)≤w.size)&&decide ((w.size:Int)≤12)
theorem TN{w:ByteArray}(h:td (w.extract (k:Int).toNat w.size) f=false):qu w f t k=none:=if_neg fun x=>by
 have h1:td (w.extract k w.size) f=false:=h
 rw[h1] at x;cases x.1
theorem ZG{w:ByteArray}(h:ae0 (uQ w f t k)=false):qu w f t k=none:=if_neg fun x=>by
 simp only[ae0,Bool.and_eq_false_iff,decide_eq_false_iff_not] at h
 omega
theorem TK{w:ByteArray}(h:td (w.extract (k:Int).toNat w.size) f=true)(h2:ae0 (uQ w f t k)=true):qu w f t k=some (uQ w f t k):=if_pos ⟨h,by
 simp only[ae0,Bool.and_eq_true,decide_eq_true_eq] at h2
 omega⟩
theorem TJ{w:ByteArray}(h:w.size≤100∧f.size≤100∧t.size≤100):(uQ w f t k).size≤1000:=by
 simp only[uQ,ByteArray.size_append,ByteArray.size_extract];omega
theorem alw{w:ByteArray}(hk:k≤w.size)(h:qu w f t k=some (uQ w f t k)):(ve w f t k).length <(DV w f t).length∧(DV w f t)[(ve w f t k).length]?=some (uQ w f t k):=by
 have:=(PC (n:=w.size+1) (by omega) h).1
 exact⟨(List.getElem?_eq_some_iff.1 this).1,this⟩
theorem Vx(w:ByteArray)(a b:Nat):(w.extract a b).size≤w.size:=by simp;omega
theorem aiR(w:ByteArray)(i:Nat)(h:i≤w.size):(w.extract i w.size).size=w.size-i:=by simp
theorem al9{w:ByteArray}{ro:Nat→Option Obj}(g1:ro b1=some (.cells ⟨[.string w]⟩ 308 (0,0)))(g2:ro b2=some (.cells ⟨[.string f]⟩ 9 (0,0)))(g3:ro b3=some (.cells ⟨[.string t]⟩ 9 (0,0)))(hw:xY w)(ht:xY t)(hn:w.size≤100∧f.size≤100∧t.size≤100):ItX zT 298 [] [zP b1,zP b2,zP b3] ro [] (DV w f t).length (aqO (DV w f t)) (fun Z=>Z=[]):=by
 intro bl aC Inv Stop hs hy B hB
 replace g1:=hs _ _ g1
 replace g2:=hs _ _ g2
 replace g3:=hs _ _ g3
 refine bG av [.l B] [] bh<|zD 2<|jl (b:=b1) (off:=0) (m:=1) (vs:=[.string w]) 0 ⟨_,_,_,.inl g1,rfl⟩<|zD 1<|ja ((w.size:Int)+1) (by omega)<|zD 3<|ek [1,0,0] [] (fun(zz:Nat×Cells)=>[(0,(.func (.yield bl) #[] #[])),(1,zP b1),(2,zP b2),(3,zP b3),(9,zI ((w.size:Int)+1)),(10,zI (zz.1:Int))]) (fun(zz:Nat×Cells)=>[.l zz.2]) (fun(zz:Nat×Cells)=>zz.1≤w.size+1∧Inv (ve w f t zz.1).length zz.2) (fun(zz:Nat×Cells)=>w.size+1-zz.1) (⟨0,B⟩) ⟨by dsimp only;omega,hB⟩ [0] ?_
 rintro⟨k,B⟩ hI K1 bM rest
 dsimp only at hI
 refine zD 5<|zJ 11 ((k:Int) <((w.size:Int)+1)) (fun h1=>?_) fun h1=>?_
 ·
  refine zD 11 ?_
  have pe:=Vx w (k:Int).toNat w.size
  refine zD 1<|jl (b:=b1) (off:=0) (m:=1) (vs:=[.string w]) 0 ⟨_,_,_,.inl g1,rfl⟩<|zD 1<|jtL (b:=w) (lo:=(k:Int)) (by omega)<|jl (b:=b2) (off:=0) (m:=1) (vs:=[.string f]) 0 ⟨_,_,_,.inl g2,rfl⟩<|jp (vs:=[.string (w.extract (k:Int).toNat w.size),.string f]) [] [] (fun aC hs hZ=>(aaS (by omega)))<|zD 2<|js 18 (!(td (w.extract (k:Int).toNat w.size) f)) (fun h2=>?_) (fun h2=>?_)
  ·
   try simp only[zB] at h2
   refine zD 3<|ja ((k:Int)+1) (by omega)<|zD 2<|bA bM (⟨k+1,B⟩) ⟨by dsimp only;omega,by dsimp only;rw[WQ (TN (by assumption))];exact hI.2⟩ (by dsimp only;omega) [0] (Sub.refl _)
  try simp only[zB] at h2
  refine zD 3 ?_
  have FB:=Vx w 0 (k:Int).toNat
  have he3:=Vx w ((k:Int)+(f.size:Int)).toNat w.size
  have he4:(w.extract 0 (k:Int).toNat++t).size=_:=ByteArray.size_append
  have hpr:td (w.extract (k:Int).toNat w.size) f=true:=by assumption
  have SU:=ad1 hpr
  rw[aiR _ _ (by omega)] at SU
  refine zD 1<|jl (b:=b1) (off:=0) (m:=1) (vs:=[.string w]) 0 ⟨_,_,_,.inl g1,rfl⟩<|zD 1<|jtH (b:=w) (hi:=(k:Int)) (by omega)<|jl (b:=b3) (off:=0) (m:=1) (vs:=[.string t]) 0 ⟨_,_,_,.inl g3,rfl⟩<|jsa (a:=(w.extract 0 (k:Int).toNat)) (b:=t) 308 (by omega)<|jl (b:=b1) (off:=0) (m:=1) (vs:=[.string w]) 0 ⟨_,_,_,.inl g1,rfl⟩<|zD 1<|jl (b:=b2) (off:=0) (m:=1) (vs:=[.string f]) 0 ⟨_,_,_,.inl g2,rfl⟩<|zD 1<|ja ((k:Int)+(f.size:Int)) (by omega)<|jtL (b:=w) (lo:=((k:Int)+(f.size:Int))) (by omega)<|jsa (a:=((w.extract 0 (k:Int).toNat)++t)) (b:=(w.extract ((k:Int)+(f.size:Int)).toNat w.size)) 308 (by omega)<|zD 5<|jp (vs:=[.string (((w.extract 0 (k:Int).toNat)++t)++(w.extract ((k:Int)+(f.size:Int)).toNat w.size)),zI 1,zI 12]) [] [] (fun aC hs hZ=>(Qm (J7 (i:=k) hw ht) (TJ hn)))<|zD 1<|js 33 (ae0 (uQ w f t k)) (fun h3=>?_) (fun h3=>?_)
  ·
   have hry:=TK (t:=t) hpr (by assumption)
   have SS:=alw (by omega) hry
   refine zD 2<|jyc [0] (hy (ve w f t k).length _ [] B aC SS.1 ⟨_,SS.2,rfl,rfl⟩ hI.2 (Sub.refl _)) (Sub.refl _) ?_
   intro v4 Y4 hy4
   obtain⟨c4,rfl,hc4,hd4⟩:=yb hy4
   refine zD 3<|js 38 (!c4) (fun h5=>?_) (fun h5=>?_)
   ·
    try simp only[zB] at h5
    refine zD 2<|aH q0 (.tuple ⟨[]⟩) [] [0] Y4 (Sub.refl _) ⟨_,_,rfl,rfl,[],Y4,rfl,rfl,.inr (hd4 (by simp_all))⟩
   try simp only[zB] at h5
   refine zD 3<|ja ((k:Int)+1) (by omega)<|zD 2<|bA bM (⟨k+1,Y4⟩) ⟨by dsimp only;omega,by dsimp only;rw[(PC (n:=k+1) (by omega) hry).2];exact hc4 (by assumption)⟩ (by dsimp only;omega) [0] (Sub.refl _)
  refine zD 9<|ja ((k:Int)+1) (by omega)<|zD 2<|bA bM (⟨k+1,B⟩) ⟨by dsimp only;omega,by dsimp only;rw[WQ (ZG (by assumption))];exact hI.2⟩ (by dsimp only;omega) [0] (Sub.refl _)
 refine zD 2<|aH q0 (.tuple ⟨[]⟩) [] [0] B (Sub.refl _) ⟨_,_,rfl,rfl,[],B,rfl,rfl,.inl (by have:=hI.2;rwa[show k=w.size+1 by omega] at this)⟩
def qz(rs:List cb):List (ByteArray×ByteArray):=rs.flatMap fun r=>[(r.f,r.t),(r.t,r.f)]
abbrev eP2(x:ByteArray×ByteArray):List Value:=[.string x.1,.string x.2]
def jP(w:ByteArray)(ps:List (ByteArray×ByteArray)):List ByteArray:=ps.flatMap fun p=>DV w p.1 p.2
def sP(w:ByteArray)(rs:List cb):List ByteArray:=jP w (qz rs)
theorem Kw:∀(rs:List cb),(qz rs).length=2*rs.length
 | []=>rfl
 |r::rs=>by have:=Kw rs;simp only[qz,List.flatMap_cons,List.length_append,List.length_cons,List.length_nil] at this ⊢;omega
theorem P1:∀ {rs:List cb} {k q:Nat} {r:cb} {p:ByteArray×ByteArray},rs[k]?=some r→[(r.f,r.t),(r.t,r.f)][q]?=some p→(qz rs)[2*k+q]?=some p
 | [],_,_,_,_,h,_=>by simp at h
 |r::rs,0,q,_,p,h,h2=>by
  simp only[List.getElem?_cons_zero,Option.some.injEq] at h;subst h
  simp only[qz,List.flatMap_cons,Nat.mul_zero,Nat.zero_add]
  rw[List.getElem?_append_left (by have:=(List.getElem?_eq_some_iff.1 h2).1;exact this)];exact h2
 |r::rs,k+1,q,_,p,h,h2=>by
  have:=P1 (rs:=rs) (k:=k) (by simpa using h) h2
  simp only[qz,List.flatMap_cons]
  rw[List.getElem?_append_right (by simp;omega)]
  rw[show 2*(k+1)+q- [(r.f,r.t),(r.t,r.f)].length=2*k+q by simp;omega];exact this
theorem FW{w:ByteArray}{ps:List (ByteArray×ByteArray)}(h:ps[k]?=some p):jP w (ps.take (k+1))=jP w (ps.take k)++DV w p.1 p.2:=by
 rw[jP,fg h,List.flatMap_append];simp[jP]
theorem alb{w:ByteArray}{ps:List (ByteArray×ByteArray)}{j:Nat}(h:ps[k]?=some p) (hx:(DV w p.1 p.2)[j]?=some x):(jP w (ps.take k)).length+j <(jP w ps).length∧(jP w ps)[(jP w (ps.take k)).length+j]?=some x:=by
 have e:jP w ps=jP w (ps.take (k+1))++jP w (ps.drop (k+1)):=by rw[jP,jP,jP,←List.flatMap_append,List.take_append_drop]
 have hj:=(List.getElem?_eq_some_iff.1 hx).1
 have:(jP w ps)[(jP w (ps.take k)).length+j]?=some x:=by
  rw[e,FW h,List.append_assoc,List.getElem?_append_right (by omega),List.getElem?_append_left (by omega),show (jP w (ps.take k)).length+j-(jP w (ps.take k)).length=j by omega]
  exact hx
 exact⟨(List.getElem?_eq_some_iff.1 this).1,this⟩
theorem alR{r:cb}{q:Nat}(h:rR r)(hp: [(r.f,r.t),(r.t,r.f)][q]?=some p):xY p.2∧(p.1.size≤100∧p.2.size≤100):=by
 have:=List.mem_of_getElem? hp
 have h1:=h.f1;have h2:=h.t1
 simp only[List.mem_cons,List.not_mem_nil,or_false] at this
 rcases this with rfl|rfl
 ·exact⟨h.tl,by dsimp only;omega,by dsimp only;omega⟩
 exact⟨h.fl,by dsimp only;omega,by dsimp only;omega⟩
theorem aag{w:ByteArray}{ro:Nat→Option Obj}:eV zT 281 [.string w,.string f,.string t] ro [] (fun r Y=>∃b3 b4 b5,r= .func (.func 298) ⟨[]⟩ ⟨[zP b3,zP b4,zP b5]⟩∧Y=[(b3,.cells ⟨[.string w]⟩ 308 (0,0)),(b4,.cells ⟨[.string f]⟩ 9 (0,0)),(b5,.cells ⟨[.string t]⟩ 9 (0,0))]):=by
 refine bG av [] [] bh<|zD 2<|jn fun b3=>jn fun b4=>jn fun b5=>zD 8<|aH q0 (.func (.func 298) ⟨[]⟩ ⟨[zP b3,zP b4,zP b5]⟩) [] [2,1,0] ((b3,.cells ⟨[.string w]⟩ 308 (0,0))::((b4,.cells ⟨[.string f]⟩ 9 (0,0))::[(b5,.cells ⟨[.string t]⟩ 9 (0,0))])) (Sub.refl _) ⟨_,_,rfl,rfl,_,_,_,rfl,rfl⟩
theorem atj{w:ByteArray}{ro:Nat→Option Obj}(hl:bH ro vl 2 iV rs):eV zT 257 [.string w,vl] ro [] (fun r Y=>∃b2 b3,r= .func (.func 280) ⟨[]⟩ ⟨[zP b3,zP b2]⟩∧Y=[(b2,.cells ⟨[.string w]⟩ 308 (0,0)),(b3,.cells ⟨[vl]⟩ 36 (0,0))]):=by
 obtain⟨fL,sj,si,fp,rfl,tZ,lU,mS⟩:=hl
 refine bG av [] [] bh<|zD 2<|jn fun b2=>jn fun b3=>zD 8<|aH q0 (.func (.func 280) ⟨[]⟩ ⟨[zP b3,zP b2]⟩) [] [1,0] ((b2,.cells ⟨[.string w]⟩ 308 (0,0))::[(b3,.cells ⟨[.slice fL rs.length fp]⟩ 36 (0,0))]) (Sub.refl _) ⟨_,_,rfl,rfl,_,_,rfl,rfl⟩
theorem al8{w:ByteArray}{ro:Nat→Option Obj}(g1:ro b1=some (.cells ⟨[vl]⟩ 36 (0,0)))(hl:bH ro vl 2 iV rs)(hR:∀r∈rs,rR r)(g2:ro b2=some (.cells ⟨[.string w]⟩ 308 (0,0)))(hw:xY w)(hn:w.size≤100)(hq:rs.length≤100):ItX zT 280 [] [zP b1,zP b2] ro [] (sP w rs).length (aqO (sP w rs)) (fun Z=>Z=[]):=by
 intro bl aC Inv Stop hs hy B hB
 replace g1:=hs _ _ g1
 replace g2:=hs _ _ g2
 replace hl:=hl.up hs
 obtain⟨fL,sj,si,fp,rfl,tZ,lU,mS⟩:=hl
 refine amQ av [.l B] [] bh<|zD 2<|jn fun b3=>jf [0] [(b3,.cells ⟨[(.func (.yield bl) #[] #[])]⟩ 374 (0,0))] fun yn bB iN=>zD 3<|jl (b:=b1) (off:=0) (m:=1) (vs:=[.slice fL rs.length fp]) 0 ⟨_,_,_,.inl (bB _ _ g1),rfl⟩<|zD 4<|oL<|aCI [1,1,0,0] [] (fun(zz:Nat×(List Nat)×Cells)=>[(2,zP b2),(3,zP b3),(9,.slice fL rs.length fp),(10,zI (rs.length:Int)),(11,zI (zz.1:Int))]) (fun(zz:Nat×(List Nat)×Cells)=>[.l (mk zz.2.1),.l zz.2.2]) (fun(zz:Nat×(List Nat)×Cells)=>(zz.2.1.map eH)) (fun(zz:Nat×(List Nat)×Cells)=>zz.1≤rs.length∧Inv (jP w ((qz rs).take (2*zz.1))).length zz.2.2) (fun(zz:Nat×(List Nat)×Cells)=>rs.length-zz.1) (⟨0,[],B⟩) ⟨by dsimp only;omega,hB⟩ [0,1] ?_
 rintro⟨k,uJ,B⟩ hI K1 bM rest
 dsimp only at hI
 refine zD 5<|zJ 12 ((k:Int) <(rs.length:Int)) (fun h4=>?_) fun h4=>?_
 ·
  refine zD 6 ?_
  obtain⟨x13,am5⟩:=zG rs k
  refine iM fp 2 lU am5<|jl 0 ((mS _ _ am5).ext (uD bB))<|jn fun b5=>jd 14 [0,0,0,0,0]<|jn fun dA=>zD 4<|aCI [1,1,0,0,1,1,0,0,1,1,0,0] [K1] (fun(zz:Nat×(List Nat)×Cells)=>[(2,zP b2),(3,zP b3),(9,.slice fL rs.length fp),(10,zI (rs.length:Int)),(11,zI (k:Int)),(25,.slice (some ⟨dA,0,none⟩) 2 2),(26,zI 2),(27,zI (zz.1:Int))]) (fun(zz:Nat×(List Nat)×Cells)=>[.l (mk zz.2.1),.l zz.2.2,.b dA (.cells ⟨[.string x13.f,.string x13.t,.string x13.t,.string x13.f]⟩ 375 (0,0))]) (fun(zz:Nat×(List Nat)×Cells)=>(zz.2.1.map eH)) (fun(zz:Nat×(List Nat)×Cells)=>zz.1≤2∧Inv (jP w ((qz rs).take (2*k+zz.1))).length zz.2.2) (fun(zz:Nat×(List Nat)×Cells)=>2-zz.1) (⟨0,uJ,B⟩) ⟨by dsimp only;omega,hI.2⟩ [2,3,0] ?_
  rintro⟨q,uJ,B⟩ hJ K2 lI rest
  dsimp only at hJ
  refine zD 5<|zJ 28 ((q:Int) <2) (fun h5=>?_) fun h5=>?_
  ·
   refine zD 6 ?_
   obtain⟨Ez,ze⟩:=zG ([(x13.f,x13.t),(x13.t,x13.f)]:List _) q (show q <2 from by omega)
   refine iM (a:=(some ⟨dA,0,none⟩)) (b:=dA) (off:=0) 2 2 (fun _ _=>rfl) ze<|mY (m:=2) 0 [2] [(dA,.cells ⟨([(x13.f,x13.t),(x13.t,x13.f)].map eP2).flatten⟩ 375 (0,0))] (fun s _ hZ=>xE (hZ _ (.head _)) (by intro p hp;rfl) ze) ?_
   refine jn fun b7=>jd 3 [0] ?_
   have hpx:=P1 am5 ze
   have hpk:=alR (hR _ (List.mem_of_getElem? am5)) ze
   refine zD 1<|jl (b:=b2) (off:=0) (m:=1) (vs:=[.string w]) 0 ⟨_,_,_,.inl (bB _ _ g2),rfl⟩<|jd 4 [0,0]<|jc (vs:=[.string w,.string Ez.1,.string Ez.2]) [] (aag) ?_
   rintro _ _ ⟨apQ,apP,apO,rfl,rfl⟩
   refine jg 0 [.b apQ (.cells ⟨[.string w]⟩ 308 (0,0)),.b apP (.cells ⟨[.string Ez.1]⟩ 9 (0,0)),.b apO (.cells ⟨[.string Ez.2]⟩ 9 (0,0))]<|jf [0,1,2] ((apQ,.cells ⟨[.string w]⟩ 308 (0,0))::((apP,.cells ⟨[.string Ez.1]⟩ 9 (0,0))::[(apO,.cells ⟨[.string Ez.2]⟩ 9 (0,0))])) fun ro8 zf hk7=>zD 2<|jrf [] (al9 (hk7 _ (.head _)) (hk7 _ (.tail _ (.head _))) (hk7 _ (.tail _ (.tail _ (.head _)))) hw hpk.1 ⟨hn,hpk.2⟩) (by rintro _ _ _ _ ⟨_,_,rfl,_⟩;rfl) (fun(zz:Cells)=>[.l zz]) (fun kk=>(fun(zz:Cells)=>Inv ((jP w ((qz rs).take (2*k+q))).length+kk) zz)) (fun jump=>(fun(zz:Cells)=>jump= .ret∧Stop zz)) B (show Inv (_+0) _ from hJ.2) [2] ?_ ?_ ?_
   ·
    rintro bl9 bd9 kk9 vs9 LL9 B ro9 hk9 avN hL hs9
    obtain⟨x9,hx9,rfl,rfl⟩:=avN
    have hu:=alb hpx hx9
    refine zD 3<|jbg<|zD 3<|jl (b:=b3) (off:=0) (m:=1) (vs:=[(.func (.yield bl) #[] #[])]) 0 ⟨_,_,_,.inl (hs9 _ _ (zf _ _ (iN _ (.head _)))),rfl⟩<|zD 1<|jyc [1] (hy ((jP w ((qz rs).take (2*k+q))).length+kk9) _ [] B ro9 hu.1 ⟨_,hu.2,rfl,rfl⟩ hL ((bB.trans zf).trans hs9)) (Sub.refl _) ?_
    intro v10 Y10 aRg
    obtain⟨c10,rfl,awb,av6⟩:=yb aRg
    refine zD 2<|js 41 (!c10) (fun HG=>?_) (fun HG=>?_)
    ·
     try simp only[zB] at HG
     refine zD 2<|jys ZQ (Sub.refl _) .ret Y10 ⟨rfl,av6 (by simp_all)⟩ [1,0]
    try simp only[zB] at HG
    refine zD 2<|jyn ZQ (Sub.refl _) Y10 (awb (by simp_all)) [1,0]
   ·
    rintro bd9 B Z9 hL hZ9
    subst hZ9
    refine zD 1<|ja ((q:Int)+1) (by omega)<|zD 2<|jnD lI (⟨q+1,(bd9::uJ),B⟩) ⟨by dsimp only;omega,by dsimp only;rw[←Nat.add_assoc,FW hpx,List.length_append];exact hL⟩ (by dsimp only;omega) [[0,4],[2],[5]] zf
   rintro bd9 B Z9 jump hS hZ9
   obtain⟨rfl,hS⟩:=hS
   subst hZ9
   exact jrM qm0.a.w.w.a.m (.tuple ⟨[]⟩) [0,4] [] [1] B (bB.trans zf) ⟨[],B,rfl,rfl,.inr hS⟩
  refine zD 3<|ja ((k:Int)+1) (by omega)<|zD 2<|jnD bM (⟨k+1,uJ,B⟩) ⟨by dsimp only;omega,by have:=hJ.2;dsimp only;rwa[show 2*(k+1)=2*k+q by omega]⟩ (by dsimp only;omega) [[0],[1]] (Sub.refl _)
 refine zD 2<|jrM qm0.a.w (.tuple ⟨[]⟩) [0] [] [0] B bB ⟨[],B,rfl,rfl,.inl (by have:=hI.2;rwa[show k=rs.length by omega,List.take_of_length_le (by rw[Kw];exact Nat.le_refl _)] at this)⟩
instance:LawfulBEq ByteArray where
 eq_of_beq:=fun h=>by rw[Oi] at h;exact of_decide_eq_true h
 rfl:=fun {a}=>by rw[Oi];exact decide_eq_true rfl
def dd(l:List ByteArray):List ByteArray:=l.foldl (fun a x=>if x∈a then a else a++[x]) []
theorem N4(l:List ByteArray)(x:ByteArray):dd (l++[x])=if x∈dd l then dd l else dd l++[x]:=by rw[dd,List.foldl_append];rfl
theorem axm(a:List ByteArray):∀b:List ByteArray,∃r,dd (a++b)=dd a++r:=by
 intro b
 induction b generalizing a with
 |nil=>exact⟨[],by simp⟩
 |cons x b ih=>
  obtain⟨r,hr⟩:=ih (a++[x])
  rw[show a++x::b=(a++[x])++b by simp,hr,N4]
  split
  ·exact⟨r,rfl⟩
  exact⟨x::r,by simp⟩
abbrev kvS:ByteArray→Value:=fun a=> .string a
def mF(m:List ByteArray):List (ByteArray×Value):=m.map fun x=>(x,.bool true)
theorem Vq(k:ByteArray):∀(m:List ByteArray) (i:Nat),(sJ k (mF m) i).map (·.2)=if k∈m then some (.bool true) else none
 | [],_=>rfl
 |x::m,i=>by
  simp only[mF,List.map_cons,sJ]
  by_cases h:k=x
  ·simp[h]
  have:=Vq k m (i+1)
  simp only[mF] at this
  simp[h,this]
theorem aCj{k:ByteArray}{m:List ByteArray}:Qx (.bool false) false k (mF m)= .bool (decide (k∈m)):=by
 simp only[Qx,lkM,Vq]
 by_cases h:k∈m<;>simp[h]
theorem arX{k:ByteArray}{m:List ByteArray}(h:decide (k∈m)=false):mD k (.bool true) (mF m)=mF (m++[k]):=by
 have h:=of_decide_eq_false h
 have:=Vq k m 0
 rw[if_neg h] at this
 simp only[mD]
 cases hf:sJ k (mF m) 0 with
 |none=>simp[mF]
 |some x=>rw[hf] at this;cases this
theorem ajg(hx:l[k]?=some x) (h:decide (x∈dd (l.take k))=true):dd (l.take (k+1))=dd (l.take k):=by
 rw[fg hx,N4,if_pos (of_decide_eq_true h)]
theorem VE(hx:l[k]?=some x) (h:decide (x∈dd (l.take k))=false):dd (l.take (k+1))=dd (l.take k)++[x]:=by
 rw[fg hx,N4,if_neg (of_decide_eq_false h)]
theorem axn(hx:l[k]?=some x) (h:decide (x∈dd (l.take k))=false):∃r,dd l=dd (l.take k)++[x]++r:=by
 obtain⟨r,hr⟩:=axm (l.take (k+1)) (l.drop (k+1))
 rw[List.take_append_drop,VE hx h] at hr
 exact⟨r,hr⟩
def OI(rs:List cb)(to:ByteArray):Nat→ByteArray→List ByteArray→List (List ByteArray)
 |0,w,b=>if cO w to=true then [b++[w]] else []
 |n+1,w,b=>(dd (sP w rs)).flatMap fun s=>OI rs to n s (b++[w])
theorem Ob{to:ByteArray}:∀ {n:Nat} {w:ByteArray} {b x:List ByteArray},x∈OI rs to n w b→x.length=b.length+n+1
 |0,w,b,x,h=>by
  simp only[OI] at h
  split at h
  ·rw[List.mem_singleton] at h;subst h;simp
  cases h
 |n+1,w,b,x,h=>by
  simp only[OI,List.mem_flatMap] at h
  obtain⟨s,_,h2⟩:=h
  have:=Ob h2
  simp at this;omega
theorem ala{w:ByteArray}(hR:∀r∈rs,rR r)(hw:xY w)(h:x∈sP w rs):xY x∧x.size≤12:=by
 simp only[sP,jP,qz,List.mem_flatMap,DV,ve,List.mem_filterMap,List.mem_range] at h
 obtain⟨p,⟨r,hr,hp⟩,i,_,hi⟩:=h
 have ht:xY p.2:=by
  simp only[List.mem_cons,List.not_mem_nil,or_false] at hp
  rcases hp with rfl|rfl
  ·exact(hR r hr).tl
  exact(hR r hr).fl
 simp only[qu] at hi
 split at hi
 ·rename_i hc
  cases hi
  exact⟨J7 hw ht,hc.2.2⟩
 cases hi
abbrev aoa(L:List (List ByteArray)):(Nat→Option Obj)→Nat→List Value→Cells→Prop:=fun _ k vs LL=>∃x v,L[k]?=some x∧vs=[v]∧az v 1 9 qg x LL
structure aj7(ro:Nat→Option Obj)(bl:Nat)(rs:List cb)(to:ByteArray)(many bm bt bD br bg:Nat)(vl:Value):Prop where
 m:ro bm=some (.cells ⟨[zI (many:Int)]⟩ 3 (0,0))
 t:ro bt=some (.cells ⟨[.string to]⟩ 308 (0,0))
 y:ro bD=some (.cells ⟨[.func (.yield bl) #[] #[]]⟩ 341 (0,0))
 r:ro br=some (.cells ⟨[vl]⟩ 36 (0,0))
 g:ro bg=some (.cells ⟨[.func (.func 255) ⟨[]⟩ ⟨[zP bm,zP bt,zP bD,zP br,zP bg]⟩]⟩ 342 (0,0))
 l:bH ro vl 2 iV rs
theorem aj7.up{ro aK:Nat→Option Obj}{to:ByteArray}(h:aj7 ro bl rs to many bm bt bD br bg vl)(hs:Sub ro aK):aj7 aK bl rs to many bm bt bD br bg vl:=
 ⟨hs _ _ h.m,hs _ _ h.t,hs _ _ h.y,hs _ _ h.r,hs _ _ h.g,h.l.up hs⟩
def arb(bl:Nat)(rs:List cb)(to:ByteArray)(many bm bt bD br bg:Nat)(vl:Value)(L:List (List ByteArray))(Inv:Nat→Cells→Prop)(Stop:Cells→Prop)(n:Nat):Prop:=
 ∀(ro:Nat→Option Obj) (w:ByteArray) (b:List ByteArray) (v:Value) (p:Nat) (B:Cells),aj7 ro bl rs to many bm bt bD br bg vl→bH ro v 1 qg b→b.length+n=many→xY w→w.size≤100→Part L p (OI rs to n w b)→Inv p B→YOK zT bl ro L.length (aoa L) Inv Stop→
  eV zT 255 [.string w,v,zP bm,zP bt,zP bD,zP br,zP bg] ro B (fun r Y=>∃c,r= .bool c∧(c=true→Inv (p+(OI rs to n w b).length) Y)∧(c=false→Stop Y))
theorem atl{w:ByteArray}{b:List ByteArray}{v:Value}{p:Nat}{B:Cells}{to:ByteArray}{L:List (List ByteArray)}{Inv:Nat→Cells→Prop}{ro:Nat→Option Obj}(ih:∀m,m <n→arb bl rs to many bm bt bD br bg vl L Inv Stop m)(hR:∀r∈rs,rR r)(hq:rs.length≤100)(X6:many≤100)(Rh:aj7 ro bl rs to many bm bt bD br bg vl)(hb:bH ro v 1 qg b)(hbn:b.length+n=many)(hw:xY w)(sB:w.size≤100)(hP:Part L p (OI rs to n w b))(hB:Inv p B)(hy:YOK zT bl ro L.length (aoa L) Inv Stop):eV zT 255 [.string w,v,zP bm,zP bt,zP bD,zP br,zP bg] ro B (fun r Y=>∃c,r= .bool c∧(c=true→Inv (p+(OI rs to n w b).length) Y)∧(c=false→Stop Y)):=by
 obtain⟨gm,gt,gy,gl,gg,hl⟩:=id Rh
 obtain⟨fL,sj,si,fp,rfl,tZ,lU,mS⟩:=hl
 obtain⟨aBg,aO8,aO4,aBf,rfl,aO6,aO7,aO5⟩:=hb
 refine amQ av [.l B] [] bh<|zD 2<|jn fun b9=>zD 4<|jc (vs:=[.slice aBg b.length aBf]) [] (asu (show bH _ _ _ _ _ from ⟨aBg,aO8,aO4,aBf,rfl,aO6,aO7,aO5⟩) (by first|omega| (simp only[List.length_set,List.length_append,List.length_cons,List.length_nil];omega))) ?_
 rintro v14 L14 ⟨_,UJ,rfl⟩
 refine zD 1<|jn fun b16=>jT (sz:=1) (ps:=b) (qs:=[w]) (enc:=qg) (w:= .slice (some ⟨b16,0,none⟩) 1 1) [1] [0] [(b16,.cells ⟨([w].map qg).flatten⟩ 9 (0,0))] (UJ) (fun s _ hZ=>bN [w] (hZ _ (.head _)) (by intro p hp;rfl)) (fun p _=>ar rfl) (by simp only[List.length_cons,List.length_nil];omega) (fun v17 L17 UH=>?_)
 obtain⟨AB,Az,Rf⟩:=UH.form
 subst Rf
 refine jn fun iK=>jd 7 [0,0]<|jl (b:=bm) (off:=0) (m:=1) (vs:=[zI (many:Int)]) 0 ⟨_,_,_,.inl gm,rfl⟩<|zD 2<|zJ 21 (((b++[w]).length:Int)>(many:Int)) (fun h1=>?_) fun h1=>?_
 ·
  refine zD 2 ?_
  obtain rfl:n=0:=by simp only[List.length_append,List.length_cons,List.length_nil] at*;omega
  refine zD 2<|jl (b:=bt) (off:=0) (m:=1) (vs:=[.string to]) 0 ⟨_,_,_,.inl gt,rfl⟩<|zD 2<|js 25 (!(cO w to)) (fun h2=>?_) (fun h2=>?_)
  ·
   have mM:=h2
   try simp only[zB] at mM
   refine jd 7 [3]<|jrM qm0 (.bool true) [] [3] [4] B (Sub.refl _) ⟨_,rfl,(fun _=>by rw[show OI rs to 0 w b=[] from if_neg (by simp_all)];exact hB),nofun⟩
  have mM:=h2
  try simp only[zB] at mM
  have agY:OI rs to 0 w b=[b++[w]]:=if_pos (by simp_all)
  have Yc:=Part.get (i:=0) (x:=b++[w]) hP (by rw[agY];rfl)
  refine jl (b:=bD) (off:=0) (m:=1) (vs:=[(.func (.yield bl) #[] #[])]) 0 ⟨_,_,_,.inl gy,rfl⟩<|jd 1 [0]<|jyc [1,4] (hy p [(.slice AB ((b++[w])).length Az)] L17 B ro Yc.1 ⟨_,_,Yc.2,rfl,UH⟩ hB (Sub.refl _)) (Sub.refl _) ?_
  intro v28 Y28 aRe
  obtain⟨c28,rfl,aTY,aTL⟩:=yb aRe
  refine jd 4 [3]<|jrM qm0 (.bool c28) [] [3] [0] Y28 (Sub.refl _) ⟨_,rfl,(fun h=>by rw[agY];exact aTY h),aTL⟩
 refine zD 3 ?_
 obtain⟨m,rfl⟩:∃m,n=m+1:=⟨n-1,by simp only[List.length_append,List.length_cons,List.length_nil] at*;omega⟩
 refine zD 1<|jmk kvS fun r30 L30 aD7=>jn fun S8=>jd 5 [0]<|jf [2,0,3] ((iK,.cells ⟨[(.slice AB ((b++[w])).length Az)]⟩ 137 (0,0))::((S8,.cells ⟨[(.map (some r30))]⟩ 344 (0,0))::L17)) (fun ro5 IK hk4=>?_)
 have vz:=UH.kJ hk4.tail.tail
 replace Rh:=Rh.up IK
 replace hy:=hy.up IK
 refine zD 1<|jl (b:=br) (off:=0) (m:=1) (vs:=[.slice fL rs.length fp]) 0 ⟨_,_,_,.inl (IK _ _ gl),rfl⟩<|jc (vs:=[.string w,.slice fL rs.length fp]) [] (atj ((show bH _ _ _ _ _ from ⟨fL,sj,si,fp,rfl,tZ,lU,mS⟩).up IK)) ?_
 rintro _ _ ⟨apS,apR,rfl,rfl⟩
 refine jg 0 [.b apS (.cells ⟨[.string w]⟩ 308 (0,0)),.b apR (.cells ⟨[.slice fL rs.length fp]⟩ 36 (0,0))]<|jf [0,1] ((apS,.cells ⟨[.string w]⟩ 308 (0,0))::[(apR,.cells ⟨[.slice fL rs.length fp]⟩ 36 (0,0))]) fun ro8 zf hk7=>zD 2<|jrf [] (al8 (hk7 _ (.tail _ (.head _))) (Rh.l.up zf) hR (hk7 _ (.head _)) hw sB hq) (by rintro _ _ _ _ ⟨_,_,rfl,_⟩;rfl) (fun(zz:Bool×Cells×Cells)=>[.b b9 (.cells ⟨[.bool zz.1]⟩ 4 (0,0)),.l zz.2.1,.l zz.2.2]) (fun kk=>(fun(zz:Bool×Cells×Cells)=>Inv (p+((dd ((sP w rs).take kk)).flatMap fun s=>OI rs to m s (b++[w])).length) zz.2.2∧ki r30 kvS (mF (dd ((sP w rs).take kk))) zz.2.1)) (fun jump=>(fun(zz:Bool×Cells×Cells)=>jump= .ret∧(zz.1=false∧Stop zz.2.2))) (⟨false,L30,B⟩) ⟨hB,aD7⟩ [2,0,3] ?_ ?_ ?_
 ·
  rintro bl9 bd9 kk9 vs9 LL9 ⟨rv,Lm,B⟩ ro9 hk9 avN hL hs9
  obtain⟨x9,hx9,rfl,rfl⟩:=avN
  have hue:=ala hR hw (List.mem_of_getElem? hx9)
  refine zD 3<|jbg<|zD 4<|jl (b:=S8) (off:=0) (m:=1) (vs:=[(.map (some r30))]) 0 ⟨_,_,_,.inl (hs9 _ _ (zf _ _ (hk4 _ (.tail _ (.head _))))),rfl⟩<|zD 1<|jlu (kv:=kvS) (F:=(mF (dd ((sP w rs).take kk9)))) (r:=r30) (K:=308) x9 (.bool false) false [2] Lm (XF (T:=308) (by kernel_rfl)) (fun s _ hZ=>hL.2.has hZ)<|jw 37 (.bool (decide (x9∈(dd ((sP w rs).take kk9))))) aCj<|zD 1<|js 37 (decide (x9∈(dd ((sP w rs).take kk9)))) (fun FG=>?_) (fun FG=>?_)
  ·
   refine zD 2<|jyn ZQ (Sub.refl _) ⟨rv,Lm,B⟩ ⟨by rw[ajg hx9 (by assumption)];exact hL.1,by rw[ajg hx9 (by assumption)];exact hL.2⟩ [0,1,2,3]
  have tA:decide (x9∈dd ((sP w rs).take kk9))=false:=by assumption
  obtain⟨rr,hrr⟩:=axn hx9 tA
  have aDH:=Part.flat (G:=fun s=>OI rs to m s (b++[w])) hP hrr
  refine zD 4<|jl (b:=S8) (off:=0) (m:=1) (vs:=[(.map (some r30))]) 0 ⟨_,_,_,.inl (hs9 _ _ (zf _ _ (hk4 _ (.tail _ (.head _))))),rfl⟩<|zD 1<|jmu (kv:=kvS) (F:=(mF (dd ((sP w rs).take kk9)))) (r:=r30) (K:=308) 2 x9 (.bool true) (XF (T:=308) (by kernel_rfl)) hL.2 fun aIZ agJ=>zD 3<|jl (b:=bg) (off:=0) (m:=1) (vs:=[.func (.func 255) ⟨[]⟩ ⟨[zP bm,zP bt,zP bD,zP br,zP bg]⟩]) 0 ⟨_,_,_,.inl (hs9 _ _ (zf _ _ (IK _ _ gg))),rfl⟩<|zD 1<|jl (b:=iK) (off:=0) (m:=1) (vs:=[(.slice AB ((b++[w])).length Az)]) 0 ⟨_,_,_,.inl (hs9 _ _ (zf _ _ (hk4 _ (.head _)))),rfl⟩<|jc (vs:=[.string x9,(.slice AB ((b++[w])).length Az),zP bm,zP bt,zP bD,zP br,zP bg]) [3] (ih m (by omega) _ _ _ _ (p+((dd ((sP w rs).take kk9)).flatMap fun s=>OI rs to m s (b++[w])).length) _ (Rh.up (zf.trans hs9)) (vz.up (zf.trans hs9)) (by simp only[List.length_append,List.length_cons,List.length_nil];omega) hue.1 (by omega) aDH hL.1 (hy.up (zf.trans hs9))) ?_
  rintro _ Y43 ⟨c43,rfl,aTV,aTI⟩
  refine zD 2<|js 44 (!c43) (fun BY=>?_) (fun BY=>?_)
  ·
   try simp only[zB] at BY
   refine jd 6 [3]<|jys ZQ (Sub.refl _) .ret ⟨false,aIZ,Y43⟩ ⟨rfl,rfl,aTI (by simp_all)⟩ [2,3,1,0]
  try simp only[zB] at BY
  refine zD 2<|jyn ZQ (Sub.refl _) ⟨rv,aIZ,Y43⟩ ⟨by rw[VE hx9 tA,List.flatMap_append,List.length_append,←Nat.add_assoc];have:=aTV (by simp_all);simpa using this,by rw[VE hx9 tA,←arX tA];exact agJ⟩ [2,3,1,0]
 ·
  rintro bd9 ⟨rv,Lm,B⟩ Z9 hL hZ9
  subst hZ9
  refine jd 5 [2]<|jrM qm0.a.a.m (.bool true) [0] [1] [3] B (IK.trans zf) ⟨_,rfl,(fun _=>by have:=hL.1;rwa[List.take_of_length_le (Nat.le_refl _)] at this),nofun⟩
 rintro bd9 ⟨rv,Lm,B⟩ Z9 jump hS hZ9
 obtain⟨rfl,hS⟩:=hS
 obtain⟨rfl,hS⟩:=hS
 subst hZ9
 exact jrM qm0.a.a.m (.bool false) [0] [1] [3] B (IK.trans zf) ⟨_,rfl,nofun,fun _=>hS⟩
theorem aCc{to:ByteArray}{L:List (List ByteArray)}{Inv:Nat→Cells→Prop}(hR:∀r∈rs,rR r)(hq:rs.length≤100)(X6:many≤100):∀n,arb bl rs to many bm bt bD br bg vl L Inv Stop n:=by
 intro n
 induction n using Nat.strongRecOn with
 |_ n ih=>exact fun ro w b v p B hc hb hbn hw sB hP hB hy=>atl ih hR hq X6 hc hb hbn hw sB hP hB hy
theorem aah{w to:ByteArray}{ro:Nat→Option Obj}(g1:ro b1=some (.cells ⟨[zI (many:Int)]⟩ 3 (0,0)))(g2:ro b2=some (.cells ⟨[.string to]⟩ 308 (0,0)))(g3:ro b3=some (.cells ⟨[vl]⟩ 36 (0,0)))(g4:ro b4=some (.cells ⟨[.string w]⟩ 308 (0,0)))(hl:bH ro vl 2 iV rs)(hR:∀r∈rs,rR r)(hw:xY w)(sB:w.size≤100)(hq:rs.length≤100)(X6:many≤100):ItX zT 254 [] [zP b1,zP b2,zP b3,zP b4] ro [] (OI rs to many w []).length (aoa (OI rs to many w [])) (fun Z=>Z=[]):=by
 intro bl aC Inv Stop hs hy B hB
 replace g1:=hs _ _ g1
 replace g2:=hs _ _ g2
 replace g3:=hs _ _ g3
 replace g4:=hs _ _ g4
 replace hl:=hl.up hs
 have hlr:=hl
 obtain⟨fL,sj,si,fp,rfl,tZ,lU,mS⟩:=hl
 refine bG av [.l B] [] bh<|zD 2<|jn fun b5=>zD 3<|jn fun b6=>jd 8 [0,0]<|jl (b:=b4) (off:=0) (m:=1) (vs:=[.string w]) 0 ⟨_,_,_,.inl g4,rfl⟩<|jf [1,0] ((b5,.cells ⟨[(.func (.yield bl) #[] #[])]⟩ 341 (0,0))::[(b6,.cells ⟨[.func (.func 255) ⟨[]⟩ ⟨[zP b1,zP b2,zP b5,zP b3,zP b6]⟩]⟩ 342 (0,0))]) fun yn bB iN=>jc (vs:=[.string w,zS,zP b1,zP b2,zP b5,zP b3,zP b6]) [0] (aCc hR hq X6 many _ _ _ _ 0 _ ⟨bB _ _ g1,bB _ _ g2,iN _ (.head _),bB _ _ g3,iN _ (.tail _ (.head _)),hlr.up bB⟩ (bH.nil _ _ _ _ _) (by simp) hw sB ⟨[],[],by simp,rfl⟩ hB (YOK.up hy bB)) ?_
 rintro _ Y10 ⟨c10,rfl,awb,av6⟩
 refine zD 1<|aH q0.a (.tuple ⟨[]⟩) [] [0] Y10 bB ⟨_,_,rfl,rfl,[],Y10,rfl,rfl,by cases c10 with|true=>exact .inl (by simpa using awb rfl)|false=>exact .inr (av6 rfl)⟩
theorem aeE{w to:ByteArray}{many:Int}{ro:Nat→Option Obj}(hl:bH ro vl 2 iV rs):eV zT 237 [.string w,vl,.string to,zI many] ro [] (fun r Y=>∃b4 b5 b6 b7,r= .func (.func 254) ⟨[]⟩ ⟨[zP b7,zP b6,zP b5,zP b4]⟩∧Y=[(b4,.cells ⟨[.string w]⟩ 308 (0,0)),(b5,.cells ⟨[vl]⟩ 36 (0,0)),(b6,.cells ⟨[.string to]⟩ 308 (0,0)),(b7,.cells ⟨[zI many]⟩ 3 (0,0))]):=by
 obtain⟨fL,sj,si,fp,rfl,tZ,lU,mS⟩:=hl
 refine bG av [] [] bh<|zD 2<|jn fun b4=>jn fun b5=>jn fun b6=>jn fun b7=>zD 8<|aH q0 (.func (.func 254) ⟨[]⟩ ⟨[zP b7,zP b6,zP b5,zP b4]⟩) [] [3,2,1,0] ((b4,.cells ⟨[.string w]⟩ 308 (0,0))::((b5,.cells ⟨[.slice fL rs.length fp]⟩ 36 (0,0))::((b6,.cells ⟨[.string to]⟩ 308 (0,0))::[(b7,.cells ⟨[zI many]⟩ 3 (0,0))]))) (Sub.refl _) ⟨_,_,rfl,rfl,_,_,_,_,rfl,rfl⟩
theorem atm{L:List (List ByteArray)}{ro:Nat→Option Obj}(hit:ItX zT 254 [] [zP b1,zP b2,zP b3,zP b4] ro [] L.length (aoa L) (fun Z=>Z=[]))(hL:∀x∈L,x.length≤1000):eV zT 236 [.func (.func 254) ⟨[]⟩ ⟨[zP b1,zP b2,zP b3,zP b4]⟩,.func (.func 238) ⟨[]⟩ ⟨[]⟩] ro [] (fun r Y=>∃v,r= .tuple ⟨[v,.bool (decide (0 <L.length))]⟩∧∃ps,az v 1 9 qg ps Y∧(0 <L.length→ps∈L)):=by
 refine amQ av [] [] bh<|zD 2<|jn fun b3=>zD 2<|jf [0] [(b3,.cells ⟨[.func (.func 238) ⟨[]⟩ ⟨[]⟩]⟩ 333 (0,0))] fun yn bB iN=>zD 3<|jn fun b6=>zD 3<|jn fun b7=>jd 8 [0]<|oL<|jrf [] (hit.up bB) (by rintro _ _ _ _ ⟨_,_,_,rfl,_⟩;rfl) (fun(zz:Value×(List ByteArray)×Cells×Bool)=>[.b b6 (.cells ⟨[zz.1]⟩ 137 (0,0)),.b b7 (.cells ⟨[.bool zz.2.2.2]⟩ 4 (0,0)),.l zz.2.2.1]) (fun kk=>(fun(zz:Value×(List ByteArray)×Cells×Bool)=>az zz.1 1 9 qg zz.2.1 zz.2.2.1∧zz.2.2.2=decide (0 <kk)∧(0 <kk→zz.2.1∈L)∧zz.2.1.length≤1000)) (fun jump=>(fun(zz:Value×(List ByteArray)×Cells×Bool)=>False)) (⟨zS,[],[],false⟩) ⟨az.nil _ _ _,rfl,nofun,by simp⟩ [2,1,0] ?_ ?_ ?_
 ·
  rintro bl4 bd4 kk4 vs4 LL4 ⟨v,ps,Lb,sm⟩ ro4 hk4 avO hI fA
  obtain⟨x4,v4,hx4,rfl,ho4⟩:=avO
  have hxl:=hL _ (List.mem_of_getElem? hx4)
  have SU:=hI.2.2.2
  refine zD 3<|jbg<|jd 6 [2]<|js 13 (!sm) (fun h5=>?_) (fun h5=>?_)
  ·
   have NM:=h5
   try simp only[zB] at NM
   refine zD 10 ?_
   obtain⟨va6,vc6,he6⟩:=ho4.form
   subst he6
   refine jd 3 [1,2]<|jyn ZQ (Sub.refl _) ⟨(.slice va6 (x4).length vc6),x4,LL4,true⟩ ⟨ho4,rfl,fun _=>List.mem_of_getElem? hx4,hxl⟩ [0,1,2,4]
  have NM:=h5
  try simp only[zB] at NM
  refine jl (b:=b3) (off:=0) (m:=1) (vs:=[.func (.func 238) ⟨[]⟩ ⟨[]⟩]) 0 ⟨_,_,_,.inl (fA _ _ (iN _ (.head _))),rfl⟩<|jd 2 [1]<|jp (vs:=[v4,v]) [4,3] (LL4++Lb) (fun aC hs hZ=>aOP (ho4.kJ hZ.left) (hI.1.kJ hZ.right) (by first|omega| (simp only[List.length_set,List.length_append,List.length_cons,List.length_nil];omega)) (by first|omega| (simp only[List.length_set,List.length_append,List.length_cons,List.length_nil];omega))) ?_
  refine zD 3<|zJ 19 ((N7 x4 ps) <0) (fun h7=>?_) fun h7=>?_
  ·
   refine zD 3 ?_
   obtain⟨va8,vc8,he8⟩:=ho4.form
   subst he8
   refine jd 3 [1,2]<|jyn ZQ (Sub.refl _) ⟨(.slice va8 (x4).length vc8),x4,LL4,true⟩ ⟨ho4,rfl,fun _=>List.mem_of_getElem? hx4,hxl⟩ [0,1,2,4]
  refine zD 2<|jyn ZQ (Sub.refl _) ⟨v,ps,Lb,sm⟩ ⟨hI.1,by have:=hI.2.1;simp_all,fun _=>hI.2.2.1 (by have:=hI.2.1;simp_all),SU⟩ [0,1,2,3]
 ·
  rintro bd4 ⟨v,ps,Lb,sm⟩ Z4 hI hZ4
  subst hZ4
  refine jd 8 [2,3]<|jrM qm0.a.m (.tuple ⟨[v,.bool sm]⟩) [0] [] [3] Lb bB ⟨v,by rw[←hI.2.1],ps,hI.1,hI.2.2.1⟩
 rintro bd4 ⟨v,ps,Lb,sm⟩ Z4 jump hS hZ4
 exact hS.elim
abbrev eBy(x:Int):List Value:=[.int .u8 x]
theorem aH1:EF zT 303 (Extern.BytealgMakeNoZero.makeNoZero #[3] #[363]):=⟨Tryz.f303,Tryz.func303,by kernel_rfl,by kernel_rfl,by kernel_rfl,by kernel_rfl⟩
def ar7:=(lB Tryz.typeInfo363 Tryz.underlying363 rfl rfl rfl rfl rfl rfl:TF zT 363 _ 1 24 _ false)
theorem aea{l:List Value}{T:TypeId}:az (.slice (some ⟨b,0,none⟩) 0 l.length) 1 T eBy ([]:List Int) [(b,.cells ⟨l⟩ T (0,0))]:= .inr ⟨b,l,l.length,rfl,rfl,by simp,by simp,by simp,by simp⟩
theorem alT{v:Value}{T:TypeId}{c:Int}{L:Cells}(h:az v 1 T eBy [c] L):∃b l cap,cap≠0∧v= .slice (some ⟨b,0,none⟩) 1 cap∧L=[(b,.cells ⟨.int .u8 c::l⟩ T (0,0))]:=by
 rcases h with ⟨_,h,_⟩| ⟨b,l,cap,h1,h2,h3,h4,_,h6⟩
 ·cases h
 simp only[List.length_cons,List.length_nil] at h1 h4 h6
 cases l with
 |nil=>simp at h3;omega
 |cons x l=>
  simp at h6;subst h6
  exact⟨b,l,cap,by omega,h1,h2⟩
def abi(n:Int):ByteArray:=⟨#[n.toNat.toUInt8]⟩
theorem aH2:EF zT 302 Extern.AbiNoEscape.same:=⟨Tryz.f302,Tryz.func302,by kernel_rfl,by kernel_rfl,by kernel_rfl,by kernel_rfl⟩
theorem aIr{v:Value}{ro:Nat→Option Obj}:eV zT 291 [zP b] ro [(b,.cells ⟨[.pointer none,v]⟩ 365 (0,0))] (fun r Y=>Y=[(b,.cells ⟨[zP b,v]⟩ 365 (0,0))]):=by
 refine bG av [.b b (.cells ⟨[.pointer none,v]⟩ 365 (0,0))] [] bh<|jd 12 [0]<|jmo [0] [0,0] [(b,.cells ⟨[.pointer none,v]⟩ 365 (0,0))] (zP b)<|jg 0 [.b b (.cells ⟨[.pointer none,v]⟩ 365 (0,0))]<|aQL (v:= zP b) aH2<|jmo [0] [0,0] [(b,.cells ⟨[.pointer none,v]⟩ 365 (0,0))] (zP b)<|jg 0 [.b b (.cells ⟨[.pointer none,v]⟩ 365 (0,0))]<|jd 4 [0]<|aH q0 (.tuple ⟨[]⟩) [] [0] [(b,.cells ⟨[zP b,v]⟩ 365 (0,0))] (Sub.refl _) ⟨_,_,rfl,rfl,rfl⟩
theorem aIq{v:Value}{ro:Nat→Option Obj}:eV zT 291 [zP b] ro [(b,.cells ⟨[zP b,v]⟩ 365 (0,0))] (fun r Y=>Y=[(b,.cells ⟨[zP b,v]⟩ 365 (0,0))]):=by
 refine bG av [.b b (.cells ⟨[zP b,v]⟩ 365 (0,0))] [] bh<|jd 16 [0,0]<|jpn (b:=b)<|jg 0 []<|zD 3<|aH q0 (.tuple ⟨[]⟩) [] [0] [(b,.cells ⟨[zP b,v]⟩ 365 (0,0))] (Sub.refl _) ⟨_,_,rfl,rfl,rfl⟩
theorem aIk{ro:Nat→Option Obj}:eV zT 292 [zP b,zI 1] ro [(b,.cells ⟨[zP b,zS]⟩ 365 (0,0))] (fun r Y=>∃v L,az v 1 5 eBy ([]:List Int) L∧Y=(b,.cells ⟨[zP b,v]⟩ 365 (0,0))::L):=by
 refine bG av [.b b (.cells ⟨[zP b,zS]⟩ 365 (0,0))] [] bh<|jd 6 [0]<|jcp (c:=0)<|jd 8 [0]<|aM 8 fun B4 Cc yy=>jnz (n:=1) aH1 rfl ar7 (by omega) fun bb lz hlz=>jg 0 [.b bb (.cells ⟨lz⟩ 5 (0,0))]<|bI yy [1]<|js0 (a:=⟨bb,0,none⟩) (l:=1) (c:=lz.length)<|jd 9 [1]<|jmo [] [] [] (zI 0)<|jg 0 []<|jd 8 [1]<|aH q0 (.tuple ⟨[]⟩) [] [1,0] ((b,.cells ⟨[zP b,(.slice (some ⟨bb,0,none⟩) 0 lz.length)]⟩ 365 (0,0))::[(bb,.cells ⟨lz⟩ 5 (0,0))]) (Sub.refl _) ⟨_,_,rfl,rfl,_,_,aea,rfl⟩
theorem aIp{ro:Nat→Option Obj}:eV zT 274 [zP b,zI 1] ro [(b,.cells ⟨[.pointer none,zS]⟩ 365 (0,0))] (fun r Y=>∃v L,az v 1 5 eBy ([]:List Int) L∧Y=(b,.cells ⟨[zP b,v]⟩ 365 (0,0))::L):=by
 refine bG av [.b b (.cells ⟨[.pointer none,zS]⟩ 365 (0,0))] [] bh<|zD 3<|jc (vs:=[zP b]) [0] (aIr (v:= zS)) ?_
 rintro _ _ rfl
 refine jg 0 [.b b (.cells ⟨[zP b,zS]⟩ 365 (0,0))]<|jd 15 [0]<|jcp (c:=0)<|jd 13 [0]<|jc (vs:=[zP b,zI 1]) [0] (aIk) ?_
 rintro _ _ ⟨v,L,hv,rfl⟩
 refine jg 0 [.b b (.cells ⟨[zP b,v]⟩ 365 (0,0)),.l L]<|zD 1<|aH q0 (.tuple ⟨[]⟩) [] [0,1] ((b,.cells ⟨[zP b,v]⟩ 365 (0,0))::L) (Sub.refl _) ⟨_,_,rfl,rfl,v,L,hv,rfl⟩
theorem aIs{v:Value}{L:Cells}{c:Int}{ro:Nat→Option Obj}(ho:az v 1 5 eBy ([]:List Int) L):eV zT 276 [zP b,.int .u8 c] ro ((b,.cells ⟨[zP b,v]⟩ 365 (0,0))::L) (fun r Y=>∃v' L',az v' 1 5 eBy [c] L'∧Y=(b,.cells ⟨[zP b,v']⟩ 365 (0,0))::L'):=by
 refine bG av [.b b (.cells ⟨[zP b,v]⟩ 365 (0,0)),.l L] [] bh<|zD 7<|jc (vs:=[zP b]) [0] (aIq (v:=v)) ?_
 rintro _ _ rfl
 refine jg 0 [.b b (.cells ⟨[zP b,v]⟩ 365 (0,0))]<|jd 9 [0]<|jn fun Ar=>jT (sz:=1) (ps:=[]) (qs:=[c]) (enc:=eBy) (w:= .slice (some ⟨Ar,0,none⟩) 1 1) [2] [0] [(Ar,.cells ⟨([c].map eBy).flatten⟩ 5 (0,0))] (ho) (fun s _ hZ=>bN [c] (hZ _ (.head _)) (by intro p hp;rfl)) (fun p _=>ar rfl) (by simp) (fun v14 L14 uA=>?_)
 rw[List.nil_append] at uA
 obtain⟨Mp,I8,yh⟩:=uA.form
 subst yh
 refine jd 9 [2]<|aH q0 (.nilIface) [] [2,0] ((b,.cells ⟨[zP b,(.slice Mp ([c]).length I8)]⟩ 365 (0,0))::L14) (Sub.refl _) ⟨_,_,rfl,rfl,_,_,uA,rfl⟩
theorem aWo{bb cap:Nat}{l:List Value}{c:Int}{ro:Nat→Option Obj}(oO:cap≠0):eV zT 277 [zP b] ro [(b,.cells ⟨[zP b,.slice (some ⟨bb,0,none⟩) 1 cap]⟩ 365 (0,0)),(bb,.cells ⟨.int .u8 c::l⟩ 5 (0,0))] (fun r Y=>r= .string (abi c)):=by
 refine bG av [.b b (.cells ⟨[zP b,.slice (some ⟨bb,0,none⟩) 1 cap]⟩ 365 (0,0)),.b bb (.cells ⟨.int .u8 c::l⟩ 5 (0,0))] [] bh<|jd 15 [0,0]<|aM 4 fun B4 Cc yy=>jsd (a:=⟨bb,0,none⟩) (l:=1) oO<|jg 0 []<|bI yy [0,1]<|aM 10 fun B3 Cb zp=>jus (b:=bb) (E:=5) [1] c l fun L9=>gY zp [[1]]<|zD 3<|aH q0 (.string (abi c)) [] [] [] (Sub.refl _) ⟨_,_,rfl,rfl,rfl⟩
def ui(u:UInt8):ByteArray:=⟨#[u]⟩
theorem an8{u:UInt8}(h:u.toNat <128):Value.string (Utf8.encode (u.toNat:Int))= .string (ui u):=by
 have hv:Utf8.valid (u.toNat:Int)=true:=by simp only[Utf8.valid];simp;omega
 simp only[Utf8.encode,hv,if_true,Int.toNat_natCast,if_pos (show u.toNat <0x80 from h),ui]
 simp
theorem aHF{u:UInt8}{ro:Nat→Option Obj}(hu:(97≤u.toNat∧u.toNat≤122)):dz zT 253 [.string (ui u)] ro (.string (ui u)):=by
 have vi:(ui u).size=1:=rfl
 refine bG av [] [] bh<|zD 15<|ek [1,1,0,1,0,0] [] (fun(zz:Nat×Bool)=>[(0,.string (ui u)),(2,.string (bs [])),(3,.bool true),(4,.bool zz.2),(5,zI (zz.1:Int))]) (fun(zz:Nat×Bool)=>[]) (fun(zz:Nat×Bool)=>(zz.1=0∧zz.2=false)∨(zz.1=1∧zz.2=false)) (fun(zz:Nat×Bool)=>1-zz.1) (⟨0,false⟩) (.inl ⟨rfl,rfl⟩) [] ?_
 rintro⟨i,q⟩ hI K1 bM rest
 dsimp only at hI
 refine zD 8<|zJ 14 ((i:Int) <((ui u).size:Int)) (fun h1=>?_) fun h1=>?_
 ·
  refine zD 5 ?_
  obtain⟨hi0,XX⟩:i=0∧q=false:=by rcases hI with h|h;exact h;omega
  refine jw 5 (zI 0) (show Value.int .i64 (i:Int)= zI 0 by rw[hi0];rfl) ?_
  refine jw 4 (.bool false) (show Value.bool q= .bool false by rw[XX])<|zD 12<|zJ 21 ((u.toNat:Int)≥128) (fun h2=>?_) fun h2=>?_
  ·
   exfalso;omega
  refine zD 8<|js 26 (decide (65≤(u.toNat:Int))) (fun h3=>?_) (fun h3=>?_)
  ·
   have wP:=h3
   replace wP:=of_decide_eq_true wP
   refine zD 11<|bA bM (⟨1,decide ((u.toNat:Int)≤90)⟩) (.inr ⟨rfl,decide_eq_false (by omega)⟩) (by dsimp only;omega) [] (Sub.refl _)
  have wP:=h3
  replace wP:=of_decide_eq_false wP
  exfalso;omega
 refine zD 4 ?_
 obtain⟨hi1,hq1⟩:i=1∧q=false:=by rcases hI with h|h;omega;exact h
 refine jw 4 (.bool false) (show Value.bool q= .bool false by rw[hq1])<|zD 17<|aH q0 (.string (ui u)) [] [] [] (Sub.refl _) ⟨_,_,rfl,rfl,rfl,rfl⟩
theorem aHE{u:UInt8}{ro:Nat→Option Obj}(hu:(65≤u.toNat∧u.toNat≤90)):dz zT 253 [.string (ui u)] ro (.string (abi (IntKind.u8.wrap ((u.toNat:Int)+32)))):=by
 have vi:(ui u).size=1:=rfl
 refine bG av [] [] bh<|zD 15<|ek [1,1,0,1,0,0] [] (fun(zz:Nat×Bool)=>[(0,.string (ui u)),(2,.string (bs [])),(3,.bool true),(4,.bool zz.2),(5,zI (zz.1:Int))]) (fun(zz:Nat×Bool)=>[]) (fun(zz:Nat×Bool)=>(zz.1=0∧zz.2=false)∨(zz.1=1∧zz.2=true)) (fun(zz:Nat×Bool)=>1-zz.1) (⟨0,false⟩) (.inl ⟨rfl,rfl⟩) [] ?_
 rintro⟨i,q⟩ hI K1 bM rest
 dsimp only at hI
 refine zD 8<|zJ 14 ((i:Int) <((ui u).size:Int)) (fun h1=>?_) fun h1=>?_
 ·
  refine zD 5 ?_
  obtain⟨hi0,XX⟩:i=0∧q=false:=by rcases hI with h|h;exact h;omega
  refine jw 5 (zI 0) (show Value.int .i64 (i:Int)= zI 0 by rw[hi0];rfl) ?_
  refine jw 4 (.bool false) (show Value.bool q= .bool false by rw[XX])<|zD 12<|zJ 21 ((u.toNat:Int)≥128) (fun h2=>?_) fun h2=>?_
  ·
   exfalso;omega
  refine zD 8<|js 26 (decide (65≤(u.toNat:Int))) (fun h3=>?_) (fun h3=>?_)
  ·
   have wP:=h3
   replace wP:=of_decide_eq_true wP
   refine zD 11<|bA bM (⟨1,decide ((u.toNat:Int)≤90)⟩) (.inr ⟨rfl,decide_eq_true (by omega)⟩) (by dsimp only;omega) [] (Sub.refl _)
  have wP:=h3
  replace wP:=of_decide_eq_false wP
  exfalso;omega
 refine zD 4 ?_
 obtain⟨hi1,hq1⟩:i=1∧q=true:=by rcases hI with h|h;omega;exact h
 refine jw 4 (.bool true) (show Value.bool q= .bool true by rw[hq1])<|zD 14<|jn fun b7=>zD 9<|jc (vs:=[zP b7,zI 1]) [0] (aIp) ?_
 rintro _ _ ⟨v,L,hv,rfl⟩
 refine jg 0 [.b b7 (.cells ⟨[zP b7,v]⟩ 365 (0,0)),.l L]<|zD 7<|ek [1,1,1,0,1,0,1,1,1,1,0,1,0,0] [] (fun(zz:Nat×Int×Value×Cells×(List Int))=>[(0,.string (ui u)),(2,.string (bs [])),(7,zP b7),(8,zI zz.2.1),(9,zI (zz.1:Int))]) (fun(zz:Nat×Int×Value×Cells×(List Int))=>[.b b7 (.cells ⟨[zP b7,zz.2.2.1]⟩ 365 (0,0)),.l zz.2.2.2.1]) (fun(zz:Nat×Int×Value×Cells×(List Int))=>az zz.2.2.1 1 5 eBy zz.2.2.2.2 zz.2.2.2.1∧((zz.1=0∧zz.2.1=0∧zz.2.2.2.2=[])∨(zz.1=1∧zz.2.1=1∧zz.2.2.2.2=[(IntKind.u8.wrap ((u.toNat:Int)+32))]))) (fun(zz:Nat×Int×Value×Cells×(List Int))=>1-zz.1) (⟨0,0,v,L,[]⟩) ⟨hv,.inl ⟨rfl,rfl,rfl⟩⟩ [0,1] ?_
 rintro⟨j,p,v,L,xs⟩ hJ K2 lI rest
 dsimp only at hJ
 refine zD 8<|zJ 41 ((j:Int) <((ui u).size:Int)) (fun h4=>?_) fun h4=>?_
 ·
  refine zD 5 ?_
  obtain⟨hj0,hp0,G7⟩:j=0∧p=0∧xs=[]:=by rcases hJ.2 with h|h;exact h;omega
  refine jw 9 (zI 0) (show Value.int .i64 (j:Int)= zI 0 by rw[hj0];rfl) ?_
  refine jw 8 (zI 0) (show Value.int .i64 p= zI 0 by rw[hp0])<|zD 11<|js 49 (decide (65≤(u.toNat:Int))) (fun h5=>?_) (fun h5=>?_)
  ·
   have NM:=h5
   replace NM:=of_decide_eq_true NM
   refine zD 4<|zJ 52 ((u.toNat:Int)≤90) (fun h6=>?_) fun h6=>?_
   ·
    refine zD 19<|jc (vs:=[zP b7,.int .u8 (IntKind.u8.wrap ((u.toNat:Int)+32))]) [0,1] (aIs (by have:=hJ.1;rwa[G7] at this)) ?_
    rintro _ _ ⟨v2,L2,IL,rfl⟩
    refine jg 0 [.b b7 (.cells ⟨[zP b7,v2]⟩ 365 (0,0)),.l L2]<|zD 11<|bA lI (⟨1,1,v2,L2,[(IntKind.u8.wrap ((u.toNat:Int)+32))]⟩) ⟨IL,.inr ⟨rfl,rfl,rfl⟩⟩ (by dsimp only;omega) [0,1] (Sub.refl _)
   exfalso;omega
  have NM:=h5
  replace NM:=of_decide_eq_false NM
  exfalso;omega
 refine zD 4 ?_
 obtain⟨hj1,hp1,hx1⟩:j=1∧p=1∧xs=[(IntKind.u8.wrap ((u.toNat:Int)+32))]:=by rcases hJ.2 with h|h;omega;exact h
 refine jw 8 (zI 1) (show Value.int .i64 p= zI 1 by rw[hp1])<|zD 9 ?_
 obtain⟨bb,lz,cap,oO,rfl,rfl⟩:=alT (by have:=hJ.1;rwa[hx1] at this)
 refine zD 1<|jc (vs:=[zP b7]) [0,1] (aWo (bb:=bb) (l:=lz) (c:=(IntKind.u8.wrap ((u.toNat:Int)+32))) oO) ?_
 rintro _ Yz rfl
 refine zD 3<|aH q0 (.string (abi (IntKind.u8.wrap ((u.toNat:Int)+32)))) [] [] [] (Sub.refl _) ⟨_,_,rfl,rfl,rfl,rfl⟩
def aeV(u:UInt8):ByteArray:=if u.toNat <97 then abi (IntKind.u8.wrap ((u.toNat:Int)+32)) else ui u
theorem aVM{u:UInt8}{ro:Nat→Option Obj}(h:GV u=true∨GA u=true):dz zT 253 [.string (ui u)] ro (.string (aeV u)):=by
 unfold aeV
 rcases h with h|h
 ·simp only[GV,Bool.and_eq_true,Nat.ble_eq] at h
  rw[if_neg (by omega)]
  exact aHF (by omega)
 simp only[GA,Bool.and_eq_true,Nat.ble_eq] at h
 rw[if_pos (by omega)]
 exact aHE (by omega)
def uqN(rs:List cb)(a to:ByteArray):Nat→Nat→Option Nat
 |0,_=>none
 |f+1,m=>bif decide (0 <(OI rs to m a []).length) then some m else uqN rs a to f (m+1)
def uq(rs:List cb)(a to:ByteArray):Option Nat:=uqN rs a to 3 0
def jO(c:UInt8):ByteArray:=if c.toNat=67 then bs [99,104] else if c.toNat=74 then bs [106,117] else if c.toNat=89 then bs [106,97] else if c.toNat=88 then bs [115,104] else if c.toNat <97 then bs [c.toNat+32] else bs [c.toNat]
def Jm:List UInt8→ByteArray→ByteArray
 | [],a=>a
 |c::l,a=>Jm l (a++jO c)
def keyOf(w:ByteArray):ByteArray:=Jm w.data.toList (bs [])
theorem amw{l:List UInt8}{c:UInt8}{a:ByteArray}(h:l[k]?=some c):Jm (l.drop k) a=Jm (l.drop (k+1)) (a++jO c):=by rw[fI h];rfl
theorem ae8{l:List UInt8}{a:ByteArray}(h:l[k]?=none):Jm (l.drop k) a=a:=by rw[eO (by rw[List.getElem?_eq_none_iff] at h;omega)];rfl
def FT(rs:List cb)(a b:ByteArray):Int:=match uq rs (keyOf a) (keyOf b) with
 |none=>2
 |some 0=>1
 |some _=>3
structure rS(w:ByteArray):Prop where
 n:1≤w.size∧w.size≤6
 s:Script w
def Uf(c:UInt8):Prop:=GV c=true∨GA c=true
theorem rS.let{w:ByteArray}(h:rS w):∀c∈w.data.toList,Uf c:=fun c hc=>h.s.elim (fun k=> .inl (k c hc)) fun k=> .inr (k c hc)
theorem Zt:((List.range 256).all fun n=> !(GV (UInt8.ofNat n)||GA (UInt8.ofNat n))||(aml (jO (UInt8.ofNat n))&&(Nat.ble 1 (jO (UInt8.ofNat n)).size&&Nat.ble (jO (UInt8.ofNat n)).size 2)))=true:=by kernel_rfl
theorem Ps{c:UInt8}(h:Uf c):xY (jO c)∧1≤(jO c).size∧(jO c).size≤2:=by
 have h2:=List.all_eq_true.1 Zt c.toNat (List.mem_range.2 c.toNat_lt)
 have hb:UInt8.ofNat c.toNat=c:=by simp
 rw[hb] at h2
 have h3:(GV c||GA c)=true:=by rcases h with h|h<;>simp[h]
 rw[h3] at h2
 simp only[Bool.not_true,Bool.false_or,Bool.and_eq_true,Nat.ble_eq] at h2
 exact⟨GP h2.1,h2.2⟩
theorem XG:∀ {l:List UInt8} {a:ByteArray},(∀c∈l,Uf c)→xY a→xY (Jm l a)∧(Jm l a).size≤a.size+2*l.length
 | [],a,_,ha=>⟨ha,by simp[Jm]⟩
 |c::l,a,h,ha=>by
  have h1:=Ps (h c (by simp))
  obtain⟨h2,h3⟩:=XG (l:=l) (a:=a++jO c) (fun x hx=>h x (by simp[hx])) (ha.app h1.1)
  refine⟨h2,?_⟩
  simp only[Jm,ByteArray.size_append,List.length_cons] at h3 ⊢
  omega
theorem QB{w:ByteArray}(h:rS w):xY (keyOf w)∧(keyOf w).size≤12:=by
 have h1:=XG (l:=w.data.toList) (a:=bs []) h.let (fun b hb=>by cases hb)
 have h2:w.data.toList.length=w.size:=Array.length_toList
 have h3:=h.n
 exact⟨h1.1,by have:=h1.2;have e:(bs []).size=0:=rfl;unfold keyOf;omega⟩
theorem amk{c:UInt8}(h:Uf c)(h1:¬(c.toNat:Int)=67)(h2:¬(c.toNat:Int)=74)(h3:¬(c.toNat:Int)=89)(h4:¬(c.toNat:Int)=88):aeV c=jO c:=by
 simp only[aeV,jO,if_neg (show ¬c.toNat=67 by omega),if_neg (show ¬c.toNat=74 by omega),if_neg (show ¬c.toNat=89 by omega),if_neg (show ¬c.toNat=88 by omega)]
 split
 ·simp only[abi,bs]
  rw[sN .u8 rfl _ (by omega) (by simp[IntKind.bits];omega),show ((c.toNat:Int)+32).toNat=c.toNat+32 by omega]
  rfl
 simp[ui,bs]
theorem let_128{c:UInt8}(h:Uf c):c.toNat <128:=by
 rcases h with h|h
 ·simp only[GV,Bool.and_eq_true,Nat.ble_eq] at h;omega
 simp only[GA,Bool.and_eq_true,Nat.ble_eq] at h;omega
theorem atk{c:UInt8}{ro:Nat→Option Obj}(h:Uf c):dz zT 235 [.int .i32 (c.toNat:Int)] ro (.string (jO c)):=by
 refine bG av [] [] bh<|zD 29<|zJ 5 ((c.toNat:Int)=67) (fun h1=>?_) fun h1=>?_
 ·
  refine zD 8<|aH q0 (.string (bs [99,104])) [] [] [] (Sub.refl _) ⟨_,_,rfl,rfl,by rw[jO,if_pos (by omega)]<;>rfl,rfl⟩
 refine zD 8<|zJ 7 ((c.toNat:Int)=74) (fun h2=>?_) fun h2=>?_
 ·
  refine zD 17<|jsa (a:=(bs [106])) (b:=(bs [117])) 9 (by decide)<|zD 3<|aH q0 (.string ((bs [106])++(bs [117]))) [] [] [] (Sub.refl _) ⟨_,_,rfl,rfl,by rw[jO,if_neg (by omega),if_pos (by omega)]<;>rfl,rfl⟩
 refine zD 8<|zJ 9 ((c.toNat:Int)=89) (fun h3=>?_) fun h3=>?_
 ·
  refine zD 16<|jsa (a:=(bs [106])) (b:=(bs [97])) 9 (by decide)<|zD 3<|aH q0 (.string ((bs [106])++(bs [97]))) [] [] [] (Sub.refl _) ⟨_,_,rfl,rfl,by rw[jO,if_neg (by omega),if_neg (by omega),if_pos (by omega)]<;>rfl,rfl⟩
 refine zD 7<|zJ 11 ((c.toNat:Int)=88) (fun h4=>?_) fun h4=>?_
 ·
  refine zD 8<|aH q0 (.string (bs [115,104])) [] [] [] (Sub.refl _) ⟨_,_,rfl,rfl,by rw[jO,if_neg (by omega),if_neg (by omega),if_neg (by omega),if_pos (by omega)]<;>rfl,rfl⟩
 refine zD 6<|je (.string (ui c)) (an8 (let_128 h))<|jp (vs:=[.string (ui c)]) [] [] (fun aC hs hZ=>(aVM h))<|zD 3<|aH q0 (.string (aeV c)) [] [] [] (Sub.refl _) ⟨_,_,rfl,rfl,by rw[amk h (by omega) (by omega) (by omega) (by omega)],rfl⟩
theorem amc{w to:ByteArray}{ro:Nat→Option Obj}(hl:bH ro vl 2 iV rs)(hR:∀r∈rs,rR r)(hw:xY w)(sB:w.size≤100)(hq:rs.length≤100):eV zT 217 [.string w,vl,.string to] ro [] (fun r Y=>(∃n v ps,uq rs w to=some n∧r= .tuple ⟨[v,.bool true]⟩∧az v 1 9 qg ps Y∧ps.length=n+1)∨(uq rs w to=none∧r= .tuple ⟨[zS,.bool false]⟩∧Y=[])):=by
 obtain⟨fL,sj,si,fp,rfl,tZ,lU,mS⟩:=hl
 refine bG av [] [] bh<|zD 11<|ek [1,0,1,0,0] [] (fun(zz:Nat)=>[(0,.string w),(1,.slice fL rs.length fp),(2,.string to),(11,zI (zz:Int))]) (fun(zz:Nat)=>[]) (fun(zz:Nat)=>zz≤3∧uq rs w to=uqN rs w to (3-zz) zz) (fun(zz:Nat)=>3-zz) 0 ⟨by omega,rfl⟩ [] ?_
 rintro k hI K1 bM rest
 refine zD 5<|zJ 12 ((k:Int) <3) (fun h1=>?_) fun h1=>?_
 ·
  refine zD 15<|jc (vs:=[.string w,.slice fL rs.length fp,.string to,zI (k:Int)]) [] (aeE (show bH _ _ _ _ _ from ⟨fL,sj,si,fp,rfl,tZ,lU,mS⟩)) ?_
  rintro _ _ ⟨aeT,aeS,aeR,aeQ,rfl,rfl⟩
  refine jg 0 [.b aeT (.cells ⟨[.string w]⟩ 308 (0,0)),.b aeS (.cells ⟨[.slice fL rs.length fp]⟩ 36 (0,0)),.b aeR (.cells ⟨[.string to]⟩ 308 (0,0)),.b aeQ (.cells ⟨[zI (k:Int)]⟩ 3 (0,0))]<|jf [0,1,2,3] ((aeT,.cells ⟨[.string w]⟩ 308 (0,0))::((aeS,.cells ⟨[.slice fL rs.length fp]⟩ 36 (0,0))::((aeR,.cells ⟨[.string to]⟩ 308 (0,0))::[(aeQ,.cells ⟨[zI (k:Int)]⟩ 3 (0,0))]))) fun ro4 nJ X9=>jc (vs:=[.func (.func 254) ⟨[]⟩ ⟨[zP aeQ,zP aeR,zP aeS,zP aeT]⟩,.func (.func 238) ⟨[]⟩ ⟨[]⟩]) [] (atm (aah (X9 _ (.tail _ (.tail _ (.tail _ (.head _))))) (X9 _ (.tail _ (.tail _ (.head _)))) (X9 _ (.tail _ (.head _))) (X9 _ (.head _)) ((show bH _ _ _ _ _ from ⟨fL,sj,si,fp,rfl,tZ,lU,mS⟩).up nJ) hR hw sB hq (by omega)) (fun x hx=>by have:=Ob hx;simp at this;omega)) ?_
  rintro _ L20 ⟨v20,rfl,aP2,aSq,avf⟩
  refine zD 10<|js 23 (decide (0 <(OI rs to k w []).length)) (fun h5=>?_) (fun h5=>?_)
  ·
   refine zD 8<|aH q0.a (.tuple ⟨[v20,.bool true]⟩) [] [0] L20 nJ ⟨_,_,rfl,rfl,.inl ⟨k,v20,aP2,by rw[hI.2,show 3-k=(3-(k+1))+1 by omega,uqN,h5];rfl,rfl,aSq,by have:=Ob (avf (of_decide_eq_true h5));simpa using this⟩⟩
  refine zD 3<|ja ((k:Int)+1) (by omega)<|zD 2<|bA bM (k+1) ⟨by omega,by rw[hI.2,show 3-k=(3-(k+1))+1 by omega,uqN,h5];rfl⟩ (by omega) [] nJ
 refine zD 8<|aH q0 (.tuple ⟨[zS,.bool false]⟩) [] [] [] (Sub.refl _) ⟨_,_,rfl,rfl,.inr ⟨by rw[hI.2,show 3-k=0 by omega];rfl,rfl,rfl⟩⟩
theorem atz{c:UInt8}(h:Uf c):c.toNat <128:=by
 rcases h with h|h
 ·simp only[GV,Bool.and_eq_true,Nat.ble_eq] at h;omega
 simp only[GA,Bool.and_eq_true,Nat.ble_eq] at h;omega
theorem atn{w to:ByteArray}{ro:Nat→Option Obj}(hl:bH ro vl 2 iV rs)(hR:∀r∈rs,rR r)(hw:xY w)(sB:w.size≤100)(hq:rs.length≤100):eV zT 217 [.string w,vl,.string to] ro [] (fun r Y=>∃v ps ok,r= .tuple ⟨[v,.bool ok]⟩∧az v 1 9 qg ps Y∧(ok=true→uq rs w to=some (ps.length-1)∧1≤ps.length)∧(ok=false→uq rs w to=none)):=by
 refine(amc hl hR hw sB hq).mono fun _ _ h=>?_
 rcases h with ⟨n,v,ps,h1,h2,h3,h4⟩| ⟨h1,h2,h3⟩
 ·exact⟨v,ps,true,h2,h3,fun _=>⟨by rw[h4];exact h1,by omega⟩,nofun⟩
 subst h3;exact⟨_,[],false,h2,az.nil _ _ _,nofun,fun _=>h1⟩
def uN(rs:List cb)(a b:ByteArray):Int:=match uq rs a b with
 |some n=>n
 |none=>0
def uE(rs:List cb)(a b:ByteArray):Int:=match uq rs a b with
 |some _=>0
 |none=>11
theorem ao7{a to:ByteArray}:∀ {f m n:Nat},uqN rs a to f m=some n→n <m+f
 |0,_,_,h=>by cases h
 |f+1,m,n,h=>by
  simp only[uqN] at h
  cases hd:decide (0 <(OI rs to m a []).length) with
  |true=>rw[hd] at h;simp only[cond_true,Option.some.injEq] at h;omega
  |false=>rw[hd] at h;simp only[cond_false] at h;have:=ao7 h;omega
theorem nOf{w:ByteArray}{ro:Nat→Option Obj}(hw:rS w):dz zT 216 [.string w] ro (.string (keyOf w)):=by
 refine bG av [] [] bh<|zD 12<|jn fun r7=>zD 2<|ek [1,1,0,1,0,0] [] (fun(zz:Nat×ByteArray)=>[(2,.string (bs [])),(3,.string zz.2),(7,zP r7)]) (fun(zz:Nat×ByteArray)=>[.b r7 (.stringIter w zz.1)]) (fun(zz:Nat×ByteArray)=>(zz.1≤w.data.toList.length∧zz.2.size≤2*zz.1)∧keyOf w=Jm (w.data.toList.drop zz.1) zz.2) (fun(zz:Nat×ByteArray)=>w.data.toList.length-zz.1) (⟨0,(bs [])⟩) ⟨⟨by omega,Nat.le_refl _⟩,rfl⟩ [0] ?_
 rintro⟨p,a⟩ hI K1 bM rest
 dsimp only at hI
 refine zD 2 ?_
 cases hn8:w.data.toList[p]? with
 |some x8=>
  refine jnA r7 0 hn8 (atz (hw.let _ (List.mem_of_getElem? hn8)))<|zD 11 ?_
  have hso:=Ps (hw.let _ (List.mem_of_getElem? hn8))
  have hlen:w.data.toList.length=w.size:=Array.length_toList
  have hwn:=hw.n
  refine zD 3<|jp (vs:=[.int .i32 (x8.toNat:Int)]) [] [] (fun aC hs hZ=>(atk (hw.let _ (List.mem_of_getElem? hn8))))<|jsa (a:=a) (b:=(jO x8)) 9 (by omega)<|zD 2<|bA bM (⟨p+1,(a++jO x8)⟩) ⟨⟨by have:=(List.getElem?_eq_some_iff.1 hn8).1;dsimp only;omega,by dsimp only;rw[ByteArray.size_append];omega⟩,by rw[hI.2,amw hn8]⟩ (by have:=(List.getElem?_eq_some_iff.1 hn8).1;dsimp only;omega) [0] (Sub.refl _)
 |none=>
  refine jnZ r7 0 hn8<|zD 11<|aH q0 (.string a) [] [] [] (Sub.refl _) ⟨_,_,rfl,rfl,by rw[hI.2,ae8 hn8],rfl⟩
theorem amb{ro:Nat→Option Obj}(hl:bH ro vl 2 iV rs)(hR:∀r∈rs,rR r)(hq:rs.length≤4)(Ed:rS na)(Ai:rS nb):eV zT 184 [vl,.string na,.string nb] ro [] (fun r Y=>∃v ps e,r= .tuple ⟨[v,zI e]⟩∧az v 1 9 qg ps Y∧ps.length≤3∧((e=0∧uq rs (keyOf na) (keyOf nb)=some (ps.length-1)∧1≤ps.length)∨(e=11∧uq rs (keyOf na) (keyOf nb)=none))):=by
 obtain⟨fL,sj,si,fp,rfl,tZ,lU,mS⟩:=hl
 refine bG av [] [] bh<|zD 9<|jp (vs:=[.slice fL rs.length fp]) [] [] (fun aC hs hZ=>aaf ((show bH _ _ _ _ _ from ⟨fL,sj,si,fp,rfl,tZ,lU,mS⟩).up hs) (by omega) hR)<|zD 14<|jn fun Iu=>jp (vs:=[.slice (some ⟨Iu,0,none⟩) 2 2]) [0] [(Iu,.cells ⟨([na,nb].map qg).flatten⟩ 9 (0,0))] (fun aC hs hZ=>aeD (bF [na,nb] hZ.head (by intro p hp;rfl)) (by first|omega| (simp only[List.length_set,List.length_append,List.length_cons,List.length_nil];omega)) (by intro x hx;simp only[List.mem_cons,List.not_mem_nil,or_false] at hx;rcases hx with rfl|rfl;exact⟨Ed.n,Ed.s⟩;exact⟨Ai.n,Ai.s⟩)) ?_
 refine zD 12<|jp (vs:=[.string na]) [] [] (fun aC hs hZ=>(nOf Ed))<|zD 2<|jp (vs:=[.string nb]) [] [] (fun aC hs hZ=>(nOf Ai))<|jc (vs:=[.string (keyOf na),.slice fL rs.length fp,.string (keyOf nb)]) [] (atn (show bH _ _ _ _ _ from ⟨fL,sj,si,fp,rfl,tZ,lU,mS⟩) hR (QB Ed).1 (by have:=(QB Ed).2;omega) (by omega)) ?_
 rintro _ L30 ⟨v30,aP1,aQb,rfl,wI,aui,aQ3⟩
 refine zD 12<|js 34 (!aQb) (fun h1=>?_) (fun h1=>?_)
 ·
  try simp only[zB] at h1
  refine zD 7<|aH q0 (.tuple ⟨[zS,zI 11]⟩) [] [] [] (Sub.refl _) ⟨_,_,rfl,rfl,_,[],_,rfl,az.nil _ _ _,by simp,.inr ⟨rfl,aQ3 (by simp_all)⟩⟩
 try simp only[zB] at h1
 refine zD 9<|aH q0 (.tuple ⟨[v30,zI 0]⟩) [] [0] L30 (Sub.refl _) ⟨_,_,rfl,rfl,_,aP1,_,rfl,wI,by have:=ao7 (aui (by simp_all)).1;have:=(aui (by simp_all)).2;omega,.inl ⟨rfl,aui (by simp_all)⟩⟩
theorem aCa{ro:Nat→Option Obj}(hl:bH ro vl 2 iV rs)(hR:∀r∈rs,rR r)(hq:rs.length≤4)(Ed:rS na)(Ai:rS nb):dz zT 155 [vl,.string na,.string nb] ro (.tuple ⟨[zI (uN rs (keyOf na) (keyOf nb)),zI (uE rs (keyOf na) (keyOf nb))]⟩):=by
 obtain⟨fL,sj,si,fp,rfl,tZ,lU,mS⟩:=hl
 refine bG av [] [] bh<|zD 10<|jc (vs:=[.slice fL rs.length fp,.string na,.string nb]) [] (amb (show bH _ _ _ _ _ from ⟨fL,sj,si,fp,rfl,tZ,lU,mS⟩) hR hq Ed Ai) ?_
 rintro _ L14 ⟨v14,aBL,N1,rfl,UJ,bfz,yh⟩
 refine zD 12<|js 18 (!decide (N1=0)) (fun h1=>?_) (fun h1=>?_)
 ·
  replace h1:=of_decide_eq_false (by simpa using h1)
  refine zD 8<|aH q0 (.tuple ⟨[zI 0,zI N1]⟩) [] [] [] (Sub.refl _) ⟨_,_,rfl,rfl,by rcases yh with ⟨h1,h2,h3⟩| ⟨h1,h2⟩<;>simp only[uN,uE,h2]<;>(subst h1;simp_all<;>omega),rfl⟩
 replace h1:=of_decide_eq_true (by simpa using h1)
 refine zD 5<|A5 UJ<|ja ((aBL.length:Int)-1) (by omega)<|zD 4<|aH q0 (.tuple ⟨[zI ((aBL.length:Int)-1),zI 0]⟩) [] [] [] (Sub.refl _) ⟨_,_,rfl,rfl,by rcases yh with ⟨h1,h2,h3⟩| ⟨h1,h2⟩<;>simp only[uN,uE,h2]<;>(subst h1;simp_all<;>omega),rfl⟩
theorem Ql{ro:Nat→Option Obj}(hl:bH ro vl 2 iV rs)(hR:∀r∈rs,rR r)(hq:rs.length≤4)(Ed:rS na)(Ai:rS nb):dz zT 120 [vl,.string na,.string nb] ro (.tuple ⟨[zI (FT rs na nb),zI 0]⟩):=by
 obtain⟨fL,sj,si,fp,rfl,tZ,lU,mS⟩:=hl
 refine bG av [] [] bh<|zD 10<|jp (vs:=[.slice fL rs.length fp,.string na,.string nb]) [] [] (fun aC hs hZ=>aCa ((show bH _ _ _ _ _ from ⟨fL,sj,si,fp,rfl,tZ,lU,mS⟩).up hs) hR hq Ed Ai)<|zD 14<|zJ 17 ((uE rs (keyOf na) (keyOf nb))=11) (fun h1=>?_) fun h1=>?_
 ·
  refine zD 7<|aH q0 (.tuple ⟨[zI 2,zI 0]⟩) [] [] [] (Sub.refl _) ⟨_,_,rfl,rfl,by simp only[uN,uE,FT] at*;rcases huq:uq rs (keyOf na) (keyOf nb) with _|_|n<;>simp_all<;>omega,rfl⟩
 refine zD 7<|js 20 (!decide ((uE rs (keyOf na) (keyOf nb))=0)) (fun h2=>?_) (fun h2=>?_)
 ·
  replace h2:=of_decide_eq_false (by simpa using h2)
  refine zD 8<|aH q0 (.tuple ⟨[zI 0,zI (uE rs (keyOf na) (keyOf nb))]⟩) [] [] [] (Sub.refl _) ⟨_,_,rfl,rfl,by simp only[uN,uE,FT] at*;rcases huq:uq rs (keyOf na) (keyOf nb) with _|_|n<;>simp_all<;>omega,rfl⟩
 replace h2:=of_decide_eq_true (by simpa using h2)
 refine zD 7<|zJ 24 ((uN rs (keyOf na) (keyOf nb))=0) (fun h3=>?_) fun h3=>?_
 ·
  refine zD 7<|aH q0 (.tuple ⟨[zI 1,zI 0]⟩) [] [] [] (Sub.refl _) ⟨_,_,rfl,rfl,by simp only[uN,uE,FT] at*;rcases huq:uq rs (keyOf na) (keyOf nb) with _|_|n<;>simp_all<;>omega,rfl⟩
 refine zD 8<|aH q0 (.tuple ⟨[zI 3,zI 0]⟩) [] [] [] (Sub.refl _) ⟨_,_,rfl,rfl,by simp only[uN,uE,FT] at*;rcases huq:uq rs (keyOf na) (keyOf nb) with _|_|n<;>simp_all<;>omega,rfl⟩
abbrev S7(x:Int):List Value:=[.int .u8 x]
structure bE where
 c:Nat→Nat→Bool
abbrev Dm(x:bE):List Value:=[.bool (x.c 0 0),.bool (x.c 0 1),.bool (x.c 0 2),.bool (x.c 0 3),.bool (x.c 1 0),.bool (x.c 1 1),.bool (x.c 1 2),.bool (x.c 1 3),.bool (x.c 2 0),.bool (x.c 2 1),.bool (x.c 2 2),.bool (x.c 2 3),.bool (x.c 3 0),.bool (x.c 3 1),.bool (x.c 3 2),.bool (x.c 3 3)]
def nt(cs:List bQ):Nat→List Int
 |0=>[]
 |k+1=>nt cs k++[match cs[k]? with
  |some c=>if 0≤c.under then La .u8 (La .u8 0 (dJ .u8 1 k)) ((nt cs k)[c.under.toNat]?.getD 0) else La .u8 0 (dJ .u8 1 k)
  |none=>0]
theorem oW(cs:List bQ):∀k,(nt cs k).length=k
 |0=>rfl
 |k+1=>by simp[nt,oW cs k]
theorem aon{c:bQ}{y:Int}(h:cs[k]?=some c) (hu:0≤c.under) (hy:(nt cs k)[c.under.toNat]?=some y):nt cs (k+1)=nt cs k++[La .u8 (La .u8 0 (dJ .u8 1 k)) y]:=by
 simp only[nt,h,if_pos hu,hy,Option.getD_some]
theorem aoo{c:bQ}(h:cs[k]?=some c) (hu:¬0≤c.under):nt cs (k+1)=nt cs k++[La .u8 0 (dJ .u8 1 k)]:=by
 simp only[nt,h,if_neg hu]
def aeU(s:Int):Nat→Int
 |0=> -1
 |k+1=>bif hasB s k then k else aeU s k
def GU(cs:List bQ)(a b:Int):Int:=aeU (Uo .u8 ((nt cs cs.length)[a.toNat]?.getD 0) ((nt cs cs.length)[b.toNat]?.getD 0)) cs.length
def YF(hd:List cz)(h:Int):Int:=match hd[h.toNat]? with
 |some x=>x.cls
 |none=>0
def Ab(K:aE)(x y:aj):Bool:=decide (FT K.rules x.name y.name=2)
def uL(K:aE)(x y:aj):Bool:=if (x.head <0∨y.head <0)∨x.head=y.head then false else decide (GU K.cs (YF K.hd x.head) (YF K.hd y.head) <0)
def Cf(on:Int)(a b:Int):List dc→Nat→Bool
 | [],_=>false
 |x::l,k=>(((hasB on k&&decide (x.a=a))&&decide (x.b=b))&& !x.same)||Cf on a b l (k+1)
def dw(K:aE)(on:Int)(a b:Nat):Bool:=match K.before[a]?,K.after[b]? with
 |some x,some y=> !Ab K x y&&(!uL K x y&& !Cf on a b K.facts 0)
 |_,_=>false
structure eZ(K:aE):Prop where
 rules:K.rules.length≤4∧∀r∈K.rules,rR r
 before:K.before.length≤4∧∀p∈K.before,rS p.name∧mi K.hd p.head
 after:K.after.length≤4∧∀p∈K.after,rS p.name∧mi K.hd p.head
 dH:lR K.cs K.hd
 facts:K.facts.length≤4∧∀x∈K.facts,(0≤x.a∧x.a <K.before.length)∧(0≤x.b∧x.b <K.after.length)
def pM(ro:Nat→Option Obj)(f:Nat)(K:aE)(rows:List bE):Prop:=∃(c0 c1 c2 vc vh vr vb va vf vt:Value) (hv:List bC),
 ro f=some (.cells ⟨[c0,c1,c2,vc,vh,vr,vb,va,zI K.gone,zI K.new,zI K.af,vf,vt]⟩ 128 (0,0))∧jY ro vc vh K.cs hv K.hd∧dD dO hv K.hd∧
 bH ro vr 2 iV K.rules∧bH ro vb 5 cU K.before∧bH ro va 5 cU K.after∧bH ro vf 3 xa K.facts∧bH ro vt 16 Dm rows
theorem pM.up{ro aK:Nat→Option Obj}{f:Nat}{K:aE}{rows:List bE}(h:pM ro f K rows)(hs:Sub ro aK):pM aK f K rows:=by
 obtain⟨c0,c1,c2,vc,vh,vr,vb,va,vf,vt,hv,h1,h2,h3,h4,h5,h6,h7,h8⟩:=h
 exact⟨c0,c1,c2,vc,vh,vr,vb,va,vf,vt,hv,hs _ _ h1,h2.up hs,h3,h4.up hs,h5.up hs,h6.up hs,h7.up hs,h8.up hs⟩
theorem aOy{f i:Int}{ro:Nat→Option Obj}(hi:0≤i∧i≤8):dz zT 334 [.int .u8 f,zI i] ro (.bool (hasB f i)):=by
 refine bG av [] [] bh<|zD 8<|jsr (k:= .u8) (k':= .i64) (a:=f) (b:=i) 422 (by omega)<|zD 5<|aH q0 (.bool (decide ((Uo .u8 (aT .u8 f i) 1)=1))) [] [] [] (Sub.refl _) ⟨_,_,rfl,rfl,rfl,rfl⟩
theorem aAk{f i:Int}{ro:Nat→Option Obj}(hi:0≤i∧i≤8):dz zT 335 [.int .u8 f,zI i] ro (.int .u8 (La .u8 f (dJ .u8 1 i))):=by
 refine bG av [] [] bh<|zD 8<|jsh (k:= .u8) (k':= .i64) (a:=1) (b:=i) 422 (by omega)<|zD 4<|aH q0 (.int .u8 (La .u8 f (dJ .u8 1 i))) [] [] [] (Sub.refl _) ⟨_,_,rfl,rfl,rfl,rfl⟩
theorem asm{hv:List bC}{ro:Nat→Option Obj}(hR:jY ro vc vh cs hv hd)(oP:dD dO hv hd)(hT:lR cs hd):eV zT 333 [.agg ⟨[vc,vh]⟩] ro [] (fun r Y=>∃b vS LS vE,r= .tuple ⟨[zP b,zI 0]⟩∧az vS 1 422 S7 (nt cs cs.length) LS∧Y=(b,.cells ⟨[vc,vh,vS,vE]⟩ 426 (0,0))::LS):=by
 obtain⟨hc,hh,dk⟩:=id hR
 obtain⟨dj,AP,AO,de,rfl,DW,yU,yT⟩:=hc
 obtain⟨cK,sr,sq,cA,rfl,tN,py,px⟩:=hh
 have Ec:=hT.nc
 have hnh:=hT.nh
 have hlen:=oP.len
 refine bG av [] [] bh<|zD 2<|jn fun b1=>jd 7 [0]<|jp (vs:=[.agg ⟨[.slice dj cs.length de,.slice cK hv.length cA]⟩]) [] [] (fun aC hs hZ=>(Wz (hR.up hs) oP hT))<|jd 13 [0]<|jn fun fJ=>jd 11 [1]<|oL<|ek [1,1,1,0,1,0,0] [] (fun(zz:Nat×Value×Cells)=>[(1,zP b1),(2,.pointer none),(3,zI 0),(5,zP fJ),(20,.slice dj cs.length de),(21,zI (cs.length:Int)),(22,zI (zz.1:Int))]) (fun(zz:Nat×Value×Cells)=>[.l zz.2.2,.b fJ (.cells ⟨[.slice dj cs.length de,.slice cK hv.length cA,zz.2.1,zS]⟩ 426 (0,0)),.b b1 (.cells ⟨[.slice dj cs.length de,.slice cK hv.length cA]⟩ 35 (0,0))]) (fun(zz:Nat×Value×Cells)=>zz.1≤cs.length∧az zz.2.1 1 422 S7 (nt cs zz.1) zz.2.2) (fun(zz:Nat×Value×Cells)=>cs.length-zz.1) (⟨0,zS,[]⟩) ⟨by dsimp only;omega,az.nil _ _ _⟩ [0,1,2] ?_
 rintro⟨k,vS,LS⟩ hI K1 bM rest
 dsimp only at hI
 refine zD 5<|zJ 23 ((k:Int) <(cs.length:Int)) (fun h1=>?_) fun h1=>?_
 ·
  refine zD 7 ?_
  obtain⟨yJ,lH⟩:=zG cs k
  refine iM de 2 yU lH<|jl 0 (yT _ _ lH)<|jn fun b7=>jd 4 [0] ?_
  have iZ:=hT.cls _ _ lH
  have IJ:=oW cs k
  refine zD 2<|jp (vs:=[.int .u8 0,zI (k:Int)]) [] [] (fun aC hs hZ=>(aAk (by omega)))<|jd 9 [0]<|zJ 31 (yJ.under≥0) (fun h2=>?_) fun h2=>?_
  ·
   refine jd 9 [2,0] ?_
   obtain⟨Fh,yd⟩:=zG ((nt cs k)) (yJ.under.toNat) (by first|omega| (simp only[List.length_set,List.length_append,List.length_cons,List.length_nil];omega))
   refine pW yJ.under 1 hI.2 yd (Int.toNat_of_nonneg (show 0≤yJ.under∧yJ.under <(((nt cs k)).length:Int) from (by have:=iZ.2;simp only[oW];omega)).1).symm (fun b39 aUc=>?_)
   refine mY 0 [1] LS (fun s _ hZ=>bU hI.2 aUc hZ yd)<|jd 10 [2]<|jn fun b48=>jT (sz:=1) (ps:=(nt cs k)) (qs:=[(La .u8 (La .u8 0 (dJ .u8 1 (k:Int))) Fh)]) (enc:=S7) (w:= .slice (some ⟨b48,0,none⟩) 1 1) [2] [0] [(b48,.cells ⟨([(La .u8 (La .u8 0 (dJ .u8 1 (k:Int))) Fh)].map S7).flatten⟩ 422 (0,0))] (hI.2) (fun s _ hZ=>bN [(La .u8 (La .u8 0 (dJ .u8 1 (k:Int))) Fh)] (hZ _ (.head _)) (by intro p hp;rfl)) (fun p _=>ar rfl) (by simp only[oW,List.length_cons,List.length_nil];omega) (fun v49 L49 qJ=>?_)
   obtain⟨O1,OY,Ny⟩:=qJ.form
   subst Ny
   refine jd 5 [3]<|ja ((k:Int)+1) (by omega)<|zD 2<|bA bM (⟨k+1,(.slice O1 (((nt cs k)++[(La .u8 (La .u8 0 (dJ .u8 1 (k:Int))) Fh)])).length OY),L49⟩) ⟨by dsimp only;omega,by rw[aon lH (by omega) yd];exact qJ⟩ (by dsimp only;omega) [0,3,4] (Sub.refl _)
  refine jd 9 [2]<|jn fun b48=>jT (sz:=1) (ps:=(nt cs k)) (qs:=[(La .u8 0 (dJ .u8 1 (k:Int)))]) (enc:=S7) (w:= .slice (some ⟨b48,0,none⟩) 1 1) [2] [0] [(b48,.cells ⟨([(La .u8 0 (dJ .u8 1 (k:Int)))].map S7).flatten⟩ 422 (0,0))] (hI.2) (fun s _ hZ=>bN [(La .u8 0 (dJ .u8 1 (k:Int)))] (hZ _ (.head _)) (by intro p hp;rfl)) (fun p _=>ar rfl) (by simp only[oW,List.length_cons,List.length_nil];omega) (fun v49 L49 qJ=>?_)
  obtain⟨O1,OY,Ny⟩:=qJ.form
  subst Ny
  refine jd 5 [3]<|ja ((k:Int)+1) (by omega)<|zD 2<|bA bM (⟨k+1,(.slice O1 (((nt cs k)++[(La .u8 0 (dJ .u8 1 (k:Int)))])).length OY),L49⟩) ⟨by dsimp only;omega,by rw[aoo lH (by omega)];exact qJ⟩ (by dsimp only;omega) [0,3,4] (Sub.refl _)
 refine jd 11 [2]<|oL<|ek [1,1,1,1,0,1,0,0] [] (fun(zz:Nat×Value×Cells×(List Value))=>[(2,.pointer none),(3,zI 0),(5,zP fJ),(54,.slice cK hv.length cA),(55,zI (hv.length:Int)),(56,zI (zz.1:Int))]) (fun(zz:Nat×Value×Cells×(List Value))=>[.l zz.2.2.1,.b fJ (.cells ⟨[.slice dj cs.length de,.slice cK hv.length cA,vS,zz.2.1]⟩ 426 (0,0)),.l LS,.b b1 (.cells ⟨[.slice dj cs.length de,.slice cK hv.length cA]⟩ 35 (0,0))]) (fun(zz:Nat×Value×Cells×(List Value))=>(zz.1≤hv.length∧zz.2.2.2.length≤zz.1)∧az zz.2.1 1 436 gT zz.2.2.2 zz.2.2.1) (fun(zz:Nat×Value×Cells×(List Value))=>hv.length-zz.1) (⟨0,zS,[],[]⟩) ⟨⟨by omega,Nat.le_refl _⟩,az.nil _ _ _⟩ [0,2,1,3] ?_
 rintro⟨j,vE,LE,es⟩ hJ K2 lI rest
 dsimp only at hJ
 refine zD 5<|zJ 57 ((j:Int) <(hv.length:Int)) (fun h3=>?_) fun h3=>?_
 ·
  refine zD 6 ?_
  obtain⟨FO,am3⟩:=zG hv j
  refine iM cA 4 py am3<|jl 0 (px _ _ am3)<|jn fun iK=>jsx 0 iK 0 [.string ByteArray.empty,zI 0,zI 0,zS] [.string FO.word,zI FO.cls,zI FO.oF,FO.eC] 143 (m9 dk _ (List.mem_of_getElem? am3)) rfl<|zD 3 ?_
  obtain⟨y58,beJ,aRU⟩:=dk.get am3
  obtain⟨fL,sj,si,fp,hqe,tZ,lU,mS⟩:=aRU.2.2.2
  refine jmw 0 [.b iK (.cells ⟨[.string FO.word,zI FO.cls,zI FO.oF,.slice fL y58.eC.length fp]⟩ 143 (0,0))] (L:=[(iK,.cells ⟨[.string FO.word,zI FO.cls,zI FO.oF,FO.eC]⟩ 143 (0,0))]) (by rw[hqe];rfl) ?_
  refine jd 6 [0]<|js 73 (!decide (FO.oF=(-1))) (fun h4=>?_) (fun h4=>?_)
  ·
   replace h4:=of_decide_eq_false (by simpa using h4)
   refine jd 11 [2,0]<|aM 9 fun rZ r8 p8=>jn fun b86=>bI p8 [1,2,3,4,5]<|aM 10 fun sL sR rn=>jT (sz:=1) (ps:=es) (qs:=[(.iface 429 (.agg ⟨[zI FO.oF]⟩):Value)]) (enc:=gT) (w:= .slice (some ⟨b86,0,none⟩) 1 1) [2] [0] [(b86,.cells ⟨([(.iface 429 (.agg ⟨[zI FO.oF]⟩):Value)].map gT).flatten⟩ 436 (0,0))] (hJ.2) (fun s _ hZ=>bN [(.iface 429 (.agg ⟨[zI FO.oF]⟩):Value)] (hZ _ (.head _)) (by intro p hp;rfl)) (by intro p hp;rw[List.mem_singleton] at hp;subst hp;exact ar rfl) (by simp only[List.length_cons,List.length_nil];omega) (fun v87 L87 agd=>?_)
   obtain⟨aMS,aMu,aTk⟩:=agd.form
   subst aTk
   refine gY rn [[2]]<|zD 2<|aM 13 fun B2 Ca C8=>jd 1 [3]<|gY C8 []<|zD 2<|ja ((j:Int)+1) (by omega)<|zD 2<|bA lI (⟨j+1,(.slice aMS ((es++[(.iface 429 (.agg ⟨[zI FO.oF]⟩):Value)])).length aMu),L87,(es++[(.iface 429 (.agg ⟨[zI FO.oF]⟩):Value)])⟩) ⟨⟨by dsimp only;omega,by simp only[List.length_append,List.length_cons,List.length_nil];omega⟩,agd⟩ (by dsimp only;omega) [0,3,4,5] (Sub.refl _)
  replace h4:=of_decide_eq_true (by simpa using h4)
  refine jd 8 [0]<|js 90 (!decide (FO.cls=(-1))) (fun h8=>?_) (fun h8=>?_)
  ·
   replace h8:=of_decide_eq_false (by simpa using h8)
   refine jd 13 [2,0,0]<|aM 11 fun ak0 alg hL6=>jn fun aIB=>bI hL6 [1,2,3,4,5]<|aM 12 fun akZ alf U5=>jT (sz:=1) (ps:=es) (qs:=[(.iface 431 (.agg ⟨[zI FO.cls,.slice fL y58.eC.length fp]⟩):Value)]) (enc:=gT) (w:= .slice (some ⟨aIB,0,none⟩) 1 1) [2] [0] [(aIB,.cells ⟨([(.iface 431 (.agg ⟨[zI FO.cls,.slice fL y58.eC.length fp]⟩):Value)].map gT).flatten⟩ 436 (0,0))] (hJ.2) (fun s _ hZ=>bN [(.iface 431 (.agg ⟨[zI FO.cls,.slice fL y58.eC.length fp]⟩):Value)] (hZ _ (.head _)) (by intro p hp;rfl)) (by intro p hp;rw[List.mem_singleton] at hp;subst hp;exact ar rfl) (by simp only[List.length_cons,List.length_nil];omega) (fun bcA aXi X4=>?_)
   obtain⟨azO,azK,aEI⟩:=X4.form
   subst aEI
   refine gY U5 [[2],[2]]<|zD 2<|aM 15 fun ab5 acX hL8=>jd 1 [3]<|gY hL8 []<|zD 2<|ja ((j:Int)+1) (by omega)<|zD 2<|bA lI (⟨j+1,(.slice azO ((es++[(.iface 431 (.agg ⟨[zI FO.cls,.slice fL y58.eC.length fp]⟩):Value)])).length azK),aXi,(es++[(.iface 431 (.agg ⟨[zI FO.cls,.slice fL y58.eC.length fp]⟩):Value)])⟩) ⟨⟨by dsimp only;omega,by simp only[List.length_append,List.length_cons,List.length_nil];omega⟩,X4⟩ (by dsimp only;omega) [0,3,4,5] (Sub.refl _)
  replace h8:=of_decide_eq_true (by simpa using h8)
  refine jd 11 [2,0]<|aM 9 fun ab4 acW hL9=>jn fun b69=>bI hL9 [1,2,3,4,5]<|aM 10 fun JM JV zq=>jT (sz:=1) (ps:=es) (qs:=[(.iface 433 (.agg ⟨[.slice fL y58.eC.length fp]⟩):Value)]) (enc:=gT) (w:= .slice (some ⟨b69,0,none⟩) 1 1) [2] [0] [(b69,.cells ⟨([(.iface 433 (.agg ⟨[.slice fL y58.eC.length fp]⟩):Value)].map gT).flatten⟩ 436 (0,0))] (hJ.2) (fun s _ hZ=>bN [(.iface 433 (.agg ⟨[.slice fL y58.eC.length fp]⟩):Value)] (hZ _ (.head _)) (by intro p hp;rfl)) (by intro p hp;rw[List.mem_singleton] at hp;subst hp;exact ar rfl) (by simp only[List.length_cons,List.length_nil];omega) (fun v70 L70 age=>?_)
  obtain⟨aMU,aMw,aTm⟩:=age.form
  subst aTm
  refine gY zq [[2]]<|zD 2<|aM 13 fun JL JU Da=>jd 1 [3]<|gY Da []<|zD 2<|ja ((j:Int)+1) (by omega)<|zD 2<|bA lI (⟨j+1,(.slice aMU ((es++[(.iface 433 (.agg ⟨[.slice fL y58.eC.length fp]⟩):Value)])).length aMw),L70,(es++[(.iface 433 (.agg ⟨[.slice fL y58.eC.length fp]⟩):Value)])⟩) ⟨⟨by dsimp only;omega,by simp only[List.length_append,List.length_cons,List.length_nil];omega⟩,age⟩ (by dsimp only;omega) [0,3,4,5] (Sub.refl _)
 refine zD 9<|aH q0 (.tuple ⟨[zP fJ,zI 0]⟩) [] [1,2] ((fJ,.cells ⟨[.slice dj cs.length de,.slice cK hv.length cA,vS,vE]⟩ 426 (0,0))::LS) (Sub.refl _) ⟨_,_,rfl,rfl,_,_,LS,_,rfl,by have:=hI.2;rwa[show k=cs.length by omega] at this,rfl⟩
end Go.L

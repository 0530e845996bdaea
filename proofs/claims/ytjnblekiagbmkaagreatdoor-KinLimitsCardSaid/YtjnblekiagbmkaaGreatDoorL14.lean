/- Part 14 of the proof: a program logic, contracts, a theorem on goroutines. -/
import Derived.Test.YtjnblekiagbmkaaGreatDoorL13
set_option maxRecDepth 100000
set_option linter.all false
namespace Go.L
open Go Go.Conc Go.Proofs
variable {hd:List bY} {f t x b:ByteArray} {cs:List bG} {k i n many bu b1 b2 bl bm bt br bg:Nat} {rs:List cG} {xs ys l:List ByteArray} {p:ByteArray×ByteArray} {vl vc vh c11 c0 c1 c5 c6 c7 vt:Value} {af gone new lo hi:Int}
def y7(w:ByteArray):Bool:=Nat.ble 1 w.size&&(Nat.ble w.size 12&&(!cH w (bs [99,108,97,115,115])&&(!cH w (bs [102,105,110,105,115])&&w.data.toList.all fun b=>Nat.ble 97 b.toNat&&Nat.ble b.toNat 122)))
theorem Wy:∀w∈nu,y7 w=true:=List.all_eq_true.1 (by kernel_rfl)
theorem Yw:∀w∈oY,y7 w=true:=List.all_eq_true.1 (by kernel_rfl)
theorem aai{w:ByteArray}{ro:Nat→Option Obj}(h:y7 w=true):dL zT 173 [.string w] ro (.bool true):=by
 simp only[y7,Bool.and_eq_true,Nat.ble_eq,Bool.not_eq_true',List.all_eq_true] at h
 exact awV ⟨h.1,h.2.1⟩ h.2.2.1 h.2.2.2.1 h.2.2.2.2
structure lF(cs:List bG)(hd:List bY):Prop where
 nc:0 <cs.length∧cs.length≤6
 nh:hd.length≤6
 cls:∀(i:Nat) (c:bG),cs[i]?=some c→y7 c.name=true∧ -1≤c.under∧c.under <i
 names:(cs.map (·.name)).Pairwise fun a b=>cH a b=false
 Ab:∀(i:Nat) (x:bY),hd[i]?=some x→y7 x.word=true∧gY cs.length hd.length i x
 words:(hd.map (·.word)).Pairwise fun a b=>cH a b=false∧strLt b a=false
theorem wH.v(h:wH cs hd):lF cs hd:=
 ⟨⟨h.nc.1,by have:=h.nc.2;omega⟩,by have:=h.nh;omega,fun i c hc=>⟨Wy _ (h.cls i c hc).1,(h.cls i c hc).2⟩,h.names,fun i x hx=>⟨Yw _ (h.Ab i x hx).1,(h.Ab i x hx).2⟩,h.words⟩
theorem Pt{α:Type}{p:α→α→Bool}{l:List α}{x:α}(h:l.Pairwise fun y x=>p x y=false)(hx:l[i]?=some x):cQ (p x) (l.take i) 0 <0:=by
 rw[BT]
 ·omega
 intro y hy
 obtain⟨j,hj⟩:=List.getElem?_of_mem hy
 rw[List.getElem?_take] at hj
 split at hj
 ·rename_i yW
  exact pU h yW hj hx
 cases hj
theorem ak0{x:bG}(h:lF cs hd)(hx:cs[i]?=some x):cQ (Dx x) (cs.take i) 0 <0:=
 Pt (p:=Dx) (List.pairwise_map.1 h.names) hx
theorem MN{hv:List bp}(h:dK dC hv hd):hv.map (·.word)=hd.map (·.word):=by
 induction h with
 |nil=>rfl
 |cons h1 _ ih=>simp only[List.map_cons,h1.1,ih]
theorem asq{hv:List bp}{x:bp}(h:lF cs hd)(hs:dK dC hv hd)(hx:hv[i]?=some x):cQ (Zg x) (hv.take i) 0 <0:=
 Pt (p:=Zg) ((List.pairwise_map.1 (MN hs▸h.words)).imp fun h=>h.1) hx
theorem aA3{hv:List bp}{j:Nat}{x y:bp}(h:lF cs hd)(hs:dK dC hv hd)(G9:j <i)(hx:hv[i]?=some x) (hy:hv[j]?=some y):strLt x.word y.word=false:=
 (pU (List.pairwise_map.1 (MN hs▸h.words)) G9 hy hx).2
theorem aay{ro:Nat→Option Obj}{nc nh:Nat}{x:bp}{y:bY}(h:gY nc nh i y)(hr:rj ro x y):
 (-1≤x.cls∧x.cls <nc)∧(-1≤x.n5∧x.n5 <nh∧x.n5≠i)∧(y.eg.length≤nh∧y.eg.Pairwise (· < ·)∧∀z∈y.eg,0≤z∧z <nh∧z≠i)∧(x.n5≠ -1→x.cls= -1∧y.eg.length=0)∧(x.n5= -1→x.cls= -1→y.eg.length≠0):=by
 rw[hr.2.1,hr.2.2.1]
 exact⟨h.1,h.2.1,h.2.2.1,fun a=>⟨(h.2.2.2.1 a).1,by rw[(h.2.2.2.1 a).2];rfl⟩,fun a b c=>h.2.2.2.2 a b (List.eq_nil_of_length_eq_zero c)⟩
theorem aoJ{v:Value}{ro:Nat→Option Obj}(hc:bK ro v 2 oP cs)(hT:lF cs hd)(hi:i <cs.length):dL zT 139 [v,zI (i:Int)] ro (zI 0):=by
 obtain⟨eL,AR,AQ,eF,rfl,Da,yR,yQ⟩:=hc
 have CC:=hT.nc
 refine bC au [] [] bn<|zD 8 ?_
 obtain⟨x8,hx8⟩:=zG cs i
 refine iW eF 2 yR hx8<|jl 0 (yQ _ _ hx8)<|jn fun b5=>jd 5 [0] ?_
 have iO:=hT.cls _ _ hx8
 have hcn:cQ (Dx x8) (cs.take (i:Int).toNat) 0 <0:=ak0 hT hx8
 have htk:(cs.take (i:Int).toNat).length≤cs.length:=by rw[List.length_take];omega
 refine jd 3 [0]<|jp (vs:=[.string x8.name]) [] [] (fun aA hs hZ=>(aai iO.1))<|zD 8<|jcH (hi:=(i:Int)) (show bK _ _ _ _ _ from ⟨eL,AR,AQ,eF,rfl,Da,yR,yQ⟩) (by omega) (fun v18 aq2=>?_)
 obtain⟨ama,axM,axI,al9,rfl,axK,axL,axJ⟩:=aq2
 refine zD 1<|jp (vs:=[.slice ama ((((cs).take (i:Int).toNat)).length) al9,.func (.func 175) ⟨[]⟩ ⟨[zP b5]⟩]) [0] [(b5,.cells ⟨[.string x8.name,zI x8.under]⟩ 114 (0,0))] (fun aA hs hZ=>aia (x:=x8) ((show bK _ _ _ _ _ from ⟨ama,axM,axI,al9,rfl,axK,axL,axJ⟩).up hs) (by first|omega| (simp only[List.length_set,List.length_append,List.length_cons,List.length_nil];omega)) hZ.head) ?_
 refine zD 2<|js 15 (decide (cQ (Dx x8) ((cs).take (i:Int).toNat) 0≥0)) (fun h1=>?_) (fun h1=>?_)
 ·
  exfalso;have:=of_decide_eq_true h1;omega
 refine jd 7 [0]<|ja ((cs.length:Int)-1) (by omega)<|jp (vs:=[zI x8.under,zI (-1),zI ((cs.length:Int)-1)]) [] [] (fun aA hs hZ=>jh)<|zD 3<|js 21 (!(jb x8.under (-1) ((cs.length:Int)-1))) (fun h2=>?_) (fun h2=>?_)
 ·
  try simp only[zB] at h2
  exfalso;simp only[jb,Bool.and_eq_false_iff,decide_eq_false_iff_not] at h2;omega
 try simp only[zB] at h2
 refine jd 9 [0]<|zJ 29 (x8.under≥(i:Int)) (fun h3=>?_) fun h3=>?_
 ·
  exfalso;omega
 refine zD 7<|aF q0 (zI 0) [] [] [] (Sub.refl _) ⟨_,_,rfl,rfl,rfl,rfl⟩
theorem aw1{hv:List bp}{ro:Nat→Option Obj}(hR:jT ro vc vh cs hv hd)(oF:dK dC hv hd)(hT:lF cs hd)(hi:i <hv.length):dL zT 140 [.agg ⟨[vc,vh]⟩,zI (i:Int)] ro (zI 0):=by
 obtain⟨hc,hh,cY⟩:=id hR
 obtain⟨eL,AR,AQ,eF,rfl,Da,yR,yQ⟩:=hc
 obtain⟨dR,uZ,uY,dD,rfl,xu,qM,qL⟩:=hh
 have CC:=hT.nc
 have hnh:=hT.nh
 have hlen:=oF.len
 refine bC au [] [] bn<|zD 2<|jn fun b2=>jd 9 [0,0] ?_
 obtain⟨fU,eI⟩:=zG hv i
 refine iW dD 4 qM eI<|jl 0 (qL _ _ eI)<|aH 7 fun CY C4 AT=>jn fun b6=>bw AT [1]<|zD 1<|aH 9 fun AY A6 Ad=>xH 0 b6 0 [.string ByteArray.empty,zI 0,zI 0,zS] [.string fU.word,zI fU.cls,zI fU.n5,fU.eg] 117 (mI cY _ (List.mem_of_getElem? eI)) rfl<|cM Ad<|zD 4 ?_
 obtain⟨DJ,azm,aq8⟩:=cY.get eI
 obtain⟨fL,rD,rC,eV,hqe,tH,lJ,mE⟩:=aq8.2.2.2
 have aN0:=(hT.Ab _ _ azm).1
 have hsh:=aay (hT.Ab _ _ azm).2 aq8
 obtain⟨bW,qD,G4,kX,hs5⟩:=hsh
 have hwb:y7 fU.word=true:=by rw[aq8.1];exact aN0
 have hcn:cQ (Zg fU) (hv.take (i:Int).toNat) 0 <0:=asq hT oF eI
 have htk:(hv.take (i:Int).toNat).length≤hv.length:=by rw[List.length_take];omega
 refine jmw 0 [.b b6 (.cells ⟨[.string fU.word,zI fU.cls,zI fU.n5,.slice fL DJ.eg.length eV]⟩ 117 (0,0))] (L:=[(b6,.cells ⟨[.string fU.word,zI fU.cls,zI fU.n5,fU.eg]⟩ 117 (0,0))]) (by rw[hqe];rfl) ?_
 refine jd 3 [0]<|jp (vs:=[.string fU.word]) [] [] (fun aA hs hZ=>(aai hwb))<|zD 8<|jcH (hi:=(i:Int)) (show bK _ _ _ _ _ from ⟨dR,uZ,uY,dD,rfl,xu,qM,qL⟩) (by omega) (fun v24 aOj=>?_)
 obtain⟨al8,axH,axD,al7,rfl,axF,axG,axE⟩:=aOj
 refine zD 1<|jp (vs:=[.slice al8 ((((hv).take (i:Int).toNat)).length) al7,.func (.func 178) ⟨[]⟩ ⟨[zP b6]⟩]) [0] [(b6,.cells ⟨[.string fU.word,zI fU.cls,zI fU.n5,.slice fL DJ.eg.length eV]⟩ 117 (0,0))] (fun aA hs hZ=>aoD (x:=fU) ((show bK _ _ _ _ _ from ⟨al8,axH,axD,al7,rfl,axF,axG,axE⟩).up hs) (by first|omega| (simp only[List.length_set,List.length_append,List.length_cons,List.length_nil];omega)) (by rw[hqe];exact hZ.head)) ?_
 refine zD 2<|js 21 (decide (cQ (Zg fU) ((hv).take (i:Int).toNat) 0≥0)) (fun h3=>?_) (fun h3=>?_)
 ·
  exfalso;have:=of_decide_eq_true h3;omega
 refine zD 6<|js 2 (decide ((i:Int)>0)) (fun h4=>?_) (fun h4=>?_)
 ·
  have xN:=h4
  replace xN:=of_decide_eq_true xN
  refine jd 4 [0]<|ja ((i:Int)-1) (by omega) ?_
  obtain⟨x36,yw⟩:=zG hv (((i:Int)-1).toNat)
  refine Mw ((i:Int)-1) dD 4 qM yw (by omega)<|zD 1<|jl 0 (qL _ _ yw)<|zD 4<|js 27 (strLt fU.word x36.word) (fun h5=>?_) (fun h5=>?_)
  ·
   exfalso;rw[aA3 hT oF (by omega) eI yw] at h5;cases h5
  refine jd 9 [0,1]<|ja ((cs.length:Int)-1) (by omega)<|jp (vs:=[zI fU.cls,zI (-1),zI ((cs.length:Int)-1)]) [] [] (fun aA hs hZ=>jh)<|zD 3<|js 41 (!(jb fU.cls (-1) ((cs.length:Int)-1))) (fun h6=>?_) (fun h6=>?_)
  ·
   try simp only[zB] at h6
   exfalso;simp only[jb,Bool.and_eq_false_iff,decide_eq_false_iff_not] at h6;omega
  try simp only[zB] at h6
  refine jd 6 [0]<|ja ((hv.length:Int)-1) (by omega)<|jp (vs:=[zI fU.n5,zI (-1),zI ((hv.length:Int)-1)]) [] [] (fun aA hs hZ=>jh)<|zD 3<|js 41 (!(jb fU.n5 (-1) ((hv.length:Int)-1))) (fun h7=>?_) (fun h7=>?_)
  ·
   try simp only[zB] at h7
   exfalso;simp only[jb,Bool.and_eq_false_iff,decide_eq_false_iff_not] at h7;omega
  try simp only[zB] at h7
  refine jd 9 [0]<|zJ 57 (fU.n5=(i:Int)) (fun h8=>?_) fun h8=>?_
  ·
   exfalso;omega
  refine jd 11 [0]<|eN [1,1,1,0,1,0,0] [] (fun(zz:Nat)=>[(1,zI (i:Int)),(5,.slice dR hv.length dD),(6,zP b6),(63,.slice fL DJ.eg.length eV),(64,zI (DJ.eg.length:Int)),(65,zI (zz:Int))]) (fun(zz:Nat)=>[.b b6 (.cells ⟨[.string fU.word,zI fU.cls,zI fU.n5,.slice fL DJ.eg.length eV]⟩ 117 (0,0))]) (fun(zz:Nat)=>zz≤DJ.eg.length) (fun(zz:Nat)=>DJ.eg.length-zz) 0 (by omega) [0] ?_
  rintro k hI K3 Zi rest
  refine zD 5<|zJ 66 ((k:Int) <(DJ.eg.length:Int)) (fun h9=>?_) fun h9=>?_
  ·
   refine zD 7 ?_
   obtain⟨x68,KL⟩:=zG DJ.eg k
   refine iW eV 1 lJ KL<|jl 0 (mE _ _ KL)<|zD 5 ?_
   have aQX:=G4.2.2 _ (List.mem_of_getElem? KL)
   refine zD 4<|ja ((hv.length:Int)-1) (by omega)<|jp (vs:=[zI x68,zI 0,zI ((hv.length:Int)-1)]) [] [] (fun aA hs hZ=>jh)<|zD 3<|js 70 (!(jb x68 0 ((hv.length:Int)-1))) (fun Zk=>?_) (fun Zk=>?_)
   ·
    try simp only[zB] at Zk
    exfalso;simp only[jb,Bool.and_eq_false_iff,decide_eq_false_iff_not] at Zk;omega
   try simp only[zB] at Zk
   refine zD 8<|zJ 77 (x68=(i:Int)) (fun O8=>?_) fun O8=>?_
   ·
    exfalso;omega
   refine zD 6<|js 84 (decide ((k:Int)>0)) (fun AU=>?_) (fun AU=>?_)
   ·
    have ae6:=AU
    replace ae6:=of_decide_eq_true ae6
    refine jd 4 [0]<|ja ((k:Int)-1) (by omega) ?_
    obtain⟨x90,RP⟩:=zG DJ.eg (((k:Int)-1).toNat)
    refine Mw ((k:Int)-1) eV 1 lJ RP (by omega)<|jl 0 (mE _ _ RP)<|zD 4<|zJ 81 (x68≤x90) (fun wX=>?_) fun wX=>?_
    ·
     exfalso;have:=pU G4.2.1 (show ((k:Int)-1).toNat <k by omega) RP KL;omega
    refine zD 3<|ja ((k:Int)+1) (by omega)<|zD 2<|bI Zi (k+1) (by omega) (by omega) [0] (Sub.refl _)
   have ae6:=AU
   replace ae6:=of_decide_eq_false ae6
   refine zD 14<|ja ((k:Int)+1) (by omega)<|zD 2<|bI Zi (k+1) (by omega) (by omega) [0] (Sub.refl _)
  refine jd 9 [0]<|js 98 (!decide (fU.n5=(-1))) (fun O7=>?_) (fun O7=>?_)
  ·
   have Gc:=O7
   replace Gc:=of_decide_eq_false (by simpa using Gc)
   refine jd 4 [0]<|js 102 (!decide (fU.cls=(-1))) (fun Gb=>?_) (fun Gb=>?_)
   ·
    have vV:=Gb
    replace vV:=of_decide_eq_false (by simpa using vV)
    refine zD 29 ?_
    exfalso;omega
   have vV:=Gb
   replace vV:=of_decide_eq_true (by simpa using vV)
   refine jd 7 [0]<|js 109 (decide ((DJ.eg.length:Int)>0)) (fun Lh=>?_) (fun Lh=>?_)
   ·
    have Ga:=Lh
    replace Ga:=of_decide_eq_true Ga
    refine zD 22 ?_
    exfalso;omega
   have Ga:=Lh
   replace Ga:=of_decide_eq_false Ga
   refine jd 4 [0]<|js 113 (decide (fU.n5=(-1))) (fun h17=>?_) (fun h17=>?_)
   ·
    have vQ:=h17
    replace vQ:=of_decide_eq_true vQ
    refine jd 5 [0]<|js 118 (decide (fU.cls=(-1))) (fun SP=>?_) (fun SP=>?_)
    ·
     have F8:=SP
     replace F8:=of_decide_eq_true F8
     refine jd 7 [0]<|zJ 124 ((DJ.eg.length:Int)=0) (fun VC=>?_) fun VC=>?_
     ·
      exfalso;(try simp only[Bool.or_eq_true,Bool.and_eq_true,decide_eq_true_eq,Bool.not_eq_true',decide_eq_false_iff_not] at VC);omega
     refine zD 7<|aF q0 (zI 0) [] [] [] (Sub.refl _) ⟨_,_,rfl,rfl,rfl,rfl⟩
    have F8:=SP
    replace F8:=of_decide_eq_false F8
    refine zD 14<|aF q0 (zI 0) [] [] [] (Sub.refl _) ⟨_,_,rfl,rfl,rfl,rfl⟩
   have vQ:=h17
   replace vQ:=of_decide_eq_false vQ
   refine zD 19<|aF q0 (zI 0) [] [] [] (Sub.refl _) ⟨_,_,rfl,rfl,rfl,rfl⟩
  have Gc:=O7
  replace Gc:=of_decide_eq_true (by simpa using Gc)
  refine jd 15 [0]<|js 113 (decide (fU.n5=(-1))) (fun h20=>?_) (fun h20=>?_)
  ·
   have ae2:=h20
   replace ae2:=of_decide_eq_true ae2
   refine jd 5 [0]<|js 118 (decide (fU.cls=(-1))) (fun h21=>?_) (fun h21=>?_)
   ·
    have ae1:=h21
    replace ae1:=of_decide_eq_true ae1
    refine jd 7 [0]<|zJ 124 ((DJ.eg.length:Int)=0) (fun Jb=>?_) fun Jb=>?_
    ·
     exfalso;(try simp only[Bool.or_eq_true,Bool.and_eq_true,decide_eq_true_eq,Bool.not_eq_true',decide_eq_false_iff_not] at Jb);omega
    refine zD 7<|aF q0 (zI 0) [] [] [] (Sub.refl _) ⟨_,_,rfl,rfl,rfl,rfl⟩
   have ae1:=h21
   replace ae1:=of_decide_eq_false ae1
   refine zD 14<|aF q0 (zI 0) [] [] [] (Sub.refl _) ⟨_,_,rfl,rfl,rfl,rfl⟩
  have ae2:=h20
  replace ae2:=of_decide_eq_false ae2
  refine zD 19<|aF q0 (zI 0) [] [] [] (Sub.refl _) ⟨_,_,rfl,rfl,rfl,rfl⟩
 have xN:=h4
 replace xN:=of_decide_eq_false xN
 refine jd 21 [0,1]<|ja ((cs.length:Int)-1) (by omega)<|jp (vs:=[zI fU.cls,zI (-1),zI ((cs.length:Int)-1)]) [] [] (fun aA hs hZ=>jh)<|zD 3<|js 41 (!(jb fU.cls (-1) ((cs.length:Int)-1))) (fun Ec=>?_) (fun Ec=>?_)
 ·
  try simp only[zB] at Ec
  exfalso;simp only[jb,Bool.and_eq_false_iff,decide_eq_false_iff_not] at Ec;omega
 try simp only[zB] at Ec
 refine jd 6 [0]<|ja ((hv.length:Int)-1) (by omega)<|jp (vs:=[zI fU.n5,zI (-1),zI ((hv.length:Int)-1)]) [] [] (fun aA hs hZ=>jh)<|zD 3<|js 41 (!(jb fU.n5 (-1) ((hv.length:Int)-1))) (fun h24=>?_) (fun h24=>?_)
 ·
  try simp only[zB] at h24
  exfalso;simp only[jb,Bool.and_eq_false_iff,decide_eq_false_iff_not] at h24;omega
 try simp only[zB] at h24
 refine jd 9 [0]<|zJ 57 (fU.n5=(i:Int)) (fun h25=>?_) fun h25=>?_
 ·
  exfalso;omega
 refine jd 11 [0]<|eN [1,1,1,0,1,0,0] [] (fun(zz:Nat)=>[(1,zI (i:Int)),(5,.slice dR hv.length dD),(6,zP b6),(63,.slice fL DJ.eg.length eV),(64,zI (DJ.eg.length:Int)),(65,zI (zz:Int))]) (fun(zz:Nat)=>[.b b6 (.cells ⟨[.string fU.word,zI fU.cls,zI fU.n5,.slice fL DJ.eg.length eV]⟩ 117 (0,0))]) (fun(zz:Nat)=>zz≤DJ.eg.length) (fun(zz:Nat)=>DJ.eg.length-zz) 0 (by omega) [0] ?_
 rintro k hI K4 hK4 rest
 refine zD 5<|zJ 66 ((k:Int) <(DJ.eg.length:Int)) (fun Ye=>?_) fun Ye=>?_
 ·
  refine zD 7 ?_
  obtain⟨x68,KL⟩:=zG DJ.eg k
  refine iW eV 1 lJ KL<|jl 0 (mE _ _ KL)<|zD 5 ?_
  have aQX:=G4.2.2 _ (List.mem_of_getElem? KL)
  refine zD 4<|ja ((hv.length:Int)-1) (by omega)<|jp (vs:=[zI x68,zI 0,zI ((hv.length:Int)-1)]) [] [] (fun aA hs hZ=>jh)<|zD 3<|js 70 (!(jb x68 0 ((hv.length:Int)-1))) (fun h27=>?_) (fun h27=>?_)
  ·
   try simp only[zB] at h27
   exfalso;simp only[jb,Bool.and_eq_false_iff,decide_eq_false_iff_not] at h27;omega
  try simp only[zB] at h27
  refine zD 8<|zJ 77 (x68=(i:Int)) (fun Yd=>?_) fun Yd=>?_
  ·
   exfalso;omega
  refine zD 6<|js 84 (decide ((k:Int)>0)) (fun h29=>?_) (fun h29=>?_)
  ·
   have aeW:=h29
   replace aeW:=of_decide_eq_true aeW
   refine jd 4 [0]<|ja ((k:Int)-1) (by omega) ?_
   obtain⟨x90,RP⟩:=zG DJ.eg (((k:Int)-1).toNat)
   refine Mw ((k:Int)-1) eV 1 lJ RP (by omega)<|jl 0 (mE _ _ RP)<|zD 4<|zJ 81 (x68≤x90) (fun h30=>?_) fun h30=>?_
   ·
    exfalso;have:=pU G4.2.1 (show ((k:Int)-1).toNat <k by omega) RP KL;omega
   refine zD 3<|ja ((k:Int)+1) (by omega)<|zD 2<|bI hK4 (k+1) (by omega) (by omega) [0] (Sub.refl _)
  have aeW:=h29
  replace aeW:=of_decide_eq_false aeW
  refine zD 14<|ja ((k:Int)+1) (by omega)<|zD 2<|bI hK4 (k+1) (by omega) (by omega) [0] (Sub.refl _)
 refine jd 9 [0]<|js 98 (!decide (fU.n5=(-1))) (fun h31=>?_) (fun h31=>?_)
 ·
  have aeU:=h31
  replace aeU:=of_decide_eq_false (by simpa using aeU)
  refine jd 4 [0]<|js 102 (!decide (fU.cls=(-1))) (fun h32=>?_) (fun h32=>?_)
  ·
   have aeT:=h32
   replace aeT:=of_decide_eq_false (by simpa using aeT)
   refine zD 29 ?_
   exfalso;omega
  have aeT:=h32
  replace aeT:=of_decide_eq_true (by simpa using aeT)
  refine jd 7 [0]<|js 109 (decide ((DJ.eg.length:Int)>0)) (fun h33=>?_) (fun h33=>?_)
  ·
   have aeS:=h33
   replace aeS:=of_decide_eq_true aeS
   refine zD 22 ?_
   exfalso;omega
  have aeS:=h33
  replace aeS:=of_decide_eq_false aeS
  refine jd 4 [0]<|js 113 (decide (fU.n5=(-1))) (fun h34=>?_) (fun h34=>?_)
  ·
   have aeR:=h34
   replace aeR:=of_decide_eq_true aeR
   refine jd 5 [0]<|js 118 (decide (fU.cls=(-1))) (fun h35=>?_) (fun h35=>?_)
   ·
    have aeQ:=h35
    replace aeQ:=of_decide_eq_true aeQ
    refine jd 7 [0]<|zJ 124 ((DJ.eg.length:Int)=0) (fun h36=>?_) fun h36=>?_
    ·
     exfalso;(try simp only[Bool.or_eq_true,Bool.and_eq_true,decide_eq_true_eq,Bool.not_eq_true',decide_eq_false_iff_not] at h36);omega
    refine zD 7<|aF q0 (zI 0) [] [] [] (Sub.refl _) ⟨_,_,rfl,rfl,rfl,rfl⟩
   have aeQ:=h35
   replace aeQ:=of_decide_eq_false aeQ
   refine zD 14<|aF q0 (zI 0) [] [] [] (Sub.refl _) ⟨_,_,rfl,rfl,rfl,rfl⟩
  have aeR:=h34
  replace aeR:=of_decide_eq_false aeR
  refine zD 19<|aF q0 (zI 0) [] [] [] (Sub.refl _) ⟨_,_,rfl,rfl,rfl,rfl⟩
 have aeU:=h31
 replace aeU:=of_decide_eq_true (by simpa using aeU)
 refine jd 15 [0]<|js 113 (decide (fU.n5=(-1))) (fun h37=>?_) (fun h37=>?_)
 ·
  have aeP:=h37
  replace aeP:=of_decide_eq_true aeP
  refine jd 5 [0]<|js 118 (decide (fU.cls=(-1))) (fun h38=>?_) (fun h38=>?_)
  ·
   have aeO:=h38
   replace aeO:=of_decide_eq_true aeO
   refine jd 7 [0]<|zJ 124 ((DJ.eg.length:Int)=0) (fun Zj=>?_) fun Zj=>?_
   ·
    exfalso;(try simp only[Bool.or_eq_true,Bool.and_eq_true,decide_eq_true_eq,Bool.not_eq_true',decide_eq_false_iff_not] at Zj);omega
   refine zD 7<|aF q0 (zI 0) [] [] [] (Sub.refl _) ⟨_,_,rfl,rfl,rfl,rfl⟩
  have aeO:=h38
  replace aeO:=of_decide_eq_false aeO
  refine zD 14<|aF q0 (zI 0) [] [] [] (Sub.refl _) ⟨_,_,rfl,rfl,rfl,rfl⟩
 have aeP:=h37
 replace aeP:=of_decide_eq_false aeP
 refine zD 19<|aF q0 (zI 0) [] [] [] (Sub.refl _) ⟨_,_,rfl,rfl,rfl,rfl⟩
theorem T6{hv:List bp}{ro:Nat→Option Obj}(hR:jT ro vc vh cs hv hd)(oF:dK dC hv hd)(hT:lF cs hd):dL zT 116 [.agg ⟨[vc,vh]⟩] ro (zI 0):=by
 obtain⟨hc,hh,cY⟩:=id hR
 obtain⟨eL,AR,AQ,eF,rfl,Da,yR,yQ⟩:=hc
 obtain⟨dR,uZ,uY,dD,rfl,xu,qM,qL⟩:=hh
 have CC:=hT.nc
 have hnh:=hT.nh
 have hlen:=oF.len
 refine bC au [] [] bn<|zD 2<|jn fun b1=>jd 10 [0]<|jj 5 [(1,zP b1),(2,zI 0),(16,.bool ((decide ((cs.length:Int)>6))||(decide ((hv.length:Int)>6))))] (fun gZ=>?_) (fun hj=>?_)
 rotate_left
 refine js 11 (decide ((cs.length:Int)>6)) (fun h1=>?_) (fun h1=>?_)
 ·
  have gD:=h1
  replace gD:=of_decide_eq_true gD
  refine zD 5<|jw 16 (.bool ((decide ((cs.length:Int)>6))||(decide ((hv.length:Int)>6)))) (w:= .bool true) (by rw[h1]<;>rfl) ?_
  exact hj _ (by kernel_rfl) (by kernel_rfl)
 ·
  have gD:=h1
  replace gD:=of_decide_eq_false gD
  refine jd 5 [0]<|jw 16 (.bool ((decide ((cs.length:Int)>6))||(decide ((hv.length:Int)>6)))) (w:= .bool (decide ((hv.length:Int)>6))) (by rw[h1]<;>rfl) ?_
  exact hj _ (by kernel_rfl) (by kernel_rfl)
 refine zD 1<|js 16 ((decide ((cs.length:Int)>6))||(decide ((hv.length:Int)>6))) (fun h2=>?_) (fun h2=>?_)
 ·
  try simp only[zB] at h2
  exfalso;omega
 try simp only[zB] at h2
 refine jd 11 [0]<|eN [1,1,0,1,0,0] [] (fun(zz:Nat)=>[(1,zP b1),(19,zI (cs.length:Int)),(20,zI (zz:Int))]) (fun(zz:Nat)=>[.b b1 (.cells ⟨[.slice eL cs.length eF,.slice dR hv.length dD]⟩ 35 (0,0))]) (fun(zz:Nat)=>zz≤cs.length) (fun(zz:Nat)=>cs.length-zz) 0 (by omega) [0] ?_
 rintro k hI K1 bF rest
 refine zD 5<|zJ 21 ((k:Int) <(cs.length:Int)) (fun h3=>?_) fun h3=>?_
 ·
  refine jd 14 [0]<|jp (vs:=[.slice eL cs.length eF,zI (k:Int)]) [] [] (fun aA hs hZ=>aoJ ((show bK _ _ _ _ _ from ⟨eL,AR,AQ,eF,rfl,Da,yR,yQ⟩).up hs) hT (by omega))<|zD 10<|ja ((k:Int)+1) (by omega)<|zD 2<|bI bF (k+1) (by omega) (by omega) [0] (Sub.refl _)
 refine jd 11 [0]<|eN [1,1,1,0,1,0,0] [] (fun(zz:Nat)=>[(1,zP b1),(33,zI (hv.length:Int)),(34,zI (zz:Int))]) (fun(zz:Nat)=>[.b b1 (.cells ⟨[.slice eL cs.length eF,.slice dR hv.length dD]⟩ 35 (0,0))]) (fun(zz:Nat)=>zz≤hv.length) (fun(zz:Nat)=>hv.length-zz) 0 (by omega) [0] ?_
 rintro j hJ K2 mL rest
 refine zD 5<|zJ 35 ((j:Int) <(hv.length:Int)) (fun h4=>?_) fun h4=>?_
 ·
  refine jd 13 [0]<|jp (vs:=[.agg ⟨[.slice eL cs.length eF,.slice dR hv.length dD]⟩,zI (j:Int)]) [] [] (fun aA hs hZ=>(aw1 (hR.up hs) oF hT (by omega)))<|zD 10<|ja ((j:Int)+1) (by omega)<|zD 2<|bI mL (j+1) (by omega) (by omega) [0] (Sub.refl _)
 refine zD 7<|aF q0 (zI 0) [] [] [] (Sub.refl _) ⟨_,_,rfl,rfl,rfl,rfl⟩
theorem aoK{hv:List bp}{ro:Nat→Option Obj}(hR:jT ro vc vh cs hv hd)(oF:dK dC hv hd)(hT:lF cs hd):dL zT 77 [.agg ⟨[vc,vh]⟩] ro (zI 0):=by
 obtain⟨hc,hh,cY⟩:=id hR
 obtain⟨eL,AR,AQ,eF,rfl,Da,yR,yQ⟩:=hc
 obtain⟨dR,uZ,uY,dD,rfl,xu,qM,qL⟩:=hh
 have CC:=hT.nc
 have hnh:=hT.nh
 have hlen:=oF.len
 refine bC au [] [] bn<|zD 2<|jn fun b1=>jd 5 [0]<|jp (vs:=[.agg ⟨[.slice eL cs.length eF,.slice dR hv.length dD]⟩]) [] [] (fun aA hs hZ=>(T6 (hR.up hs) oF hT))<|zD 3<|aF q0 (zI 0) [] [] [] (Sub.refl _) ⟨_,_,rfl,rfl,rfl,rfl⟩
def HW(a b:ByteArray):Int:=bif strLt a b then-1 else bif !(strLt a b||cH a b) then 1 else 0
def LP:List ByteArray→List ByteArray→Int
 | [],[]=>0
 | [],_::_=> -1
 |_::_,[]=>1
 |x::xs,y::ys=>if HW x y=0 then LP xs ys else HW x y
theorem VT{y:ByteArray}(hx:xs[k]?=some x) (hy:ys[k]?=some y):LP (xs.drop k) (ys.drop k)=if HW x y=0 then LP (xs.drop (k+1)) (ys.drop (k+1)) else HW x y:=by rw[gu hx,gu hy];rfl
theorem af0(hx:xs[k]?=some x) (hy:¬k <ys.length):LP (xs.drop k) (ys.drop k)=1:=by rw[gu hx,eQ hy];rfl
theorem PD(hx:¬k <xs.length):LP (xs.drop k) (ys.drop k)=if k <ys.length then-1 else 0:=by
 rw[eQ hx]
 split
 ·rename_i h
  rw[List.drop_eq_getElem_cons h];rfl
 rename_i h
 rw[eQ h];rfl
def sE(s p:ByteArray):Bool:=decide (s.size≥p.size)&&cH (s.extract 0 p.size) p
structure aj where
 h:Int
 n:Int
 l:Int
abbrev cw(x:aj):List Value:=[zI x.h,zI x.n,zI x.l]
def oR(h n l:Int)(y:aj):Bool:=h==y.h&&(n==y.n&&(l==y.l&&true)&&true)
theorem aEK{a:ByteArray}{ro:Nat→Option Obj}:dL zT 253 [.string a] ro (.bool false):=by
 refine bC au [] [] bn<|zD 12<|aF q0 (.bool (!(cH a a))) [] [] [] (Sub.refl _) ⟨_,_,rfl,rfl,by rw[A7.2 rfl];rfl,rfl⟩
theorem aSL{a:ByteArray}{ro:Nat→Option Obj}:dL zT 229 [.string a,.string b] ro (zI (HW a b)):=by
 refine bC au [] [] bn<|zD 7<|jp (vs:=[.string a]) [] [] (fun aA hs hZ=>aEK)<|zD 5<|jp (vs:=[.string b]) [] [] (fun aA hs hZ=>aEK)<|zD 23<|js 16 (strLt a b) (fun h1=>?_) (fun h1=>?_)
 ·
  refine zD 6<|aF q0 (zI (-1)) [] [] [] (Sub.refl _) ⟨_,_,rfl,rfl,by simp_all[HW],rfl⟩
 refine zD 9<|js 19 (!(strLt a b||cH a b)) (fun h2=>?_) (fun h2=>?_)
 ·
  try simp only[zB] at h2
  refine zD 6<|aF q0 (zI 1) [] [] [] (Sub.refl _) ⟨_,_,rfl,rfl,by simp_all[HW],rfl⟩
 try simp only[zB] at h2
 refine zD 7<|aF q0 (zI 0) [] [] [] (Sub.refl _) ⟨_,_,rfl,rfl,by simp_all[HW],rfl⟩
theorem aLn{v w:Value}{ro:Nat→Option Obj}(hv:bK ro v 1 py xs)(hw:bK ro w 1 py ys)(hx:xs.length≤1000)(hy:ys.length≤1000):dL zT 208 [v,w] ro (zI (LP xs ys)):=by
 obtain⟨Nr,qvb,qvo,C7,rfl,qvk,Re,Rc⟩:=hv
 obtain⟨Rb,qwb,qwo,JZ,rfl,qwk,qwh,qwl⟩:=hw
 refine bC au [] [] bn<|zD 12<|eN [1,0,1,0,0] [] (fun(zz:Nat)=>[(0,.slice Nr xs.length C7),(1,.slice Rb ys.length JZ),(9,.slice Nr xs.length C7),(10,zI (xs.length:Int)),(11,zI (zz:Int))]) (fun(zz:Nat)=>[]) (fun(zz:Nat)=>(zz≤xs.length∧zz≤ys.length)∧LP xs ys=LP (xs.drop zz) (ys.drop zz)) (fun(zz:Nat)=>xs.length-zz) 0 ⟨by omega,rfl⟩ [] ?_
 rintro k hI K1 bF rest
 refine zD 5<|zJ 12 ((k:Int) <(xs.length:Int)) (fun h1=>?_) fun h1=>?_
 ·
  refine zD 7 ?_
  obtain⟨fU,eI⟩:=zG xs k
  refine iW C7 1 Re eI<|jl 0 (Rc _ _ eI)<|zD 11<|zJ 19 ((k:Int)≥(ys.length:Int)) (fun h2=>?_) fun h2=>?_
  ·
   refine zD 6<|aF q0 (zI 1) [] [] [] (Sub.refl _) ⟨_,_,rfl,rfl,by rw[hI.2,af0 eI (by omega)],rfl⟩
  refine zD 6 ?_
  obtain⟨rS,tV⟩:=zG ys k
  refine iW JZ 1 qwh tV<|jl 0 (qwl _ _ tV)<|zD 6<|jp (vs:=[.string fU,.string rS]) [] [] (fun aA hs hZ=>aSL)<|zD 7<|js 28 (!decide ((HW fU rS)=0)) (fun h3=>?_) (fun h3=>?_)
  ·
   replace h3:=of_decide_eq_false (by simpa using h3)
   refine zD 7<|aF q0 (zI (HW fU rS)) [] [] [] (Sub.refl _) ⟨_,_,rfl,rfl,by rw[hI.2,VT eI tV,if_neg (by omega)],rfl⟩
  replace h3:=of_decide_eq_true (by simpa using h3)
  refine zD 3<|ja ((k:Int)+1) (by omega)<|zD 2<|bI bF (k+1) ⟨by omega,by rw[hI.2,VT eI tV,if_pos (by omega)]⟩ (by omega) [] (Sub.refl _)
 refine zD 11<|zJ 35 ((xs.length:Int) <(ys.length:Int)) (fun h4=>?_) fun h4=>?_
 ·
  refine zD 6<|aF q0 (zI (-1)) [] [] [] (Sub.refl _) ⟨_,_,rfl,rfl,by rw[hI.2,PD (by omega),if_pos (by omega)],rfl⟩
 refine zD 7<|aF q0 (zI 0) [] [] [] (Sub.refl _) ⟨_,_,rfl,rfl,by rw[hI.2,PD (by omega),if_neg (by omega)],rfl⟩
theorem X5{a:ByteArray}{ro:Nat→Option Obj}(hn:a.size≤1000∧b.size≤1000):dL zT 278 [.string a,.string b] ro (.bool (sE a b)):=by
 refine bC au [] [] bn<|zD 12<|js 10 (decide ((a.size:Int)≥(b.size:Int))) (fun h1=>?_) (fun h1=>?_)
 ·
  have gD:=h1
  replace gD:=of_decide_eq_true gD
  refine zD 3<|jtH (b:=a) (hi:=(b.size:Int)) (by omega)<|zD 6<|aF q0 (.bool (cH (a.extract 0 (b.size:Int).toNat) b)) [] [] [] (Sub.refl _) ⟨_,_,rfl,rfl,by simp_all[sE]<;>(intro;omega),rfl⟩
 have gD:=h1
 replace gD:=of_decide_eq_false gD
 refine zD 10<|aF q0 (.bool false) [] [] [] (Sub.refl _) ⟨_,_,rfl,rfl,by simp_all[sE]<;>(intro;omega),rfl⟩
theorem X6{a:ByteArray}{ro:Nat→Option Obj}(hn:a.size≤1000∧b.size≤1000):dL zT 270 [.string a,.string b] ro (.bool (sE a b)):=by
 refine bC au [] [] bn<|zD 8<|jp (vs:=[.string a,.string b]) [] [] (fun aA hs hZ=>(X5 (by omega)))<|zD 3<|aF q0 (.bool (sE a b)) [] [] [] (Sub.refl _) ⟨_,_,rfl,rfl,rfl,rfl⟩
theorem acw{v:Value}{ps:List aj}{h n l:Int}{ro:Nat→Option Obj}(hp:bK ro v 3 cw ps)(hn:ps.length≤1000):dL zT 84 [v,.agg ⟨[zI h,zI n,zI l]⟩] ro (zI (cQ (oR h n l) ps 0)):=by
 obtain⟨P6,qpb,qpo,Iz,rfl,qpk,W0,WZ⟩:=hp
 refine bC au [] [] bn<|zD 2<|jn fun b3=>zD 10<|eN [1,0,1,0,0] [] (fun(zz:Nat)=>[(0,.slice P6 ps.length Iz),(3,zP b3),(7,zI (ps.length:Int)),(8,zI (zz:Int))]) (fun(zz:Nat)=>[.b b3 (.cells ⟨[zI h,zI n,zI l]⟩ 132 (0,0))]) (fun(zz:Nat)=>zz≤ps.length∧cQ (oR h n l) ps 0=cQ (oR h n l) (ps.drop zz) zz) (fun(zz:Nat)=>ps.length-zz) 0 ⟨by omega,rfl⟩ [0] ?_
 rintro k hI K1 bF rest
 refine zD 5<|zJ 9 ((k:Int) <(ps.length:Int)) (fun h1=>?_) fun h1=>?_
 ·
  refine jd 14 [0] ?_
  obtain⟨fU,eI⟩:=zG ps k
  refine iW Iz 3 W0 eI<|jl 0 (WZ _ _ eI)<|jeq ayF (atN h n l fU.h fU.n fU.l)<|zD 1<|js 16 (h==fU.h&&(n==fU.n&&(l==fU.l&&true)&&true)) (fun h2=>?_) (fun h2=>?_)
  ·
   refine zD 7<|aF q0 (zI (k:Int)) [] [] [] (Sub.refl _) ⟨_,_,rfl,rfl,by rw[hI.2,jN eI,show oR h n l fU=true from (by assumption)];rfl,rfl⟩
  refine zD 3<|ja ((k:Int)+1) (by omega)<|zD 2<|bI bF (k+1) ⟨by omega,by rw[hI.2,jN eI,show oR h n l fU=false from (by assumption)];rfl⟩ (by omega) [0] (Sub.refl _)
 refine zD 7<|aF q0 (zI (-1)) [] [] [] (Sub.refl _) ⟨_,_,rfl,rfl,by rw[hI.2,qk (by omega)],rfl⟩
theorem IX{v:Value}{ps:List aj}{h n l:Int}{ro:Nat→Option Obj}(hp:bK ro v 3 cw ps)(hn:ps.length≤1000):dL zT 50 [v,.agg ⟨[zI h,zI n,zI l]⟩] ro (.bool (decide (cQ (oR h n l) ps 0≥0))):=by
 obtain⟨P6,qpb,qpo,Iz,rfl,qpk,W0,WZ⟩:=hp
 refine bC au [] [] bn<|zD 2<|jn fun b3=>jd 6 [0]<|jp (vs:=[.slice P6 ps.length Iz,.agg ⟨[zI h,zI n,zI l]⟩]) [] [] (fun aA hs hZ=>acw ((show bK _ _ _ _ _ from ⟨P6,qpb,qpo,Iz,rfl,qpk,W0,WZ⟩).up hs) (by first|omega| (simp only[List.length_set,List.length_append,List.length_cons,List.length_nil];omega))) ?_
 refine zD 4<|aF q0 (.bool (decide ((cQ (oR h n l) ps 0)≥0))) [] [] [] (Sub.refl _) ⟨_,_,rfl,rfl,rfl,rfl⟩
theorem abI{v:Value}{ws:List ByteArray}{ro:Nat→Option Obj}(hv:bK ro v 1 py ws)(hn:ws.length≤1000)(hW:∀w∈ws,(1≤w.size∧w.size≤6)∧Script w):dL zT 180 [v] ro (zI 0):=by
 obtain⟨Nr,qvb,qvo,C7,rfl,qvk,Re,Rc⟩:=hv
 refine bC au [] [] bn<|zD 12<|eN [1,0,1,0,0] [] (fun(zz:Nat)=>[(6,.slice Nr ws.length C7),(7,zI (ws.length:Int)),(8,zI (zz:Int))]) (fun(zz:Nat)=>[]) (fun(zz:Nat)=>zz≤ws.length) (fun(zz:Nat)=>ws.length-zz) 0 (by omega) [] ?_
 rintro k hI K1 bF rest
 refine zD 5<|zJ 9 ((k:Int) <(ws.length:Int)) (fun h1=>?_) fun h1=>?_
 ·
  refine zD 6 ?_
  obtain⟨x10,rI⟩:=zG ws k
  refine iW C7 1 Re rI<|jl 0 (Rc _ _ rI)<|zD 5<|jp (vs:=[.string x10]) [] [] (fun aA hs hZ=>(Ru (hW _ (List.mem_of_getElem? rI)).1 (hW _ (List.mem_of_getElem? rI)).2))<|zD 10<|ja ((k:Int)+1) (by omega)<|zD 2<|bI bF (k+1) (by omega) (by omega) [] (Sub.refl _)
 refine zD 7<|aF q0 (zI 0) [] [] [] (Sub.refl _) ⟨_,_,rfl,rfl,rfl,rfl⟩
def xm(w:ByteArray):Prop:=∀b∈w.data.toList,b.toNat <128∧kindOf (b.toNat:Int)=1
def aja(w:ByteArray):Bool:=w.data.toList.all fun b=>Nat.blt b.toNat 128&&decide (kindOf (b.toNat:Int)=1)
theorem Fo{w:ByteArray}(h:aja w=true):xm w:=fun b hb=>by
 have:=List.all_eq_true.1 h b hb
 simp only[Bool.and_eq_true,Nat.blt_eq,decide_eq_true_eq] at this
 exact this
def Ue(r:cG):Bool:=(Nat.ble 1 r.f.size&&Nat.ble r.f.size 2)&&(Nat.ble r.t.size 2&&(aja r.f&&(aja r.t&& !cH r.f r.t)))
theorem WL:(ank.all fun f=>toW.all fun t=>Ue ⟨f,t⟩)=true:=by kernel_rfl
structure rh(r:cG):Prop where
 f1:1≤r.f.size∧r.f.size≤2
 t1:r.t.size≤2
 fl:xm r.f
 tl:xm r.t
 ne:cH r.f r.t=false
theorem aoT{r:cG}(h:GW r):rh r:=by
 have:=List.all_eq_true.1 (List.all_eq_true.1 WL r.f h.1) r.t h.2
 simp only[Ue,Bool.and_eq_true,Nat.ble_eq,Bool.not_eq_true'] at this
 exact⟨this.1,this.2.1,Fo this.2.2.1,Fo this.2.2.2.1,this.2.2.2.2⟩
theorem ayJ{r:Int}{ro:Nat→Option Obj}:dL zT 223 [.int .i32 r] ro (.bool (!decide (kindOf r=1))):=by
 refine bC au [] [] bn<|zD 7<|jp (vs:=[.int .i32 r]) [] [] (fun aA hs hZ=>amg)<|zD 4<|aF q0 (.bool (!decide ((kindOf r)=1))) [] [] [] (Sub.refl _) ⟨_,_,rfl,rfl,rfl,rfl⟩
theorem aLm{w:ByteArray}{ro:Nat→Option Obj}(hK:xm w):dL zT 261 [.string w,.func (.func 223) ⟨[]⟩ ⟨[]⟩,.bool true] ro (zI (-1)):=by
 refine bC au [] [] bn<|zD 8<|jn fun r10=>zD 2<|eN [1,0,1,0,0] [] (fun(zz:Nat)=>[(1,.func (.func 223) ⟨[]⟩ ⟨[]⟩),(2,.bool true),(10,zP r10)]) (fun(zz:Nat)=>[.b r10 (.stringIter w zz)]) (fun(zz:Nat)=>zz≤w.data.toList.length) (fun(zz:Nat)=>w.data.toList.length-zz) 0 (by omega) [0] ?_
 rintro p hI K1 bF rest
 refine zD 2 ?_
 cases XV:w.data.toList[p]? with
 |some x11=>
  refine jnA r10 0 XV (hK _ (List.mem_of_getElem? XV)).1<|zD 14 ?_
  have Vq:=(hK _ (List.mem_of_getElem? XV)).2
  refine zD 3<|jp (vs:=[.int .i32 (x11.toNat:Int)]) [] [] (fun aA hs hZ=>ayJ)<|zD 1<|je (.bool ((!decide (kindOf (x11.toNat:Int)=1))==true)) rfl<|zD 1<|js 19 ((!decide (kindOf (x11.toNat:Int)=1))==true) (fun h1=>?_) (fun h1=>?_)
  ·
   exfalso;rw[Vq] at h1;cases h1
  refine zD 2<|bI bF (p+1) (by have:=(List.getElem?_eq_some_iff.1 XV).1;omega) (by have:=(List.getElem?_eq_some_iff.1 XV).1;omega) [0] (Sub.refl _)
 |none=>
  refine jnZ r10 0 XV<|zD 10<|aF q0 (zI (-1)) [] [] [] (Sub.refl _) ⟨_,_,rfl,rfl,rfl,rfl⟩
theorem axg{w:ByteArray}{ro:Nat→Option Obj}(hK:xm w):dL zT 244 [.string w,.func (.func 223) ⟨[]⟩ ⟨[]⟩] ro (zI (-1)):=by
 refine bC au [] [] bn<|zD 8<|jp (vs:=[.string w,.func (.func 223) ⟨[]⟩ ⟨[]⟩,.bool true]) [] [] (fun aA hs hZ=>(aLm hK))<|zD 3<|aF q0 (zI (-1)) [] [] [] (Sub.refl _) ⟨_,_,rfl,rfl,rfl,rfl⟩
theorem axi{w:ByteArray}{ro:Nat→Option Obj}(hK:xm w):dL zT 222 [.string w,.func (.func 223) ⟨[]⟩ ⟨[]⟩] ro (.bool false):=by
 refine bC au [] [] bn<|zD 8<|jp (vs:=[.string w,.func (.func 223) ⟨[]⟩ ⟨[]⟩]) [] [] (fun aA hs hZ=>(axg hK))<|zD 4<|aF q0 (.bool false) [] [] [] (Sub.refl _) ⟨_,_,rfl,rfl,rfl,rfl⟩
theorem N0{w:ByteArray}{ro:Nat→Option Obj}(hK:xm w)(hn:w.size≤1000):dL zT 204 [.string w,zI lo,zI hi] ro (.bool (decide (lo≤w.size)&&decide ((w.size:Int)≤hi))):=by
 refine bC au [] [] bn<|zD 11<|jj 5 [(0,.string w),(6,.bool false),(16,.bool ((decide (lo≤(w.size:Int)))&&(decide ((w.size:Int)≤hi))))] (fun gZ=>?_) (fun hj=>?_)
 rotate_left
 refine js 11 (decide (lo≤(w.size:Int))) (fun h1=>?_) (fun h1=>?_)
 ·
  have gD:=h1
  replace gD:=of_decide_eq_true gD
  refine zD 5<|jw 16 (.bool ((decide (lo≤(w.size:Int)))&&(decide ((w.size:Int)≤hi)))) (w:= .bool (decide ((w.size:Int)≤hi))) (by rw[h1]<;>rfl) ?_
  exact hj _ (by kernel_rfl) (by kernel_rfl)
 ·
  have gD:=h1
  replace gD:=of_decide_eq_false gD
  refine zD 5<|jw 16 (.bool ((decide (lo≤(w.size:Int)))&&(decide ((w.size:Int)≤hi)))) (w:= .bool false) (by rw[h1]<;>rfl) ?_
  exact hj _ (by kernel_rfl) (by kernel_rfl)
 refine zD 1<|jj 4 [(6,.bool false),(21,.bool (((decide (lo≤(w.size:Int)))&&(decide ((w.size:Int)≤hi)))&&true))] (fun gZ=>?_) (fun hj=>?_)
 rotate_left
 refine js 17 ((decide (lo≤(w.size:Int)))&&(decide ((w.size:Int)≤hi))) (fun h2=>?_) (fun h2=>?_)
 ·
  have mz:=h2
  try simp only[zB] at mz
  refine zD 1<|jp (vs:=[.string w,.func (.func 223) ⟨[]⟩ ⟨[]⟩]) [] [] (fun aA hs hZ=>(axi hK))<|zD 2<|jw 21 (.bool (((decide (lo≤(w.size:Int)))&&(decide ((w.size:Int)≤hi)))&&true)) (w:= .bool true) (by rw[h2]<;>rfl) ?_
  exact hj _ (by kernel_rfl) (by kernel_rfl)
 ·
  have mz:=h2
  try simp only[zB] at mz
  refine zD 4<|jw 21 (.bool (((decide (lo≤(w.size:Int)))&&(decide ((w.size:Int)≤hi)))&&true)) (w:= .bool false) (by rw[h2]<;>rfl) ?_
  exact hj _ (by kernel_rfl) (by kernel_rfl)
 refine zD 3<|aF q0 (.bool (((decide (lo≤(w.size:Int)))&&(decide ((w.size:Int)≤hi)))&&true)) [] [] [] (Sub.refl _) ⟨_,_,rfl,rfl,by simp_all,rfl⟩
theorem IK{w:ByteArray}{ro:Nat→Option Obj}(hK:xm w)(h1:lo≤w.size)(h2:(w.size:Int)≤hi)(h3:w.size≤1000):dL zT 204 [.string w,zI lo,zI hi] ro (.bool true):=by
 have:=N0 (ro:=ro) hK h3 (lo:=lo) (hi:=hi)
 rw[decide_eq_true h1,decide_eq_true h2] at this
 exact this
theorem Xn{v:Value}{ro:Nat→Option Obj}(hv:bK ro v 2 jO rs)(hn:rs.length≤4)(hR:∀r∈rs,rh r):dL zT 179 [v] ro (zI 0):=by
 obtain⟨Nr,qvb,qvo,C7,rfl,qvk,Re,Rc⟩:=hv
 refine bC au [] [] bn<|zD 11<|zJ 7 ((rs.length:Int)>4) (fun h1=>?_) fun h1=>?_
 ·
  exfalso;omega
 refine zD 10<|eN [1,1,0,1,0,0] [] (fun(zz:Nat)=>[(8,.slice Nr rs.length C7),(9,zI (rs.length:Int)),(10,zI (zz:Int))]) (fun(zz:Nat)=>[]) (fun(zz:Nat)=>zz≤rs.length) (fun(zz:Nat)=>rs.length-zz) 0 (by omega) [] ?_
 rintro k hI K1 bF rest
 refine zD 5<|zJ 11 ((k:Int) <(rs.length:Int)) (fun h2=>?_) fun h2=>?_
 ·
  refine zD 6 ?_
  obtain⟨tj,p8⟩:=zG rs k
  refine iW C7 2 Re p8<|jl 0 (Rc _ _ p8)<|jn fun b4=>jd 3 [0] ?_
  have hrp:=(hR _ (List.mem_of_getElem? p8))
  have hrf:=hrp.f1
  have hrt:=hrp.t1
  refine jd 3 [0]<|jp (vs:=[.string tj.f,zI 1,zI 2]) [] [] (fun aA hs hZ=>(IK hrp.fl (by omega) (by omega) (by omega)))<|jd 4 [0]<|jp (vs:=[.string tj.t,zI 0,zI 2]) [] [] (fun aA hs hZ=>(IK hrp.tl (by omega) (by omega) (by omega)))<|jd 10 [0,0]<|js 30 (cH tj.f tj.t) (fun h3=>?_) (fun h3=>?_)
  ·
   exfalso;rw[hrp.ne] at h3;cases h3
  refine zD 3<|ja ((k:Int)+1) (by omega)<|zD 2<|bI bF (k+1) (by omega) (by omega) [] (Sub.refl _)
 refine zD 7<|aF q0 (zI 0) [] [] [] (Sub.refl _) ⟨_,_,rfl,rfl,rfl,rfl⟩
def tS:List Int→Int
 | []=>0
 |x::xs=>xs.foldl min x
def By:List Int→Int
 | []=>0
 |x::xs=>xs.foldl max x
theorem apO{xs:List Int}{x:Int}(h:xs[0]?=some x):tS xs=(xs.drop 1).foldl min x:=by
 cases xs with
 |nil=>cases h
 |cons y l=>simp at h;subst h;rfl
theorem apP{xs:List Int}{x:Int}(h:xs[0]?=some x):By xs=(xs.drop 1).foldl max x:=by
 cases xs with
 |nil=>cases h
 |cons y l=>simp at h;subst h;rfl
def vq(l:List Int):Int:=(l.filter fun x=>decide (x>0)).length
theorem IF{l:List Int}{x:Int}(h:l[k]?=some x):vq (l.take (k+1))=vq (l.take k)+if x>0 then 1 else 0:=by
 rw[fq h,vq,List.filter_append,vq]
 by_cases hx:x>0<;>simp[hx]
structure ay where
 past:Int
 w0:Int
 w1:Int
 w2:Int
 w3:Int
 gone:Int
 new:Int
 af:Int
abbrev cN(x:ay):List Value:=[zI x.past,zI x.w0,zI x.w1,zI x.w2,zI x.w3,zI x.gone,zI x.new,zI x.af]
def eY(g n m:Int)(x:ay):Bool:=decide (x.gone≤g)&&(decide (x.new≤n)&&decide (x.af≤m))
def hasB(f i:Int):Bool:=decide (RM .u8 (aQ .u8 f i) 1=1)
theorem aLk{v:Value}{xs:List Int}{ro:Nat→Option Obj}(hl:bK ro v 1 cS xs)(hn:0 <xs.length∧xs.length≤1000000):dL zT 61 [v] ro (zI (tS xs)):=by
 obtain⟨fL,rD,rC,eV,rfl,tH,lJ,mE⟩:=hl
 refine bC au [] [] bn<|zD 11<|zJ 7 ((xs.length:Int) <1) (fun h1=>?_) fun h1=>?_
 ·
  exfalso;omega
 refine zD 5 ?_
 obtain⟨x10,rI⟩:=zG xs 0
 refine iW eV 1 lJ rI<|jl 0 (mE _ _ rI)<|zD 8<|eN [1,1,1,0,1,0,0] [] (fun(zz:Nat×Int)=>[(0,.slice fL xs.length eV),(2,zI 0),(3,zI zz.2),(4,zI (zz.1:Int))]) (fun(zz:Nat×Int)=>[]) (fun(zz:Nat×Int)=>(1≤zz.1∧zz.1≤xs.length)∧tS xs=(xs.drop zz.1).foldl min zz.2) (fun(zz:Nat×Int)=>xs.length-zz.1) (⟨1,x10⟩) ⟨by dsimp only;omega,apO rI⟩ [] ?_
 rintro⟨k,m⟩ hI K1 bF rest
 dsimp only at hI
 refine zD 8<|zJ 15 ((k:Int) <(xs.length:Int)) (fun h2=>?_) fun h2=>?_
 ·
  refine zD 8 ?_
  obtain⟨xY,p7⟩:=zG xs k
  refine iW eV 1 lJ p7<|jl 0 (mE _ _ p7)<|jmn (k:= .i64) (a:=m) (b:=xY)<|zD 4<|ja ((k:Int)+1) (by omega)<|zD 2<|bI bF (⟨k+1,(min m xY)⟩) ⟨by dsimp only;omega,by rw[hI.2,gu p7];rfl⟩ (by dsimp only;omega) [] (Sub.refl _)
 refine zD 8<|aF q0 (zI m) [] [] [] (Sub.refl _) ⟨_,_,rfl,rfl,by rw[hI.2,eQ (by omega)];rfl,rfl⟩
theorem aLl{v:Value}{xs:List Int}{ro:Nat→Option Obj}(hl:bK ro v 1 cS xs)(hn:0 <xs.length∧xs.length≤1000000):dL zT 62 [v] ro (zI (By xs)):=by
 obtain⟨fL,rD,rC,eV,rfl,tH,lJ,mE⟩:=hl
 refine bC au [] [] bn<|zD 11<|zJ 7 ((xs.length:Int) <1) (fun h1=>?_) fun h1=>?_
 ·
  exfalso;omega
 refine zD 5 ?_
 obtain⟨x10,rI⟩:=zG xs 0
 refine iW eV 1 lJ rI<|jl 0 (mE _ _ rI)<|zD 8<|eN [1,1,1,0,1,0,0] [] (fun(zz:Nat×Int)=>[(0,.slice fL xs.length eV),(2,zI 0),(3,zI zz.2),(4,zI (zz.1:Int))]) (fun(zz:Nat×Int)=>[]) (fun(zz:Nat×Int)=>(1≤zz.1∧zz.1≤xs.length)∧By xs=(xs.drop zz.1).foldl max zz.2) (fun(zz:Nat×Int)=>xs.length-zz.1) (⟨1,x10⟩) ⟨by dsimp only;omega,apP rI⟩ [] ?_
 rintro⟨k,m⟩ hI K1 bF rest
 dsimp only at hI
 refine zD 8<|zJ 15 ((k:Int) <(xs.length:Int)) (fun h2=>?_) fun h2=>?_
 ·
  refine zD 8 ?_
  obtain⟨xY,p7⟩:=zG xs k
  refine iW eV 1 lJ p7<|jl 0 (mE _ _ p7)<|jmx (k:= .i64) (a:=m) (b:=xY)<|zD 4<|ja ((k:Int)+1) (by omega)<|zD 2<|bI bF (⟨k+1,(max m xY)⟩) ⟨by dsimp only;omega,by rw[hI.2,gu p7];rfl⟩ (by dsimp only;omega) [] (Sub.refl _)
 refine zD 8<|aF q0 (zI m) [] [] [] (Sub.refl _) ⟨_,_,rfl,rfl,by rw[hI.2,eQ (by omega)];rfl,rfl⟩
theorem amt{v:Value}{xs:List Int}{ro:Nat→Option Obj}(hl:bK ro v 1 cS xs)(hn:0 <xs.length∧xs.length≤1000000):dL zT 28 [v] ro (.agg ⟨[zI (tS xs),zI (By xs)]⟩):=by
 obtain⟨fL,rD,rC,eV,rfl,tH,lJ,mE⟩:=hl
 refine bC au [] [] bn<|zD 2<|jn fun b2=>zD 4<|jp (vs:=[.slice fL xs.length eV]) [] [] (fun aA hs hZ=>aLk ((show bK _ _ _ _ _ from ⟨fL,rD,rC,eV,rfl,tH,lJ,mE⟩).up hs) (by omega))<|zD 1<|jp (vs:=[.slice fL xs.length eV]) [] [] (fun aA hs hZ=>aLl ((show bK _ _ _ _ _ from ⟨fL,rD,rC,eV,rfl,tH,lJ,mE⟩).up hs) (by omega))<|jd 4 [0]<|aF q0 (.agg ⟨[zI (tS xs),zI (By xs)]⟩) [0] [] [] (Sub.refl _) ⟨_,_,rfl,rfl,rfl,rfl⟩
theorem ajv{x:ay}{ro:Nat→Option Obj}:dL zT 27 [.agg ⟨[zI x.past,zI x.w0,zI x.w1,zI x.w2,zI x.w3,zI x.gone,zI x.new,zI x.af]⟩] ro (.bool true):=by
 refine bC au [] [] bn<|zD 2<|jn fun b1=>zD 7<|aF q0 (.bool true) [] [] [] (Sub.refl _) ⟨_,_,rfl,rfl,rfl,rfl⟩
theorem acu{f:Nat}{x:ay}{c2 c3 c4:Value}{ro:Nat→Option Obj}(hf:ro f=some (.cells ⟨[c0,c1,c2,c3,c4,c5,c6,c7,zI gone,zI new,zI af,c11,vt]⟩ 124 (0,0))):dL zT 51 [zP f,.agg ⟨[zI x.past,zI x.w0,zI x.w1,zI x.w2,zI x.w3,zI x.gone,zI x.new,zI x.af]⟩] ro (.bool (eY gone new af x)):=by
 refine bC au [] [] bn<|zD 2<|jn fun b3=>jd 10 [0]<|jl (b:=f) (off:=0) (m:=13) (vs:=[c0,c1,c2,c3,c4,c5,c6,c7,zI gone,zI new,zI af,c11,vt]) 8 ⟨_,_,_,.inl hf,rfl⟩<|zD 2<|js 8 (decide (x.gone≤gone)) (fun h1=>?_) (fun h1=>?_)
 ·
  have gD:=h1
  replace gD:=of_decide_eq_true gD
  refine jd 6 [0]<|jl (b:=f) (off:=0) (m:=13) (vs:=[c0,c1,c2,c3,c4,c5,c6,c7,zI gone,zI new,zI af,c11,vt]) 9 ⟨_,_,_,.inl hf,rfl⟩<|zD 3<|js 18 (decide (x.new≤new)) (fun h2=>?_) (fun h2=>?_)
  ·
   have mz:=h2
   replace mz:=of_decide_eq_true mz
   refine jd 6 [0]<|jl (b:=f) (off:=0) (m:=13) (vs:=[c0,c1,c2,c3,c4,c5,c6,c7,zI gone,zI new,zI af,c11,vt]) 10 ⟨_,_,_,.inl hf,rfl⟩<|zD 5<|aF q0 (.bool (decide (x.af≤af))) [] [] [] (Sub.refl _) ⟨_,_,rfl,rfl,by simp_all[eY]<;>(intros;omega),rfl⟩
  have mz:=h2
  replace mz:=of_decide_eq_false mz
  refine zD 12<|aF q0 (.bool false) [] [] [] (Sub.refl _) ⟨_,_,rfl,rfl,by simp_all[eY]<;>(intros;omega),rfl⟩
 have gD:=h1
 replace gD:=of_decide_eq_false gD
 refine zD 22<|aF q0 (.bool false) [] [] [] (Sub.refl _) ⟨_,_,rfl,rfl,by simp_all[eY]<;>(intros;omega),rfl⟩
theorem aqr{f i:Int}{ro:Nat→Option Obj}(hi:0≤i∧i≤8):dL zT 100 [.int .u8 f,zI i] ro (.bool (hasB f i)):=by
 refine bC au [] [] bn<|zD 8<|jsr (k:= .u8) (k':= .i64) (a:=f) (b:=i) 85 (by omega)<|zD 5<|aF q0 (.bool (decide ((RM .u8 (aQ .u8 f i) 1)=1))) [] [] [] (Sub.refl _) ⟨_,_,rfl,rfl,rfl,rfl⟩
theorem ap9{p0 p1 p2 p3:Int}{ro:Nat→Option Obj}:dL zT 104 [.agg ⟨[zI p0,zI p1,zI p2,zI p3]⟩] ro (zI (vq [p0,p1,p2,p3])):=by
 refine bC au [] [] bn<|zD 2<|jn fun b1=>jd 13 [0]<|eN [1,1,0,1,0,0] [] (fun(zz:Nat×Int)=>[(2,zI 0),(3,zI zz.2),(6,.agg ⟨[zI p0,zI p1,zI p2,zI p3]⟩),(7,zI (zz.1:Int))]) (fun(zz:Nat×Int)=>[]) (fun(zz:Nat×Int)=>zz.1≤4∧zz.2=vq ([p0,p1,p2,p3].take zz.1)∧(0≤zz.2∧zz.2≤zz.1)) (fun(zz:Nat×Int)=>4-zz.1) (⟨0,0⟩) ⟨by omega,rfl,by omega⟩ [] ?_
 rintro⟨k,n⟩ hI K1 bF rest
 dsimp only at hI
 refine zD 5<|zJ 8 ((k:Int) <4) (fun h1=>?_) fun h1=>?_
 ·
  refine zD 6 ?_
  obtain⟨x9,Za⟩:=zG ([p0,p1,p2,p3]:List Int) k (show k <4 from by omega)
  refine jai (l:=[zI p0,zI p1,zI p2,zI p3]) (k:Int) 4 1 false (by omega) (v:= zI x9) (show nth _ (k*1)=_ by rw[Nat.mul_one];exact aMJ Za) ?_
  refine zD 7<|zJ 11 (x9>0) (fun h2=>?_) fun h2=>?_
  ·
   refine zD 3<|ja (n+1) (by omega)<|zD 3<|ja ((k:Int)+1) (by omega)<|zD 2<|bI bF (⟨k+1,(n+1)⟩) ⟨by dsimp only;omega,by rw[IF Za,if_pos (by assumption),hI.2.1],by dsimp only;omega⟩ (by dsimp only;omega) [] (Sub.refl _)
  refine zD 3<|ja ((k:Int)+1) (by omega)<|zD 2<|bI bF (⟨k+1,n⟩) ⟨by dsimp only;omega,by rw[IF Za,if_neg (by assumption),hI.2.1,Int.add_zero],by dsimp only;omega⟩ (by dsimp only;omega) [] (Sub.refl _)
 refine zD 8<|aF q0 (zI n) [] [] [] (Sub.refl _) ⟨_,_,rfl,rfl,by rw[hI.2.1,show k=4 by omega];rfl,rfl⟩
theorem qT{α:Type}{xs:List α}{a:Option Addr}{b o:Nat}(h:∀k,k <xs.length→a=some ⟨b,o,none⟩)(hn:a.isNone=true):xs=[]:=by
 cases xs with
 |nil=>rfl
 |cons x l=>rw[h 0 (by simp)] at hn;cases hn
theorem aoQ{v:Value}{ro:Nat→Option Obj}(hl:bK ro v 1 py xs)(hn:xs.length≤1000):eG zT 227 [v] ro [] (fun r Y=>∃L,az r 1 9 py xs L∧Y=L):=by
 obtain⟨fL,rD,rC,eV,rfl,tH,lJ,mE⟩:=hl
 refine bC au [] [] bn<|zD 8<|jsn 111 (a:=fL) (l:=xs.length) (c:=eV)<|zD 1<|js 4 (fL.isNone) (fun h1=>?_) (fun h1=>?_)
 ·
  refine zD 6<|aF q0 (zS) [] [] [] (Sub.refl _) ⟨_,_,rfl,rfl,[],by rw[qT lJ (by assumption)];exact az.nil _ _ _,rfl⟩
 refine zD 4<|jn fun b5=>zD 1<|k8 (sz:=1) (ps:=[]) (qs:=xs) (enc:=py) (w:= .slice fL xs.length eV) [0] [] [] (cD (b:=b5) (T:=9)) (fun s he _=>⟨fL,rD,rC,eV,rfl,lJ,fun i p hp=>(mE i p hp).ext he⟩) (fun p _=>ar rfl) (by simp<;>omega) (fun v7 L7 iI=>?_)
 rw[List.nil_append] at iI
 obtain⟨QA,Qw,OX⟩:=iI.form
 subst OX
 refine zD 3<|aF q0 ((.slice QA (xs).length Qw)) [] [0] L7 (Sub.refl _) ⟨_,_,rfl,rfl,_,iI,rfl⟩
theorem aM5{f:Nat}{fs:List iD}{c2 c3 c4:Value}{ro:Nat→Option Obj}(hx:bK ro c11 3 wo fs)(hf:ro f=some (.cells ⟨[c0,c1,c2,c3,c4,c5,c6,c7,zI gone,zI new,zI af,c11,vt]⟩ 124 (0,0)))(hn:fs.length≤7):dL zT 25 [zP f] ro (.int .u8 (IntKind.u8.wrap (dE .u8 1 (fs.length:Int)-1))):=by
 obtain⟨qxa,qxb,qxo,qxc,rfl,qxk,qxh,qxl⟩:=hx
 refine bC au [] [] bn<|zD 10<|jl (b:=f) (off:=0) (m:=13) (vs:=[c0,c1,c2,c3,c4,c5,c6,c7,zI gone,zI new,zI af,.slice qxa fs.length qxc,vt]) 11 ⟨_,_,_,.inl hf,rfl⟩<|zD 1<|jsh (k:= .u8) (k':= .i64) (a:=1) (b:=(fs.length:Int)) 85 (by omega)<|zD 4<|aF q0 (.int .u8 (IntKind.u8.wrap ((dE .u8 1 (fs.length:Int))-1))) [] [] [] (Sub.refl _) ⟨_,_,rfl,rfl,rfl,rfl⟩
theorem yb{r:Value}{A B:Prop}(h:(r= .bool true∧A)∨(r= .bool false∧B)):∃c,r= .bool c∧(c=true→A)∧(c=false→B):=by
 rcases h with ⟨rfl,h⟩| ⟨rfl,h⟩
 ·exact⟨true,rfl,fun _=>h,nofun⟩
 exact⟨false,rfl,nofun,fun _=>h⟩
def uv(w f t:ByteArray)(i:Nat):ByteArray:=w.extract 0 (i:Int).toNat++t++w.extract ((i:Int)+(f.size:Int)).toNat w.size
def pR(w f t:ByteArray)(i:Nat):Option ByteArray:=if sE (w.extract i w.size) f=true∧1≤(uv w f t i).size∧(uv w f t i).size≤12 then some (uv w f t i) else none
def uL(w f t:ByteArray)(k:Nat):List ByteArray:=(List.range k).filterMap (pR w f t)
def Cp(w f t:ByteArray):List ByteArray:=uL w f t (w.size+1)
theorem Bc(w f t:ByteArray)(k:Nat):uL w f t (k+1)=uL w f t k++(pR w f t k).toList:=by
 rw[uL,uL,List.range_succ,List.filterMap_append]
 cases h:pR w f t k<;>simp[h]
theorem aaK(w f t:ByteArray)(h:k≤n):∃l,uL w f t n=uL w f t k++l:=by
 induction n with
 |zero=>exact⟨[],by rw[show k=0 by omega];simp⟩
 |succ n ih=>
  by_cases hk:k=n+1
  ·exact⟨[],by rw[hk];simp⟩
  obtain⟨l,hl⟩:=ih (by omega)
  exact⟨l++(pR w f t n).toList,by rw[Bc,hl,List.append_assoc]⟩
theorem No{w:ByteArray}(hk:k <n)(h:pR w f t k=some x):(uL w f t n)[(uL w f t k).length]?=some x∧(uL w f t (k+1)).length=(uL w f t k).length+1:=by
 obtain⟨l,hl⟩:=aaK w f t (k:=k+1) (n:=n) hk
 rw[hl,Bc,h]
 constructor
 ·rw[List.append_assoc,List.getElem?_append_right (Nat.le_refl _)];simp
 simp
theorem Ui{w:ByteArray}(h:pR w f t k=none):(uL w f t (k+1)).length=(uL w f t k).length:=by
 rw[Bc,h];simp
abbrev ann(l:List ByteArray):(Nat→Option Obj)→Nat→List Value→Cells→Prop:=fun _ k vs LL=>∃x,l[k]?=some x∧vs=[.string x]∧LL=[]
theorem xm.ext{w:ByteArray}(h:xm w)(i j:Nat):xm (w.extract i j):=by
 intro b hb
 refine h b ?_
 have:(w.extract i j).data.toList=(w.data.extract i j).toList:=by simp[ByteArray.data_extract]
 rw[this,Array.toList_extract] at hb
 simp only[List.extract_eq_drop_take] at hb
 exact List.mem_of_mem_drop (List.mem_of_mem_take hb)
theorem xm.app{v w:ByteArray}(h:xm v)(k:xm w):xm (v++w):=by
 intro b hb
 have:(v++w).data.toList=v.data.toList++w.data.toList:=by simp[ByteArray.data_append]
 rw[this] at hb
 exact(List.mem_append.1 hb).elim (h b) (k b)
theorem Io{w:ByteArray}(hw:xm w)(ht:xm t):xm (uv w f t i):=((hw.ext _ _).app ht).app (hw.ext _ _)
theorem aa8{a:ByteArray}(h:sE a b=true):b.size≤a.size:=by
 unfold sE at h
 simp only[Bool.and_eq_true,decide_eq_true_eq] at h
 omega
def ab4(w:ByteArray):Bool:=decide ((1:Int)≤w.size)&&decide ((w.size:Int)≤12)
theorem Q5{w:ByteArray}(h:sE (w.extract (k:Int).toNat w.size) f=false):pR w f t k=none:=if_neg fun x=>by
 have h1:sE (w.extract k w.size) f=false:=h
 rw[h1] at x;cases x.1
theorem WN{w:ByteArray}(h:ab4 (uv w f t k)=false):pR w f t k=none:=if_neg fun x=>by
 simp only[ab4,Bool.and_eq_false_iff,decide_eq_false_iff_not] at h
 omega
theorem Q4{w:ByteArray}(h:sE (w.extract (k:Int).toNat w.size) f=true)(h2:ab4 (uv w f t k)=true):pR w f t k=some (uv w f t k):=if_pos ⟨h,by
 simp only[ab4,Bool.and_eq_true,decide_eq_true_eq] at h2
 omega⟩
theorem Q3{w:ByteArray}(h:w.size≤100∧f.size≤100∧t.size≤100):(uv w f t k).size≤1000:=by
 simp only[uv,ByteArray.size_append,ByteArray.size_extract];omega
theorem aim{w:ByteArray}(hk:k≤w.size)(h:pR w f t k=some (uv w f t k)):(uL w f t k).length <(Cp w f t).length∧(Cp w f t)[(uL w f t k).length]?=some (uv w f t k):=by
 have:=(No (n:=w.size+1) (by omega) h).1
 exact⟨(List.getElem?_eq_some_iff.1 this).1,this⟩
theorem S4(w:ByteArray)(a b:Nat):(w.extract a b).size≤w.size:=by simp;omega
theorem afw(w:ByteArray)(i:Nat)(h:i≤w.size):(w.extract i w.size).size=w.size-i:=by simp
theorem aiZ{w:ByteArray}{b3:Nat}{ro:Nat→Option Obj}(g1:ro b1=some (.cells ⟨[.string w]⟩ 283 (0,0)))(g2:ro b2=some (.cells ⟨[.string f]⟩ 9 (0,0)))(g3:ro b3=some (.cells ⟨[.string t]⟩ 9 (0,0)))(hw:xm w)(ht:xm t)(hn:w.size≤100∧f.size≤100∧t.size≤100):ItX zT 269 [] [zP b1,zP b2,zP b3] ro [] (Cp w f t).length (ann (Cp w f t)) (fun Z=>Z=[]):=by
 intro bl aA Inv Stop hs hy B hB
 replace g1:=hs _ _ g1
 replace g2:=hs _ _ g2
 replace g3:=hs _ _ g3
 refine bC au [.l B] [] bn<|zD 2<|jl (b:=b1) (off:=0) (m:=1) (vs:=[.string w]) 0 ⟨_,_,_,.inl g1,rfl⟩<|zD 1<|ja ((w.size:Int)+1) (by omega)<|zD 3<|eN [1,0,0] [] (fun(zz:Nat×Cells)=>[(0,(.func (.yield bl) #[] #[])),(1,zP b1),(2,zP b2),(3,zP b3),(9,zI ((w.size:Int)+1)),(10,zI (zz.1:Int))]) (fun(zz:Nat×Cells)=>[.l zz.2]) (fun(zz:Nat×Cells)=>zz.1≤w.size+1∧Inv (uL w f t zz.1).length zz.2) (fun(zz:Nat×Cells)=>w.size+1-zz.1) (⟨0,B⟩) ⟨by dsimp only;omega,hB⟩ [0] ?_
 rintro⟨k,B⟩ hI K1 bF rest
 dsimp only at hI
 refine zD 5<|zJ 11 ((k:Int) <((w.size:Int)+1)) (fun h1=>?_) fun h1=>?_
 ·
  refine zD 11 ?_
  have xK:=S4 w (k:Int).toNat w.size
  refine zD 1<|jl (b:=b1) (off:=0) (m:=1) (vs:=[.string w]) 0 ⟨_,_,_,.inl g1,rfl⟩<|zD 1<|jtL (b:=w) (lo:=(k:Int)) (by omega)<|jl (b:=b2) (off:=0) (m:=1) (vs:=[.string f]) 0 ⟨_,_,_,.inl g2,rfl⟩<|jp (vs:=[.string (w.extract (k:Int).toNat w.size),.string f]) [] [] (fun aA hs hZ=>(X6 (by omega)))<|zD 2<|js 18 (!(sE (w.extract (k:Int).toNat w.size) f)) (fun h2=>?_) (fun h2=>?_)
  ·
   try simp only[zB] at h2
   refine zD 3<|ja ((k:Int)+1) (by omega)<|zD 2<|bI bF (⟨k+1,B⟩) ⟨by dsimp only;omega,by dsimp only;rw[Ui (Q5 (by assumption))];exact hI.2⟩ (by dsimp only;omega) [0] (Sub.refl _)
  try simp only[zB] at h2
  refine zD 3 ?_
  have Hc:=S4 w 0 (k:Int).toNat
  have Zf:=S4 w ((k:Int)+(f.size:Int)).toNat w.size
  have he4:(w.extract 0 (k:Int).toNat++t).size=_:=ByteArray.size_append
  have hpr:sE (w.extract (k:Int).toNat w.size) f=true:=by assumption
  have Qb:=aa8 hpr
  rw[afw _ _ (by omega)] at Qb
  refine zD 1<|jl (b:=b1) (off:=0) (m:=1) (vs:=[.string w]) 0 ⟨_,_,_,.inl g1,rfl⟩<|zD 1<|jtH (b:=w) (hi:=(k:Int)) (by omega)<|jl (b:=b3) (off:=0) (m:=1) (vs:=[.string t]) 0 ⟨_,_,_,.inl g3,rfl⟩<|jsa (a:=(w.extract 0 (k:Int).toNat)) (b:=t) 283 (by omega)<|jl (b:=b1) (off:=0) (m:=1) (vs:=[.string w]) 0 ⟨_,_,_,.inl g1,rfl⟩<|zD 1<|jl (b:=b2) (off:=0) (m:=1) (vs:=[.string f]) 0 ⟨_,_,_,.inl g2,rfl⟩<|zD 1<|ja ((k:Int)+(f.size:Int)) (by omega)<|jtL (b:=w) (lo:=((k:Int)+(f.size:Int))) (by omega)<|jsa (a:=((w.extract 0 (k:Int).toNat)++t)) (b:=(w.extract ((k:Int)+(f.size:Int)).toNat w.size)) 283 (by omega)<|zD 5<|jp (vs:=[.string (((w.extract 0 (k:Int).toNat)++t)++(w.extract ((k:Int)+(f.size:Int)).toNat w.size)),zI 1,zI 12]) [] [] (fun aA hs hZ=>(N0 (Io (i:=k) hw ht) (Q3 hn)))<|zD 1<|js 33 (ab4 (uv w f t k)) (fun h3=>?_) (fun h3=>?_)
  ·
   have hry:=Q4 (t:=t) hpr (by assumption)
   have Qa:=aim (by omega) hry
   refine zD 2<|jyc [0] (hy (uL w f t k).length _ [] B aA Qa.1 ⟨_,Qa.2,rfl,rfl⟩ hI.2 (Sub.refl _)) (Sub.refl _) ?_
   intro v4 Y4 hy4
   obtain⟨c4,rfl,hc4,hd4⟩:=yb hy4
   refine zD 3<|js 38 (!c4) (fun h5=>?_) (fun h5=>?_)
   ·
    try simp only[zB] at h5
    refine zD 2<|aF q0 (.tuple ⟨[]⟩) [] [0] Y4 (Sub.refl _) ⟨_,_,rfl,rfl,[],Y4,rfl,rfl,.inr (hd4 (by simp_all))⟩
   try simp only[zB] at h5
   refine zD 3<|ja ((k:Int)+1) (by omega)<|zD 2<|bI bF (⟨k+1,Y4⟩) ⟨by dsimp only;omega,by dsimp only;rw[(No (n:=k+1) (by omega) hry).2];exact hc4 (by assumption)⟩ (by dsimp only;omega) [0] (Sub.refl _)
  refine zD 9<|ja ((k:Int)+1) (by omega)<|zD 2<|bI bF (⟨k+1,B⟩) ⟨by dsimp only;omega,by dsimp only;rw[Ui (WN (by assumption))];exact hI.2⟩ (by dsimp only;omega) [0] (Sub.refl _)
 refine zD 2<|aF q0 (.tuple ⟨[]⟩) [] [0] B (Sub.refl _) ⟨_,_,rfl,rfl,[],B,rfl,rfl,.inl (by have:=hI.2;rwa[show k=w.size+1 by omega] at this)⟩
def pW(rs:List cG):List (ByteArray×ByteArray):=rs.flatMap fun r=>[(r.f,r.t),(r.t,r.f)]
abbrev eP2(x:ByteArray×ByteArray):List Value:=[.string x.1,.string x.2]
def jI(w:ByteArray)(ps:List (ByteArray×ByteArray)):List ByteArray:=ps.flatMap fun p=>Cp w p.1 p.2
def sb(w:ByteArray)(rs:List cG):List ByteArray:=jI w (pW rs)
theorem II:∀(rs:List cG),(pW rs).length=2*rs.length
 | []=>rfl
 |r::rs=>by have:=II rs;simp only[pW,List.flatMap_cons,List.length_append,List.length_cons,List.length_nil] at this ⊢;omega
theorem NH:∀ {rs:List cG} {k q:Nat} {r:cG} {p:ByteArray×ByteArray},rs[k]?=some r→[(r.f,r.t),(r.t,r.f)][q]?=some p→(pW rs)[2*k+q]?=some p
 | [],_,_,_,_,h,_=>by simp at h
 |r::rs,0,q,_,p,h,h2=>by
  simp only[List.getElem?_cons_zero,Option.some.injEq] at h;subst h
  simp only[pW,List.flatMap_cons,Nat.mul_zero,Nat.zero_add]
  rw[List.getElem?_append_left (by have:=(List.getElem?_eq_some_iff.1 h2).1;exact this)];exact h2
 |r::rs,k+1,q,_,p,h,h2=>by
  have:=NH (rs:=rs) (k:=k) (by simpa using h) h2
  simp only[pW,List.flatMap_cons]
  rw[List.getElem?_append_right (by simp;omega)]
  rw[show 2*(k+1)+q- [(r.f,r.t),(r.t,r.f)].length=2*k+q by simp;omega];exact this
theorem Ep{w:ByteArray}{ps:List (ByteArray×ByteArray)}(h:ps[k]?=some p):jI w (ps.take (k+1))=jI w (ps.take k)++Cp w p.1 p.2:=by
 rw[jI,fq h,List.flatMap_append];simp[jI]
theorem ah5{w:ByteArray}{ps:List (ByteArray×ByteArray)}{j:Nat}(h:ps[k]?=some p) (hx:(Cp w p.1 p.2)[j]?=some x):(jI w (ps.take k)).length+j <(jI w ps).length∧(jI w ps)[(jI w (ps.take k)).length+j]?=some x:=by
 have e:jI w ps=jI w (ps.take (k+1))++jI w (ps.drop (k+1)):=by rw[jI,jI,jI,←List.flatMap_append,List.take_append_drop]
 have hj:=(List.getElem?_eq_some_iff.1 hx).1
 have:(jI w ps)[(jI w (ps.take k)).length+j]?=some x:=by
  rw[e,Ep h,List.append_assoc,List.getElem?_append_right (by omega),List.getElem?_append_left (by omega),show (jI w (ps.take k)).length+j-(jI w (ps.take k)).length=j by omega]
  exact hx
 exact⟨(List.getElem?_eq_some_iff.1 this).1,this⟩
theorem aiG{r:cG}{q:Nat}(h:rh r)(hp: [(r.f,r.t),(r.t,r.f)][q]?=some p):xm p.2∧(p.1.size≤100∧p.2.size≤100):=by
 have:=List.mem_of_getElem? hp
 have h1:=h.f1;have h2:=h.t1
 simp only[List.mem_cons,List.not_mem_nil,or_false] at this
 rcases this with rfl|rfl
 ·exact⟨h.tl,by dsimp only;omega,by dsimp only;omega⟩
 exact⟨h.fl,by dsimp only;omega,by dsimp only;omega⟩
theorem Xo{w:ByteArray}{ro:Nat→Option Obj}:eG zT 252 [.string w,.string f,.string t] ro [] (fun r Y=>∃b3 b4 b5,r= .func (.func 269) ⟨[]⟩ ⟨[zP b3,zP b4,zP b5]⟩∧Y=[(b3,.cells ⟨[.string w]⟩ 283 (0,0)),(b4,.cells ⟨[.string f]⟩ 9 (0,0)),(b5,.cells ⟨[.string t]⟩ 9 (0,0))]):=by
 refine bC au [] [] bn<|zD 2<|jn fun b3=>jn fun b4=>jn fun b5=>zD 8<|aF q0 (.func (.func 269) ⟨[]⟩ ⟨[zP b3,zP b4,zP b5]⟩) [] [2,1,0] ((b3,.cells ⟨[.string w]⟩ 283 (0,0))::((b4,.cells ⟨[.string f]⟩ 9 (0,0))::[(b5,.cells ⟨[.string t]⟩ 9 (0,0))])) (Sub.refl _) ⟨_,_,rfl,rfl,_,_,_,rfl,rfl⟩
theorem apI{w:ByteArray}{ro:Nat→Option Obj}(hl:bK ro vl 2 jO rs):eG zT 228 [.string w,vl] ro [] (fun r Y=>∃b2 b3,r= .func (.func 251) ⟨[]⟩ ⟨[zP b3,zP b2]⟩∧Y=[(b2,.cells ⟨[.string w]⟩ 283 (0,0)),(b3,.cells ⟨[vl]⟩ 36 (0,0))]):=by
 obtain⟨fL,rD,rC,eV,rfl,tH,lJ,mE⟩:=hl
 refine bC au [] [] bn<|zD 2<|jn fun b2=>jn fun b3=>zD 8<|aF q0 (.func (.func 251) ⟨[]⟩ ⟨[zP b3,zP b2]⟩) [] [1,0] ((b2,.cells ⟨[.string w]⟩ 283 (0,0))::[(b3,.cells ⟨[.slice fL rs.length eV]⟩ 36 (0,0))]) (Sub.refl _) ⟨_,_,rfl,rfl,_,_,rfl,rfl⟩
theorem aiY{w:ByteArray}{ro:Nat→Option Obj}(g1:ro b1=some (.cells ⟨[vl]⟩ 36 (0,0)))(hl:bK ro vl 2 jO rs)(hR:∀r∈rs,rh r)(g2:ro b2=some (.cells ⟨[.string w]⟩ 283 (0,0)))(hw:xm w)(hn:w.size≤100)(hq:rs.length≤100):ItX zT 251 [] [zP b1,zP b2] ro [] (sb w rs).length (ann (sb w rs)) (fun Z=>Z=[]):=by
 intro bl aA Inv Stop hs hy B hB
 replace g1:=hs _ _ g1
 replace g2:=hs _ _ g2
 replace hl:=hl.up hs
 obtain⟨fL,rD,rC,eV,rfl,tH,lJ,mE⟩:=hl
 refine ajA au [.l B] [] bn<|zD 2<|jn fun b3=>jf [0] [(b3,.cells ⟨[(.func (.yield bl) #[] #[])]⟩ 355 (0,0))] fun AM bW jC=>zD 3<|jl (b:=b1) (off:=0) (m:=1) (vs:=[.slice fL rs.length eV]) 0 ⟨_,_,_,.inl (bW _ _ g1),rfl⟩<|zD 4<|qB<|aze [1,1,0,0] [] (fun(zz:Nat×(List Nat)×Cells)=>[(2,zP b2),(3,zP b3),(9,.slice fL rs.length eV),(10,zI (rs.length:Int)),(11,zI (zz.1:Int))]) (fun(zz:Nat×(List Nat)×Cells)=>[.l (mk zz.2.1),.l zz.2.2]) (fun(zz:Nat×(List Nat)×Cells)=>(zz.2.1.map ek)) (fun(zz:Nat×(List Nat)×Cells)=>zz.1≤rs.length∧Inv (jI w ((pW rs).take (2*zz.1))).length zz.2.2) (fun(zz:Nat×(List Nat)×Cells)=>rs.length-zz.1) (⟨0,[],B⟩) ⟨by dsimp only;omega,hB⟩ [0,1] ?_
 rintro⟨k,ui,B⟩ hI K1 bF rest
 dsimp only at hI
 refine zD 5<|zJ 12 ((k:Int) <(rs.length:Int)) (fun h4=>?_) fun h4=>?_
 ·
  refine zD 6 ?_
  obtain⟨YS,ajO⟩:=zG rs k
  refine iW eV 2 lJ ajO<|jl 0 ((mE _ _ ajO).ext (ud bW))<|jn fun b5=>jd 14 [0,0,0,0,0]<|jn fun dW=>zD 4<|aze [1,1,0,0,1,1,0,0,1,1,0,0] [K1] (fun(zz:Nat×(List Nat)×Cells)=>[(2,zP b2),(3,zP b3),(9,.slice fL rs.length eV),(10,zI (rs.length:Int)),(11,zI (k:Int)),(25,.slice (some ⟨dW,0,none⟩) 2 2),(26,zI 2),(27,zI (zz.1:Int))]) (fun(zz:Nat×(List Nat)×Cells)=>[.l (mk zz.2.1),.l zz.2.2,.b dW (.cells ⟨[.string YS.f,.string YS.t,.string YS.t,.string YS.f]⟩ 356 (0,0))]) (fun(zz:Nat×(List Nat)×Cells)=>(zz.2.1.map ek)) (fun(zz:Nat×(List Nat)×Cells)=>zz.1≤2∧Inv (jI w ((pW rs).take (2*k+zz.1))).length zz.2.2) (fun(zz:Nat×(List Nat)×Cells)=>2-zz.1) (⟨0,ui,B⟩) ⟨by dsimp only;omega,hI.2⟩ [2,3,0] ?_
  rintro⟨q,ui,B⟩ hJ K2 mL rest
  dsimp only at hJ
  refine zD 5<|zJ 28 ((q:Int) <2) (fun h5=>?_) fun h5=>?_
  ·
   refine zD 6 ?_
   obtain⟨CZ,zv⟩:=zG ([(YS.f,YS.t),(YS.t,YS.f)]:List _) q (show q <2 from by omega)
   refine iW (a:=(some ⟨dW,0,none⟩)) (b:=dW) (off:=0) 2 2 (fun _ _=>rfl) zv<|oV (m:=2) 0 [2] [(dW,.cells ⟨([(YS.f,YS.t),(YS.t,YS.f)].map eP2).flatten⟩ 356 (0,0))] (fun s _ hZ=>wP (hZ _ (.head _)) (by intro p hp;rfl) zv) ?_
   refine jn fun b7=>jd 3 [0] ?_
   have hpx:=NH ajO zv
   have hpk:=aiG (hR _ (List.mem_of_getElem? ajO)) zv
   refine zD 1<|jl (b:=b2) (off:=0) (m:=1) (vs:=[.string w]) 0 ⟨_,_,_,.inl (bW _ _ g2),rfl⟩<|jd 4 [0,0]<|jc (vs:=[.string w,.string CZ.1,.string CZ.2]) [] (Xo) ?_
   rintro _ _ ⟨amk,amj,ami,rfl,rfl⟩
   refine jg 0 [.b amk (.cells ⟨[.string w]⟩ 283 (0,0)),.b amj (.cells ⟨[.string CZ.1]⟩ 9 (0,0)),.b ami (.cells ⟨[.string CZ.2]⟩ 9 (0,0))]<|jf [0,1,2] ((amk,.cells ⟨[.string w]⟩ 283 (0,0))::((amj,.cells ⟨[.string CZ.1]⟩ 9 (0,0))::[(ami,.cells ⟨[.string CZ.2]⟩ 9 (0,0))])) fun ro8 yx hk7=>zD 2<|jrf [] (aiZ (hk7 _ (.head _)) (hk7 _ (.tail _ (.head _))) (hk7 _ (.tail _ (.tail _ (.head _)))) hw hpk.1 ⟨hn,hpk.2⟩) (by rintro _ _ _ _ ⟨_,_,rfl,_⟩;rfl) (fun(zz:Cells)=>[.l zz]) (fun kk=>(fun(zz:Cells)=>Inv ((jI w ((pW rs).take (2*k+q))).length+kk) zz)) (fun jump=>(fun(zz:Cells)=>jump= .ret∧Stop zz)) B (show Inv (_+0) _ from hJ.2) [2] ?_ ?_ ?_
   ·
    rintro bl9 bd9 kk9 vs9 LL9 B ro9 hk9 ar9 hL hs9
    obtain⟨x9,Za,rfl,rfl⟩:=ar9
    have hu:=ah5 hpx Za
    refine zD 3<|jbg<|zD 3<|jl (b:=b3) (off:=0) (m:=1) (vs:=[(.func (.yield bl) #[] #[])]) 0 ⟨_,_,_,.inl (hs9 _ _ (yx _ _ (jC _ (.head _)))),rfl⟩<|zD 1<|jyc [1] (hy ((jI w ((pW rs).take (2*k+q))).length+kk9) _ [] B ro9 hu.1 ⟨_,hu.2,rfl,rfl⟩ hL ((bW.trans yx).trans hs9)) (Sub.refl _) ?_
    intro v10 Zm aNK
    obtain⟨c10,rfl,asy,ass⟩:=yb aNK
    refine zD 2<|js 41 (!c10) (fun O8=>?_) (fun O8=>?_)
    ·
     try simp only[zB] at O8
     refine zD 2<|jys WY (Sub.refl _) .ret Zm ⟨rfl,ass (by simp_all)⟩ [1,0]
    try simp only[zB] at O8
    refine zD 2<|jyn WY (Sub.refl _) Zm (asy (by simp_all)) [1,0]
   ·
    rintro bd9 B Z9 hL hZ9
    subst hZ9
    refine zD 1<|ja ((q:Int)+1) (by omega)<|zD 2<|jnD mL (⟨q+1,(bd9::ui),B⟩) ⟨by dsimp only;omega,by dsimp only;rw[←Nat.add_assoc,Ep hpx,List.length_append];exact hL⟩ (by dsimp only;omega) [[0,4],[2],[5]] yx
   rintro bd9 B Z9 jump hS hZ9
   obtain⟨rfl,hS⟩:=hS
   subst hZ9
   exact jrM qm0.a.w.w.a.m (.tuple ⟨[]⟩) [0,4] [] [1] B (bW.trans yx) ⟨[],B,rfl,rfl,.inr hS⟩
  refine zD 3<|ja ((k:Int)+1) (by omega)<|zD 2<|jnD bF (⟨k+1,ui,B⟩) ⟨by dsimp only;omega,by have:=hJ.2;dsimp only;rwa[show 2*(k+1)=2*k+q by omega]⟩ (by dsimp only;omega) [[0],[1]] (Sub.refl _)
 refine zD 2<|jrM qm0.a.w (.tuple ⟨[]⟩) [0] [] [0] B bW ⟨[],B,rfl,rfl,.inl (by have:=hI.2;rwa[show k=rs.length by omega,List.take_of_length_le (by rw[II];exact Nat.le_refl _)] at this)⟩
instance:LawfulBEq ByteArray where
 eq_of_beq:=fun h=>by rw[Me] at h;exact of_decide_eq_true h
 rfl:=fun {a}=>by rw[Me];exact decide_eq_true rfl
def dd(l:List ByteArray):List ByteArray:=l.foldl (fun a x=>if x∈a then a else a++[x]) []
theorem LJ(l:List ByteArray)(x:ByteArray):dd (l++[x])=if x∈dd l then dd l else dd l++[x]:=by rw[dd,List.foldl_append];rfl
theorem atW(a:List ByteArray):∀b:List ByteArray,∃r,dd (a++b)=dd a++r:=by
 intro b
 induction b generalizing a with
 |nil=>exact⟨[],by simp⟩
 |cons x b ih=>
  obtain⟨r,hr⟩:=ih (a++[x])
  rw[show a++x::b=(a++[x])++b by simp,hr,LJ]
  split
  ·exact⟨r,rfl⟩
  exact⟨x::r,by simp⟩
abbrev kvS:ByteArray→Value:=fun a=> .string a
def mF(m:List ByteArray):List (ByteArray×Value):=m.map fun x=>(x,.bool true)
theorem SX(k:ByteArray):∀(m:List ByteArray) (i:Nat),(rX k (mF m) i).map (·.2)=if k∈m then some (.bool true) else none
 | [],_=>rfl
 |x::m,i=>by
  simp only[mF,List.map_cons,rX]
  by_cases h:k=x
  ·simp[h]
  have:=SX k m (i+1)
  simp only[mF] at this
  simp[h,this]
theorem ayR{k:ByteArray}{m:List ByteArray}:Oa (.bool false) false k (mF m)= .bool (decide (k∈m)):=by
 simp only[Oa,lkM,SX]
 by_cases h:k∈m<;>simp[h]
theorem aor{k:ByteArray}{m:List ByteArray}(h:decide (k∈m)=false):mi k (.bool true) (mF m)=mF (m++[k]):=by
 have h:=of_decide_eq_false h
 have:=SX k m 0
 rw[if_neg h] at this
 simp only[mi]
 cases hf:rX k (mF m) 0 with
 |none=>simp[mF]
 |some x=>rw[hf] at this;cases this
theorem afU(hx:l[k]?=some x) (h:decide (x∈dd (l.take k))=true):dd (l.take (k+1))=dd (l.take k):=by
 rw[fq hx,LJ,if_pos (of_decide_eq_true h)]
theorem Tb(hx:l[k]?=some x) (h:decide (x∈dd (l.take k))=false):dd (l.take (k+1))=dd (l.take k)++[x]:=by
 rw[fq hx,LJ,if_neg (of_decide_eq_false h)]
theorem atX(hx:l[k]?=some x) (h:decide (x∈dd (l.take k))=false):∃r,dd l=dd (l.take k)++[x]++r:=by
 obtain⟨r,hr⟩:=atW (l.take (k+1)) (l.drop (k+1))
 rw[List.take_append_drop,Tb hx h] at hr
 exact⟨r,hr⟩
def MC(rs:List cG)(to:ByteArray):Nat→ByteArray→List ByteArray→List (List ByteArray)
 |0,w,b=>if cH w to=true then [b++[w]] else []
 |n+1,w,b=>(dd (sb w rs)).flatMap fun s=>MC rs to n s (b++[w])
theorem LW{to:ByteArray}:∀ {n:Nat} {w:ByteArray} {b x:List ByteArray},x∈MC rs to n w b→x.length=b.length+n+1
 |0,w,b,x,h=>by
  simp only[MC] at h
  split at h
  ·rw[List.mem_singleton] at h;subst h;simp
  cases h
 |n+1,w,b,x,h=>by
  simp only[MC,List.mem_flatMap] at h
  obtain⟨s,_,h2⟩:=h
  have:=LW h2
  simp at this;omega
theorem ah4{w:ByteArray}(hR:∀r∈rs,rh r)(hw:xm w)(h:x∈sb w rs):xm x∧x.size≤12:=by
 simp only[sb,jI,pW,List.mem_flatMap,Cp,uL,List.mem_filterMap,List.mem_range] at h
 obtain⟨p,⟨r,hr,hp⟩,i,_,hi⟩:=h
 have ht:xm p.2:=by
  simp only[List.mem_cons,List.not_mem_nil,or_false] at hp
  rcases hp with rfl|rfl
  ·exact(hR r hr).tl
  exact(hR r hr).fl
 simp only[pR] at hi
 split at hi
 ·rename_i hc
  cases hi
  exact⟨Io hw ht,hc.2.2⟩
 cases hi
abbrev akR(L:List (List ByteArray)):(Nat→Option Obj)→Nat→List Value→Cells→Prop:=fun _ k vs LL=>∃x v,L[k]?=some x∧vs=[v]∧az v 1 9 py x LL
structure agK(ro:Nat→Option Obj)(bl:Nat)(rs:List cG)(to:ByteArray)(many bm bt bu br bg:Nat)(vl:Value):Prop where
 m:ro bm=some (.cells ⟨[zI (many:Int)]⟩ 3 (0,0))
 t:ro bt=some (.cells ⟨[.string to]⟩ 283 (0,0))
 y:ro bu=some (.cells ⟨[.func (.yield bl) #[] #[]]⟩ 322 (0,0))
 r:ro br=some (.cells ⟨[vl]⟩ 36 (0,0))
 g:ro bg=some (.cells ⟨[.func (.func 226) ⟨[]⟩ ⟨[zP bm,zP bt,zP bu,zP br,zP bg]⟩]⟩ 323 (0,0))
 l:bK ro vl 2 jO rs
theorem agK.up{ro aL:Nat→Option Obj}{to:ByteArray}(h:agK ro bl rs to many bm bt bu br bg vl)(hs:Sub ro aL):agK aL bl rs to many bm bt bu br bg vl:=
 ⟨hs _ _ h.m,hs _ _ h.t,hs _ _ h.y,hs _ _ h.r,hs _ _ h.g,h.l.up hs⟩
def anO(bl:Nat)(rs:List cG)(to:ByteArray)(many bm bt bu br bg:Nat)(vl:Value)(L:List (List ByteArray))(Inv:Nat→Cells→Prop)(Stop:Cells→Prop)(n:Nat):Prop:=
 ∀(ro:Nat→Option Obj) (w:ByteArray) (b:List ByteArray) (v:Value) (p:Nat) (B:Cells),agK ro bl rs to many bm bt bu br bg vl→bK ro v 1 py b→b.length+n=many→xm w→w.size≤100→Part L p (MC rs to n w b)→Inv p B→YO zT bl ro L.length (akR L) Inv Stop→
  eG zT 226 [.string w,v,zP bm,zP bt,zP bu,zP br,zP bg] ro B (fun r Y=>∃c,r= .bool c∧(c=true→Inv (p+(MC rs to n w b).length) Y)∧(c=false→Stop Y))
theorem apK{w:ByteArray}{b:List ByteArray}{v:Value}{p:Nat}{B:Cells}{to:ByteArray}{L:List (List ByteArray)}{Inv:Nat→Cells→Prop}{Stop:Cells→Prop}{ro:Nat→Option Obj}(ih:∀m,m <n→anO bl rs to many bm bt bu br bg vl L Inv Stop m)(hR:∀r∈rs,rh r)(hq:rs.length≤100)(Vp:many≤100)(O0:agK ro bl rs to many bm bt bu br bg vl)(hb:bK ro v 1 py b)(hbn:b.length+n=many)(hw:xm w)(rJ:w.size≤100)(hP:Part L p (MC rs to n w b))(hB:Inv p B)(hy:YO zT bl ro L.length (akR L) Inv Stop):eG zT 226 [.string w,v,zP bm,zP bt,zP bu,zP br,zP bg] ro B (fun r Y=>∃c,r= .bool c∧(c=true→Inv (p+(MC rs to n w b).length) Y)∧(c=false→Stop Y)):=by
 obtain⟨gm,gt,gy,gl,gg,hl⟩:=id O0
 obtain⟨fL,rD,rC,eV,rfl,tH,lJ,mE⟩:=hl
 obtain⟨axQ,aLF,aLB,axP,rfl,aLD,aLE,aLC⟩:=hb
 refine ajA au [.l B] [] bn<|zD 2<|jn fun b9=>zD 4<|jc (vs:=[.slice axQ b.length axP]) [] (aoQ (show bK _ _ _ _ _ from ⟨axQ,aLF,aLB,axP,rfl,aLD,aLE,aLC⟩) (by first|omega| (simp only[List.length_set,List.length_append,List.length_cons,List.length_nil];omega))) ?_
 rintro v14 L14 ⟨_,Sf,rfl⟩
 refine zD 1<|jn fun b16=>k8 (sz:=1) (ps:=b) (qs:=[w]) (enc:=py) (w:= .slice (some ⟨b16,0,none⟩) 1 1) [1] [0] [(b16,.cells ⟨([w].map py).flatten⟩ 9 (0,0))] (Sf) (fun s _ hZ=>cb [w] (hZ _ (.head _)) (by intro p hp;rfl)) (fun p _=>ar rfl) (by simp only[List.length_cons,List.length_nil];omega) (fun v17 L17 Sd=>?_)
 obtain⟨za,y8,OY⟩:=Sd.form
 subst OY
 refine jn fun rY=>jd 7 [0,0]<|jl (b:=bm) (off:=0) (m:=1) (vs:=[zI (many:Int)]) 0 ⟨_,_,_,.inl gm,rfl⟩<|zD 2<|zJ 21 (((b++[w]).length:Int)>(many:Int)) (fun h1=>?_) fun h1=>?_
 ·
  refine zD 2 ?_
  obtain rfl:n=0:=by simp only[List.length_append,List.length_cons,List.length_nil] at*;omega
  refine zD 2<|jl (b:=bt) (off:=0) (m:=1) (vs:=[.string to]) 0 ⟨_,_,_,.inl gt,rfl⟩<|zD 2<|js 25 (!(cH w to)) (fun h2=>?_) (fun h2=>?_)
  ·
   have mz:=h2
   try simp only[zB] at mz
   refine jd 7 [3]<|jrM qm0 (.bool true) [] [3] [4] B (Sub.refl _) ⟨_,rfl,(fun _=>by rw[show MC rs to 0 w b=[] from if_neg (by simp_all)];exact hB),nofun⟩
  have mz:=h2
  try simp only[zB] at mz
  have adW:MC rs to 0 w b=[b++[w]]:=if_pos (by simp_all)
  have Ze:=Part.get (i:=0) (x:=b++[w]) hP (by rw[adW];rfl)
  refine jl (b:=bu) (off:=0) (m:=1) (vs:=[(.func (.yield bl) #[] #[])]) 0 ⟨_,_,_,.inl gy,rfl⟩<|jd 1 [0]<|jyc [1,4] (hy p [(.slice za ((b++[w])).length y8)] L17 B ro Ze.1 ⟨_,_,Ze.2,rfl,Sd⟩ hB (Sub.refl _)) (Sub.refl _) ?_
  intro v28 Y28 aNI
  obtain⟨c28,rfl,aQp,aQc⟩:=yb aNI
  refine jd 4 [3]<|jrM qm0 (.bool c28) [] [3] [0] Y28 (Sub.refl _) ⟨_,rfl,(fun h=>by rw[adW];exact aQp h),aQc⟩
 refine zD 3 ?_
 obtain⟨m,rfl⟩:∃m,n=m+1:=⟨n-1,by simp only[List.length_append,List.length_cons,List.length_nil] at*;omega⟩
 refine zD 1<|jmk kvS fun r30 L30 aAn=>jn fun Qp=>jd 5 [0]<|jf [2,0,3] ((rY,.cells ⟨[(.slice za ((b++[w])).length y8)]⟩ 111 (0,0))::((Qp,.cells ⟨[(.map (some r30))]⟩ 325 (0,0))::L17)) (fun ro5 G4 hk4=>?_)
 have u2:=Sd.nv hk4.tail.tail
 replace O0:=O0.up G4
 replace hy:=hy.up G4
 refine zD 1<|jl (b:=br) (off:=0) (m:=1) (vs:=[.slice fL rs.length eV]) 0 ⟨_,_,_,.inl (G4 _ _ gl),rfl⟩<|jc (vs:=[.string w,.slice fL rs.length eV]) [] (apI ((show bK _ _ _ _ _ from ⟨fL,rD,rC,eV,rfl,tH,lJ,mE⟩).up G4)) ?_
 rintro _ _ ⟨amm,aml,rfl,rfl⟩
 refine jg 0 [.b amm (.cells ⟨[.string w]⟩ 283 (0,0)),.b aml (.cells ⟨[.slice fL rs.length eV]⟩ 36 (0,0))]<|jf [0,1] ((amm,.cells ⟨[.string w]⟩ 283 (0,0))::[(aml,.cells ⟨[.slice fL rs.length eV]⟩ 36 (0,0))]) fun ro8 yx hk7=>zD 2<|jrf [] (aiY (hk7 _ (.tail _ (.head _))) (O0.l.up yx) hR (hk7 _ (.head _)) hw rJ hq) (by rintro _ _ _ _ ⟨_,_,rfl,_⟩;rfl) (fun(zz:Bool×Cells×Cells)=>[.b b9 (.cells ⟨[.bool zz.1]⟩ 4 (0,0)),.l zz.2.1,.l zz.2.2]) (fun kk=>(fun(zz:Bool×Cells×Cells)=>Inv (p+((dd ((sb w rs).take kk)).flatMap fun s=>MC rs to m s (b++[w])).length) zz.2.2∧j6 r30 kvS (mF (dd ((sb w rs).take kk))) zz.2.1)) (fun jump=>(fun(zz:Bool×Cells×Cells)=>jump= .ret∧(zz.1=false∧Stop zz.2.2))) (⟨false,L30,B⟩) ⟨hB,aAn⟩ [2,0,3] ?_ ?_ ?_
 ·
  rintro bl9 bd9 kk9 vs9 LL9 ⟨rv,Lm,B⟩ ro9 hk9 ar9 hL hs9
  obtain⟨x9,Za,rfl,rfl⟩:=ar9
  have hue:=ah4 hR hw (List.mem_of_getElem? Za)
  refine zD 3<|jbg<|zD 4<|jl (b:=Qp) (off:=0) (m:=1) (vs:=[(.map (some r30))]) 0 ⟨_,_,_,.inl (hs9 _ _ (yx _ _ (hk4 _ (.tail _ (.head _))))),rfl⟩<|zD 1<|jlu (kv:=kvS) (F:=(mF (dd ((sb w rs).take kk9)))) (r:=r30) (K:=283) x9 (.bool false) false [2] Lm (UZ (T:=283) (by kernel_rfl)) (fun s _ hZ=>hL.2.has hZ)<|jw 37 (.bool (decide (x9∈(dd ((sb w rs).take kk9))))) ayR<|zD 1<|js 37 (decide (x9∈(dd ((sb w rs).take kk9)))) (fun Zk=>?_) (fun Zk=>?_)
  ·
   refine zD 2<|jyn WY (Sub.refl _) ⟨rv,Lm,B⟩ ⟨by rw[afU Za (by assumption)];exact hL.1,by rw[afU Za (by assumption)];exact hL.2⟩ [0,1,2,3]
  have sQ:decide (x9∈dd ((sb w rs).take kk9))=false:=by assumption
  obtain⟨rr,hrr⟩:=atX Za sQ
  have azX:=Part.flat (G:=fun s=>MC rs to m s (b++[w])) hP hrr
  refine zD 4<|jl (b:=Qp) (off:=0) (m:=1) (vs:=[(.map (some r30))]) 0 ⟨_,_,_,.inl (hs9 _ _ (yx _ _ (hk4 _ (.tail _ (.head _))))),rfl⟩<|zD 1<|jmu (kv:=kvS) (F:=(mF (dd ((sb w rs).take kk9)))) (r:=r30) (K:=283) 2 x9 (.bool true) (UZ (T:=283) (by kernel_rfl)) hL.2 fun aFx adI=>zD 3<|jl (b:=bg) (off:=0) (m:=1) (vs:=[.func (.func 226) ⟨[]⟩ ⟨[zP bm,zP bt,zP bu,zP br,zP bg]⟩]) 0 ⟨_,_,_,.inl (hs9 _ _ (yx _ _ (G4 _ _ gg))),rfl⟩<|zD 1<|jl (b:=rY) (off:=0) (m:=1) (vs:=[(.slice za ((b++[w])).length y8)]) 0 ⟨_,_,_,.inl (hs9 _ _ (yx _ _ (hk4 _ (.head _)))),rfl⟩<|jc (vs:=[.string x9,(.slice za ((b++[w])).length y8),zP bm,zP bt,zP bu,zP br,zP bg]) [3] (ih m (by omega) _ _ _ _ (p+((dd ((sb w rs).take kk9)).flatMap fun s=>MC rs to m s (b++[w])).length) _ (O0.up (yx.trans hs9)) (u2.up (yx.trans hs9)) (by simp only[List.length_append,List.length_cons,List.length_nil];omega) hue.1 (by omega) azX hL.1 (hy.up (yx.trans hs9))) ?_
  rintro _ Y43 ⟨c43,rfl,aQm,aP9⟩
  refine zD 2<|js 44 (!c43) (fun AU=>?_) (fun AU=>?_)
  ·
   try simp only[zB] at AU
   refine jd 6 [3]<|jys WY (Sub.refl _) .ret ⟨false,aFx,Y43⟩ ⟨rfl,rfl,aP9 (by simp_all)⟩ [2,3,1,0]
  try simp only[zB] at AU
  refine zD 2<|jyn WY (Sub.refl _) ⟨rv,aFx,Y43⟩ ⟨by rw[Tb Za sQ,List.flatMap_append,List.length_append,←Nat.add_assoc];have:=aQm (by simp_all);simpa using this,by rw[Tb Za sQ,←aor sQ];exact adI⟩ [2,3,1,0]
 ·
  rintro bd9 ⟨rv,Lm,B⟩ Z9 hL hZ9
  subst hZ9
  refine jd 5 [2]<|jrM qm0.a.a.m (.bool true) [0] [1] [3] B (G4.trans yx) ⟨_,rfl,(fun _=>by have:=hL.1;rwa[List.take_of_length_le (Nat.le_refl _)] at this),nofun⟩
 rintro bd9 ⟨rv,Lm,B⟩ Z9 jump hS hZ9
 obtain⟨rfl,hS⟩:=hS
 obtain⟨rfl,hS⟩:=hS
 subst hZ9
 exact jrM qm0.a.a.m (.bool false) [0] [1] [3] B (G4.trans yx) ⟨_,rfl,nofun,fun _=>hS⟩
end Go.L

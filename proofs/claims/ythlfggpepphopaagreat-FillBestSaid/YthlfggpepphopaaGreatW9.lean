/- Part 9 of the library of this proof. -/
import Derived.Test.YthlfggpepphopaaGreatW8
set_option linter.all false
set_option maxHeartbeats 4000000
set_option maxRecDepth 100000
namespace Go.Vc
open Go.Proofs Go.Proofs.Tryz
theorem sX {b:Bk} (hb:BkOk b) {s:Stt} (h:dn b.atoms s):0≤s.done∧s.done≤18014398509481984:=by
 obtain ⟨⟨h0,h1⟩,h2,h3⟩:=h
 obtain ⟨k,hk⟩:∃k:Nat,s.atom=k:=⟨s.atom.toNat,by omega⟩
 have hkl:k < b.atoms.length:=by omega
 have:=hb.tight _ (List.getElem_mem hkl)
 rw [hk,br hkl] at h3
 omega
theorem sM {b:Bk} (hb:BkOk b) (k:Int):-18014398509481984≤fX b.atoms k∧fX b.atoms k≤36028797018963968:=by
 unfold fX
 split
 ·rename_i h
  obtain ⟨n,rfl⟩:∃n:Nat,k=n:=⟨k.toNat,by omega⟩
  have hn:n < b.atoms.length:=by omega
  have:=hb.tight _ (List.getElem_mem hn)
  rw [br hn]; omega
 ·omega
theorem AZ {b:Bk} (hb:BkOk b) (s:Stt) (area:Int):-1152921504606846976≤mN b.atoms s area∧mN b.atoms s area≤2305843009213693952:=by
 unfold mN lP
 split
 ·split
  ·rename_i h
   have h1:=sM hb (s.atom - 1)
   obtain ⟨n,hn⟩:∃n:Nat,s.atom=n:=⟨s.atom.toNat,by omega⟩
   have hnl:n < b.atoms.length:=by omega
   have:=hb.tight _ (List.getElem_mem hnl)
   rw [hn] at h1 ⊢
   rw [br hnl]; omega
  ·omega
 ·omega
theorem nS {l:List Atm} {s:Stt} {kept shift body:Int}:kB l s kept shift body≤l.length:=by
 unfold kB
 split
 ·rename_i h
  have:=zD (ez l s kept shift body) (l.length - s.atom.toNat)
  have:=h.1
  omega
 ·omega
theorem By (ah:Fd→Fd→Bool→Bool):∀(xs:List Fd) (d:Fd),(ew ah xs d).1=d∨(ew ah xs d).1∈xs:=by
 have key:∀(xs:List Fd) (p:Fd×Bool),(xs.foldl (fe ah) p).1=p.1∨(xs.foldl (fe ah) p).1∈xs:=by
  intro xs
  induction xs with
  | nil=>intro p; exact .inl rfl
  | cons x xs ih =>
    intro p
    rw [List.foldl_cons]
    rcases ih (fe ah p x) with h | h
    ·rw [h]
     unfold fe
     split
     ·exact .inr (by simp)
     ·exact .inl rfl
    ·exact .inr (by simp [h])
 exact fun xs d=>key xs (d,false)
theorem AX {xs:List Fd} (h:xs≠[]) (d:Fd):(ew gS xs d).1∈xs:=by
 obtain ⟨x,xs,rfl⟩:∃x l,xs=x::l:=by cases xs with
  | nil=>exact absurd rfl h
  | cons x l=>exact ⟨x,l,rfl⟩
 unfold ew
 rw [List.foldl_cons]
 have:fe gS (d,false) x=(x,true):=by simp [fe,gS]
 rw [this]
 have key:∀(xs:List Fd) (p:Fd×Bool),(xs.foldl (fe gS) p).1=p.1∨(xs.foldl (fe gS) p).1∈xs:=by
  intro xs
  induction xs with
  | nil=>intro p; exact .inl rfl
  | cons x xs ih =>
    intro p
    rw [List.foldl_cons]
    rcases ih (fe gS p x) with h | h
    ·rw [h]; unfold fe
     split
     ·exact .inr (by simp)
     ·exact .inl rfl
    ·exact .inr (by simp [h])
 rcases key xs (x,true) with h | h
 ·rw [h]; simp
 ·simp [h]
theorem qQ {b:List Brk} {i fit:Int} (h:eS b i fit) (hf:fit≤(b.length:Int) - 1):∃c:Nat,sy b i fit=c∧i < c∧(c:Int)≤fit:=by
 obtain ⟨_,h1,h2,h3⟩:=h
 have mem:∀x∈(btw b (i+1) fit).map (kZ b),∃c:Nat,x.i=c∧i < c∧(c:Int)≤fit:=fun x hx=>by
  obtain ⟨k,hk,rfl⟩:=List.mem_map.1 hx
  unfold btw sF at hk
  rw [List.mem_range'_1] at hk
  exact ⟨k,rfl,by omega,by omega⟩
 unfold sy
 split
 ·refine mem _ (AX ?_ _)
  intro e
  have:=congrArg List.length e
  simp [btw,sF] at this
  omega
 ·rename_i hn
  rcases By fY ((btw b (i+1) fit).map (kZ b)) xB with h | h
  ·exact absurd (show jO b (i+1) fit < 0 by unfold jO; rw [h]; decide) hn
  ·exact mem _ h
theorem WxJ.set {b:Bk} {K:af} {ix:Nat} {x:Wx} {σ:af} {vh vf vl:V} (h:WxJ b K ix x σ vh vf vl) (x':Wx) (h1:x'.hs=x.hs) (h2:x'.fs=x.fs) (h3:x'.ls=x.ls):WxJ b K ix x' (upd σ ix (cI b x' vh vf vl)) vh vf vl:=by
 have k2:aY K ix ix≠none:=fun h=>(aH.1 h).1 rfl
 exact ⟨Vc.ag,h1 ▸ h.oh.ab k2,h2 ▸ h.of.ab k2,h3 ▸ h.ol.ab k2,h.hf,h.hl,h.fl,h.sub.aC h.no,h.no⟩
def du (b:Bk) (x:Wx):Int:=mN b.atoms x.s (x.body - x.shift)
def dE (b:Bk) (x:Wx):Int:=kB b.atoms x.s (du b x) x.shift x.body
def uR (b:Bk) (x:Wx):Int:=sy b.brks x.s.atom (dE b x)
def qK (b:Bk) (x:Wx) (kept:Int) (cut:Nat):Wx:=(x.add (bR b x kept (cut - x.s.atom.toNat))).put (dM b.atoms b.fls x.s cut kept x.shift x.body).1
def yg (b:Bk) (x:Wx) (kept:Int) (cut:Nat):Sta:=⟨⟨cut,0,decide ((b.brks.getD cut ⟨0,0,0⟩).forced≠0)⟩,(dM b.atoms b.fls x.s cut kept x.shift x.body).2⟩
def dX (b:Bk) (x:Wx):Wx:=if eS b.brks x.s.atom (dE b x) then qK b { x with kind:=1 } (du b x) (uR b x).toNat else qw b { x with kind:=1 }
def fo (b:Bk) (x:Wx):Sta:=if eS b.brks x.s.atom (dE b x) then yg b { x with kind:=1 } (du b x) (uR b x).toNat else tE b { x with kind:=1 }
theorem Eb (b:Bk) (hb:BkOk b) (x:Wx) (hm:dn b.atoms x.s) (hx:x.fs.length≤1000000) (hxl:x.ls.length≤1000000) (hh:0≤x.high∧x.high≤1125899906842624) (hbd:0≤x.body∧x.body≤1125899906842624)
 (hsh:0≤x.shift∧x.shift≤1125899906842624) {K σ:af} {i1:Nat} {vh vf vl:V} (hJ:WxJ b K i1 x σ vh vf vl) :
 ax prog 45 [.ptr i1 0 0] σ fun r σ'=>∃vf' vl',r=bf (fo b x)∧WxJ b K i1 (dX b x) σ' vh vf' vl':=by
 refine e45.r (by simp [c45]) ?_
 have hs:=aa.refl σ
 have hbk:bw b=.agg [aI b.nodes,vI b.w,vI b.h,bt b.atoms,aF b.fls,vI b.height,bG b.brks]:=rfl
 have a1:=hJ.row
 rw [cI] at a1
 obtain ⟨ch,sh⟩:=hJ.oh.vc
 obtain ⟨cf,sf⟩:=hJ.of.vc
 obtain ⟨cl,sl⟩:=hJ.ol.vc
 have hd:=sX hb hm
 have hk:=AZ hb x.s (x.body - x.shift)
 have hlen:=hb.len
 have hbl:=hb.brk
 have hKc:=E1 b.atoms hb.at' x.s (x.body - x.shift)
 have hRc:=DZ b.atoms hb.at' x.s (by omega) (du b x) x.shift x.body hk ⟨by omega,by omega⟩
 have hCc:=Iu b.brks (by omega) x.s.atom (dE b x)
 have hrl:dE b x≤b.atoms.length:=nS
 have hcr:eS b.brks x.s.atom (dE b x)→∃c:Nat,uR b x=c∧x.s.atom < c∧(c:Int)≤dE b x:=fun h=>qQ h (by omega)
 have hXk:du b x=mN b.atoms x.s (x.body - x.shift):=rfl
 rw [←hXk] at hKc hk
 have hXr:dE b x=kB b.atoms x.s (du b x) x.shift x.body:=rfl
 rw [←hXr] at hRc
 have hXc:uR b x=sy b.brks x.s.atom (dE b x):=rfl
 rw [←hXc] at hCc
 have r1:inR .i64 (x.body - x.shift):=ak (by omega) (by omega)
 rw [bh] at hKc hRc
 unfold dX fo
 generalize du b x=kept at *
 generalize dE b x=reach at *
 generalize uR b x=cut at *
 refine ad.mix 8 ?_
 apply sR;simp only [go_sem,seval,c45]
 refine ae fun i2 σ2 s2 a2 f2=>?_
 have n12:=ao a1 f2
 replace a1:=s2 _ _ a1
 have z2:=hs.none f2
 replace hs:=hs.trans s2
 have k2:K i2=none:=hJ.sub.none f2
 have hJ2:=hJ.lZ s2 f2 a2
 simp only [go_sem,seval,a1,hbk,fi,r1]
 refine Go.cp rfl rfl rfl hKc ?_
 apply sG;simp only [go_sem,seval,a1,hbk,CY]
 refine Go.cp rfl rfl rfl hRc ?_
 apply sG;simp only [go_sem,seval]
 refine Go.cp rfl rfl rfl hCc ?_
 have hJs:=hJ2.set { x with kind:=1 } rfl rfl rfl
 rw [cI] at hJs
 by_cases hok:eS b.brks x.s.atom reach
 ·obtain ⟨c,rfl,h1,h2⟩:=hcr hok
  rw [decide_eq_true hok,if_pos hok,if_pos hok,if_pos hok,Int.toNat_natCast]
  apply sG;simp only [go_sem,seval,a1]
  generalize hq1:upd σ2 i1 _=τ1 at *
  have hw:ax prog 72 [.ptr i1 0 0,vI kept,vI c] τ1 fun r σ'=>∃vf' vl',r=bf (yg b { x with kind:=1 } kept c)∧WxJ b (upd K i2 ⟨27,4,[.agg [vI 0,vI 0, .bool false, .aM]]⟩) i1 (qK b { x with kind:=1 } kept c) σ' vh vf' vl':=B3 b hb { x with kind:=1 } hm (by show x.s.done≤_; omega) hx hxl (by show 0≤x.high∧x.high≤_; omega) kept hk (by show 0≤x.shift∧x.shift≤_; omega) c (by show x.s.atom≤_; omega) (by omega) hJs
  generalize yg b { x with kind:=1 } kept c=Z at *
  generalize qK b { x with kind:=1 } kept c=Y at *
  refine ad.jt rfl rfl rfl hw ?_
  rintro r σ' ⟨vf',vl',rfl,hJ'⟩
  have c2:=hJ'.sub _ _ ag
  apply sR;simp only [go_sem,seval,c2,bf,aL,aN]
  exact ⟨_,_,aa.refl _,Wk.refl (aa.refl _) _,vf',vl',rfl,hJ'.drop k2 _⟩
 ·rw [decide_eq_false hok,if_neg hok,if_neg hok,if_neg hok]
  apply sG;simp only [go_sem,seval,a1]
  generalize hq1:upd σ2 i1 _=τ1 at *
  have hw:ax prog 71 [.ptr i1 0 0,vI kept,vI 0] τ1 fun r σ'=>∃vf' vl',r=bf (tE b { x with kind:=1 })∧WxJ b (upd K i2 ⟨27,4,[.agg [vI 0,vI 0, .bool false, .aM]]⟩) i1 (qw b { x with kind:=1 }) σ' vh vf' vl':=Fu b hb { x with kind:=1 } hm (by show x.s.done≤_; omega) hx hxl (by show 0≤x.high∧x.high≤_; omega) kept 0 hJs
  generalize tE b { x with kind:=1 }=Z at *
  generalize qw b { x with kind:=1 }=Y at *
  refine ad.jt rfl rfl rfl hw ?_
  rintro r σ' ⟨vf',vl',rfl,hJ'⟩
  have c2:=hJ'.sub _ _ ag
  apply sR;simp only [go_sem,seval,c2,bf,aL,aN]
  exact ⟨_,_,aa.refl _,Wk.refl (aa.refl _) _,vf',vl',rfl,hJ'.drop k2 _⟩
open Go.Proofs Go.Proofs.Tryz
def qk (body:Int) (f:Flo):Bool:=decide (f.y+f.h≤body)
def tW (b:Bk) (x:Wx):Wx:={ (x.put (b.fls.takeWhile (qk x.body))) with kind:=2 }
def mZ (b:Bk) (x:Wx):Sta:=⟨⟨0,0,false⟩,b.fls.dropWhile (qk x.body)⟩
theorem wZ {P:List Flo} {j:Nat} (h:j≤P.length):∀σ,cD σ 7 (aF P) none (some (.int .i64 j)) none=some (aF (P.take j)):=fun σ=>by
 have h1:(j:Int)≤P.length:=by omega
 simp only [aF,cD,bz,List.length_map]
 rw [if_pos ⟨Int.le_refl _,by omega,h1,Int.le_refl _,trivial⟩]
 simp [List.map_take]
theorem ue {α:Type} {p:α→Bool}:∀ {l:List α} {j:Nat},(∀x∈l.take j,p x=true)→(∀x,l[j]?=some x→p x=false)→j≤l.length→l.takeWhile p=l.take j∧l.dropWhile p=l.drop j
 | [],j,_,_,h=>by simp
 | x::l,0,_,h2,_=>by
   have:=h2 x rfl
   simp [List.takeWhile_cons,List.dropWhile_cons,this]
 | x::l,j+1,h1,h2,h=>by
   have hx:=h1 x (by simp)
   have ih:=ue (p:=p) (l:=l) (j:=j) (fun y hy=>h1 y (by simp [hy])) (fun y hy=>h2 y (by simpa using hy)) (by simpa using h)
   simp [List.takeWhile_cons,List.dropWhile_cons,hx,ih.1,ih.2]
theorem B7 (b:Bk) (hb:BkOk b) (x:Wx) (hxl:x.ls.length≤1000000) (hh:0≤x.high∧x.high≤1125899906842624) {K σ:af} {i1:Nat} {vh vf vl:V} (hJ:WxJ b K i1 x σ vh vf vl) :
 ax prog 41 [.ptr i1 0 0] σ fun r σ'=>∃vl',r=bf (mZ b x)∧WxJ b K i1 (tW b x) σ' vh vf vl':=by
 refine e41.r (by simp [c41]) ?_
 have hs:=aa.refl σ
 have hbk:bw b=.agg [aI b.nodes,vI b.w,vI b.h,bt b.atoms,aF b.fls,vI b.height,bG b.brks]:=rfl
 have a1:=hJ.row
 rw [cI] at a1
 obtain ⟨ch,sh⟩:=hJ.oh.vc
 obtain ⟨cf,sf⟩:=hJ.of.vc
 obtain ⟨cl,sl⟩:=hJ.ol.vc
 have hfn:=hb.flen
 have hlp:=ey b.fls
 unfold tW mZ
 refine ad.mix 5 ?_
 apply sR;simp only [go_sem,seval,c41]
 refine ae fun i2 σ2 s2 a2 f2=>?_
 have n12:=ao a1 f2
 replace a1:=s2 _ _ a1
 have z2:=hs.none f2
 replace hs:=hs.trans s2
 have k2:K i2=none:=hJ.sub.none f2
 have hJ2:=hJ.lZ s2 f2 a2
 simp only [go_sem,seval,a1,hbk,Ao]
 refine ad.fE (fun st=>∃j:Nat,j≤b.fls.length∧b.fls.takeWhile (qk x.body)=b.fls.take j∧b.fls.dropWhile (qk x.body)=b.fls.drop j∧st.σ=σ2∧st.s 0=.ptr i1 0 0∧st.s 2=.ptr i2 0 0∧st.s 3=vI j∧st.s 4=aF b.fls)
  (fun m st=>∃j:Nat,j≤b.fls.length∧m=b.fls.length - j∧(∀f∈b.fls.take j,qk x.body f=true)∧st.σ=σ2∧st.s 0=.ptr i1 0 0∧st.s 2=.ptr i2 0 0∧st.s 3=vI j∧st.s 4=aF b.fls) b.fls.length ?_ ?_ ?_
 ·exact ⟨0,by omega,rfl,by simp,rfl,rfl,rfl,rfl,rfl⟩
 ·rintro m ⟨S,τ⟩ ⟨j,hj,rfl,hall,hσ,t0,t2,t3,t4⟩
  simp only at hσ t0 t2 t3 t4
  subst hσ
  refine ad.mix 5 ?_
  by_cases hlt:j < b.fls.length
  ·have q:((j:Int) < b.fls.length)=True:=eq_true (by omega)
   have hidx:=fun σ=>iW (σ:=σ) hlt
   have hfl:aP b.fls[j]=.agg [vI b.fls[j].node,vI b.fls[j].side,vI b.fls[j].anchor,vI b.fls[j].x,vI b.fls[j].y,vI b.fls[j].w,vI b.fls[j].h]:=rfl
   obtain ⟨_,⟨o1,o2⟩,_,o3,o4⟩:=hb.flo _ (List.getElem_mem hlt)
   have htk:b.fls.take (j+1)=b.fls.take j++[b.fls[j]]:=List.take_succ_eq_append_getElem hlt
   have hget:b.fls[j]?=some b.fls[j]:=List.getElem?_eq_getElem hlt
   generalize b.fls[j]=f at *
   have r1:inR .i64 (f.y+f.h):=ak (by omega) (by omega)
   have r2:inR .i64 ((j:Int)+1):=ak (by omega) (by omega)
   by_cases hle:f.y+f.h≤x.body
   ·have q1:(f.y+f.h≤x.body)=True:=eq_true hle
    apply sR;simp only [go_sem,seval,t0,t2,t3,t4,hlp,q,hidx,hfl,a1,r1,q1,r2]
    refine ⟨_,?_,j+1,by omega,rfl,?_,by simp [t0,t2,t4]⟩
    ·omega
    ·rw [htk]
     intro g hg
     rcases List.mem_append.1 hg with hg | hg
     ·exact hall g hg
     ·simp at hg; subst hg; exact decide_eq_true hle
   ·have q1:(f.y+f.h≤x.body)=False:=eq_false hle
    apply sR;simp only [go_sem,seval,t0,t2,t3,t4,hlp,q,hidx,hfl,a1,r1,q1]
    obtain ⟨e1,e2⟩:=ue hall (fun g hg=>by rw [hget] at hg; cases hg; exact decide_eq_false hle) hj
    exact ⟨j,hj,e1,e2,by simp [t0,t2,t3,t4]⟩
  ·have q:((j:Int) < b.fls.length)=False:=eq_false (by omega)
   apply sR;simp only [go_sem,seval,t0,t2,t3,t4,hlp,q,a1]
   obtain ⟨e1,e2⟩:=ue hall (fun g hg=>by rw [List.getElem?_eq_none (by omega)] at hg; cases hg) hj
   exact ⟨j,hj,e1,e2,by simp [t0,t2,t3,t4]⟩
 ·rintro ⟨S,τ⟩ ⟨j,hj,e1,e2,hσ,t0,t2,t3,t4⟩
  simp only at hσ t0 t2 t3 t4
  subst hσ
  rw [e1,e2]
  have hsl:=wZ hj
  have hsl2:=og hj
  refine ad.mix 5 ?_
  apply sR;simp only [BB,seval,←decide_not,bp,eJ,aD,cL,eR,ee,eC,dN,cq,j9,gF,bE,fQ,dJ,fp,cQ,bz,iJ,dr,cN,cc,eff,j7,dd,bT,jR,dS,ck,dF,de,lQ,binBV,bY,dk,V.cells,V.stays,Orc.nothing,t0,t2,t3,t4,hsl]
  refine ad.call rfl rfl rfl (lI b (b.fls.take j) (by rw [List.length_take]; omega) x hxl (fun f hf=>by
   obtain ⟨_,⟨o1,o2⟩,_,o3,o4⟩:=hb.flo f (List.mem_of_mem_take hf)
   exact ak (by omega) (by omega)) hJ2) ?_
  rintro r σ' ⟨vl',hJ'⟩
  have c2:=hJ'.sub _ _ ag
  have b1:=hJ'.row
  have n12':i1≠i2:=n12
  rw [cI] at b1
  generalize x.put (b.fls.take j)=y at *
  have hJs:=hJ'.set { y with kind:=2 } rfl rfl rfl
  rw [cI] at hJs
  apply sR;simp only [BB,seval,←decide_not,bp,eJ,aD,cL,eR,ee,eC,dN,cq,j9,gF,bE,fQ,dJ,fp,cQ,bz,iJ,dr,cN,cc,eff,j7,dd,bT,jR,dS,ck,dF,de,lQ,binBV,bY,dk,V.cells,V.stays,Orc.nothing,t0,t2,t3,t4,b1,hsl2]
  generalize hq1:upd σ' i1 _=τ1 at *
  replace c2:=hJs.sub _ _ ag
  refine ad.av rfl rfl rfl (vD (b.fls.drop j) (by rw [List.length_drop]; omega) _) ?_
  apply sR;simp only [go_sem,seval,c2,t2,aL,aN]
  exact ⟨_,_,aa.refl _,Wk.refl (aa.refl _) _,vl',rfl,hJs.drop k2 _⟩
open Go.Proofs Go.Proofs.Tryz
def bx.lt:bx→bx
 | .seq a _=>a
 | c=>c
def bx.bd:bx→bx
 | .block _ a=>a
 | c=>c
structure BkFull (b:Bk):Prop extends BkOk b where
 pL:eA b.nodes
 isb:isB b.nodes=true
 h1:1≤b.h
 h2:b.h≤1099511627776
 nod:∀a∈b.atoms,0≤a.node∧a.node < b.nodes.length
def bB (b:Bk) (s:Stt):Kp:=if b.atoms=[] then ⟨[],0,b.h⟩ else pO b.nodes (atG b.atoms (min s.atom ((b.atoms.length:Int) - 1))).node b.h
def hdS (l:List Nd) (w:Int) (p:List Frg×Int) (a:Int):List Frg×Int:=(p.1++[⟨a, -1,0,0,p.2,w,(stA l a).head⟩],p.2+(stA l a).head)
def hdK (l:List Nd) (w:Int) (L:List Int):List Frg×Int:=L.foldl (hdS l w) ([],0)
theorem xH (l:List Nd) (w:Int) (L:List Int) (a:Int):hdK l w (L++[a])=hdS l w (hdK l w L) a:=by
 unfold hdK; rw [List.foldl_append]; rfl
theorem zG (l:List Nd) (w:Int):∀(L:List Int),(hdK l w L).1.length=L.length:=by
 have key:∀(L:List Int) (p:List Frg×Int),(L.foldl (hdS l w) p).1.length=p.1.length+L.length:=by
  intro L
  induction L with
  | nil=>intro p; rfl
  | cons a L ih=>intro p; rw [List.foldl_cons,ih]; simp [hdS]; omega
 intro L
 have:=key L ([],0)
 simpa [hdK] using this
theorem Ad (l:List Nd) (w:Int) (L:List Int) (h:∀a∈L,0≤(stA l a).head) (j:Nat):0≤(hdK l w (L.take j)).2∧(hdK l w (L.take j)).2≤(hdK l w L).2:=by
 have key:∀(L:List Int),(∀a∈L,0≤(stA l a).head)→∀(p:List Frg×Int),p.2≤(L.foldl (hdS l w) p).2:=by
  intro L
  induction L with
  | nil=>intro _ p; exact Int.le_refl _
  | cons a L ih =>
    intro h p
    rw [List.foldl_cons]
    have h1:=ih (fun x hx=>h x (by simp [hx])) (hdS l w p a)
    have h2:=h a (by simp)
    simp only [hdS] at h1 ⊢
    omega
 refine ⟨key (L.take j) (fun a ha=>h a (List.mem_of_mem_take ha)) ([],0),?_⟩
 have e:hdK l w L=(L.drop j).foldl (hdS l w) (hdK l w (L.take j)):=by
  rw [hdK,hdK,←List.foldl_append,List.take_append_drop]
 rw [e]
 exact key _ (fun a ha=>h a (List.mem_of_mem_drop ha)) _
theorem qT {l:List Nd} {L:List Int} {h:Int}:∀m,m≤L.length→∀a∈(fw l L h m).heads,a∈L
 | 0,_,a,ha=>by simp [fw] at ha
 | m+1,hm,a,ha=>by
   rw [fw,gQ] at ha
   split at ha
   ·exact qT m (by omega) a ha
   ·simp only [List.mem_append,List.mem_singleton] at ha
    rcases ha with ha | ha
    ·exact qT m (by omega) a ha
    ·rw [ha]
     have hlt:L.length - 1 - m < L.length:=by omega
     have hg:L.getD (L.length - 1 - m) 0=L[L.length - 1 - m]:=by simp [hlt]
     rw [hg]; exact List.getElem_mem hlt
theorem oF {l:List Nd} {L:List Int} {h w:Int}:∀m,(hdK l w (fw l L h m).heads).2=(fw l L h m).high
 | 0=>rfl
 | m+1=>by
   rw [fw,gQ]
   split
   ·exact oF m
   ·simp only [xH,hdS]
    rw [oF m]
structure Lb (b:Bk) (k:Kp):Prop where
 len:k.heads.length≤1000000
 mem:∀a∈k.heads,∃n:Nat,a=n∧n < b.nodes.length
 sum:(hdK b.nodes b.w k.heads).2=k.high
 high:0≤k.high∧k.high≤1099511627776
 body:0≤k.body∧k.body≤1099511627776
theorem na {b:Bk} (hb:BkFull b) (s:Stt):Lb b (bB b s):=by
 have h1:=hb.h1
 have h2:=hb.h2
 have hn:b.nodes.length≤100000:=by have:=hb.pL.1; omega
 unfold bB
 split
 ·exact ⟨by simp,by simp,rfl,by simp,by simp; omega⟩
 ·unfold pO
  split
  ·rename_i hc
   obtain ⟨_,h3,h4⟩:=hc
   generalize (atG b.atoms (min s.atom ((b.atoms.length:Int) - 1))).node=a at *
   have ha:a.toNat < b.nodes.length:=by omega
   have hrg:∀x∈abv b.nodes a.toNat,∃n:Nat,x=n∧n < b.nodes.length:=fun x hx=>by
    obtain ⟨n,h1,h2⟩:=nA ha x hx
    exact ⟨n,h1,by omega⟩
   have hi:=mK hb.isb hrg (by omega:0≤b.h) (abv b.nodes a.toNat).length (Nat.le_refl _)
   have hl:(abv b.nodes a.toNat).length≤b.nodes.length+1:=gH _ _ _
   unfold yA
   exact ⟨by omega,fun x hx=>hrg x (qT _ (Nat.le_refl _) x hx),oF _,by omega,by omega⟩
  ·exact ⟨by simp,by simp,rfl,by simp,by simp⟩
def bW (b:Bk) (s:Stt) (hv:V):Wx:=⟨hv,(bB b s).high,(bB b s).body,s,0,(hdK b.nodes b.w (bB b s).heads).1,[],[],0⟩
theorem BT (b:Bk) (hb:BkFull b) (s:Stt) (hs0:0≤s.atom) (σ:af) :
 ax prog 40 [.rp (bw b),bh s] σ fun r σ'=>∃i1 vh hv,r=.ptr i1 0 0∧WxJ b σ i1 (bW b s hv) σ' vh .aM .aM:=by
 refine e40.r (by simp [c40]) ?_
 have hs:=aa.refl σ
 have hbk:bw b=.agg [aI b.nodes,vI b.w,vI b.h,bt b.atoms,aF b.fls,vI b.height,bG b.brks]:=rfl
 have hsc:(bh s).cells=[vI s.atom,vI s.done, .bool s.free]:=rfl
 have hss:(bh s).stays=true:=rfl
 have hln:=gv b.atoms
 have hlen:=hb.len
 refine ad.mix 11 ?_
 apply sR;simp only [go_sem,seval,c40,hsc,hss]
 refine ae fun i3 σ3 s3 a3 f3=>?_
 have z3:=hs.none f3
 replace hs:=hs.trans s3
 rw [bh] at a3
 simp only [go_sem,seval,a3,hbk]
 refine bo fun i19 σ19 s19 a19 f19=>?_
 have n319:=ao a3 f19
 replace a3:=s19 _ _ a3
 have z19:=hs.none f19
 replace hs:=hs.trans s19
 have hr:=na hb s
 unfold bW
 have hJ0:∀(hv:V) (k:Kp) (τ:af),τ i19=some (cI b ⟨hv,k.high,k.body,s,0,[],[],[],0⟩ .aM .aM .aM)→aa σ τ→WxJ b σ i19 ⟨hv,k.high,k.body,s,0,[],[],[],0⟩ τ .aM .aM .aM:=fun hv k τ h h2 =>
  ⟨h,aS.start,aS.start,aS.start,db.aM _,db.aM _,db.aM _,h2,z19⟩
 have fin:∀(S:Nat→V) (τ:af) (hv:V),dB false hv=some (.int .i64 (bB b s).heads.length)→(∀(j:Nat) (h:j < (bB b s).heads.length) (σ:af),bF σ 1 hv (.int .i64 j)=some (.rp (vI (bB b s).heads[j]))) →
  τ i19=some (cI b ⟨hv,(bB b s).high,(bB b s).body,s,0,[],[],[],0⟩ .aM .aM .aM)→aa σ τ→S 0=.rp (bw b)→S 5=.ptr i19 0 0→S 7=vI 0→S 57=hv→S 58=vI (bB b s).heads.length→S 59=vI 0 →
  ad prog 96 [It.code c40.code.rt.rt.rt.rt.lt.rt.bd,It.inBlock 0,It.code c40.code.rt.rt.rt.rt.rt] ⟨S,τ⟩ fun st=>Ret [.tmp (.t 4)] st fun r σ'=>∃i1 vh hv,r=.ptr i1 0 0∧WxJ b σ i1 ⟨hv,(bB b s).high,(bB b s).body,s,0,(hdK b.nodes b.w (bB b s).heads).1,[],[],0⟩ σ' vh .aM .aM:=by
  intro S τ hv hlL hix h19 hsτ t0 t5 t7 t57 t58 t59
  have hJ:=hJ0 _ _ _ h19 hsτ
  clear hJ0 h19 hsτ hs a3 a19
  generalize bB b s=k at *
  obtain ⟨L,high,body⟩:=k
  obtain ⟨r1,r2,r3,⟨r4,r5⟩,_⟩:=hr
  simp only at r1 r2 r3 r4 r5 hJ hlL hix t58 ⊢
  have hh0:∀a∈L,0≤(stA b.nodes a).head:=fun a ha=>by
   obtain ⟨n,rfl,hn⟩:=r2 a ha
   rw [gZ hn]; exact (gw hb.isb hn).st.head.1
  have a19:=hJ.row
  rw [cI] at a19
  refine ad.mix 60 ?_
  simp only [c40,bx.rt,bx.lt,bx.bd]
  refine ad.loop (fun m st=>∃(j:Nat) (vh:V),j≤L.length∧m=L.length - j∧WxJ b σ i19 ⟨hv,high,body,s,0,(hdK b.nodes b.w (L.take j)).1,[],[],0⟩ st.σ vh .aM .aM∧st.s 0=.rp (bw b)∧st.s 5=.ptr i19 0 0∧st.s 7=vI (hdK b.nodes b.w (L.take j)).2∧st.s 57=hv∧st.s 58=vI L.length∧st.s 59=vI j) L.length ?_ ?_
  ·exact ⟨0, .aM,by omega,rfl,hJ,t0,t5,t7,t57,t58,t59⟩
  ·clear hJ a19 t0 t5 t7 t57 t58 t59
   rintro m ⟨S,τ⟩ ⟨j,vh,hj,rfl,hJ,t0,t5,t7,t57,t58,t59⟩
   simp only at hJ t0 t5 t7 t57 t58 t59
   refine ad.mix 60 ?_
   by_cases hlt:j < L.length
   ·have q:((j:Int) < L.length)=True:=eq_true (by omega)
    obtain ⟨n,hn,hnl⟩:=r2 _ (List.getElem_mem hlt)
    have hidx:=hix j hlt
    have hnd:=fun σ=>gU b.nodes hnl σ
    have gC:=Ad b.nodes b.w L hh0 j
    have hsum1:=Ad b.nodes b.w L hh0 (j+1)
    have hlk:=zG b.nodes b.w (L.take j)
    have hlt2:(L.take j).length=j:=by rw [List.length_take]; omega
    have htk:L.take (j+1)=L.take j++[(n:Int)]:=by rw [List.take_succ_eq_append_getElem hlt,hn]
    have hstep:hdK b.nodes b.w (L.take (j+1))=hdS b.nodes b.w (hdK b.nodes b.w (L.take j)) n:=by rw [htk,xH]
    rw [r3] at gC hsum1
    rw [hstep] at hsum1
    rw [hn] at hidx
    generalize hdK b.nodes b.w (L.take j)=X at *
    obtain ⟨F,y⟩:=X
    simp only [hdS,gZ hnl] at gC hsum1 hlk hJ t7 hstep
    have q1:inR .i64 (y+b.nodes[n].st.head):=ak (by omega) (by omega)
    have q2:inR .i64 ((j:Int)+1):=ak (by omega) (by omega)
    have a19:=hJ.row
    rw [cI] at a19
    obtain ⟨cv,sv⟩:=hJ.oh.vc
    generalize b.nodes[n]=nd at *
    have hs:=aa.refl τ
    apply sR;simp only [go_sem,seval,t0,t5,t7,t57,t58,t59,q,hidx,hnd,Nd.cells,a19,hbk,JO,cv,sv]
    refine bo fun i86 σ86 s86 a86 f86=>?_
    have hJ5:=hJ.mono s86
    obtain ⟨idA,hda,hgr⟩:=x6 hJ5.sub hJ5.no hJ5.row hJ5.oh
    have hfl:(F.map aX).length≤1000000:=by rw [List.length_map]; omega
    generalize hrw:F.map aX=rows at *
    have hb2:(rows.length+1)*57≤140737488355328:=by omega
    simp only [go_sem,seval,hda,dx a86,hb2]
    refine ic fun i87 σ87 s87 a87 f87=>?_
    obtain ⟨b1,hg⟩:=hgr σ87 i87 _ s87 a87 f87
    rw [cI] at b1
    obtain ⟨g1,g2,g3⟩:=hg (cI b ⟨hv,high,body,s,0,F++[⟨n, -1,0,0,y,b.w,nd.st.head⟩],[],[],0⟩ (.own i87 0 (rows.length+1)) .aM .aM)
    simp only [go_sem,seval,b1,t0,t5,t7,t57,t58,t59,cv,sv,q1,q2]
    refine ⟨_,?_,j+1, .own i87 0 (rows.length+1),by omega,rfl,?_,rfl,?_,rfl⟩
    ·omega
    ·rw [hstep]
     rw [List.length_append] at g2
     refine ⟨ag,?_,aS.start,aS.start,(db.aM _).symm,(db.aM _).symm,db.aM _,g1,hJ.no⟩
     show aS _ _ _ _ _ ((F++[_]).map aX)
     rw [List.map_append,hrw]
     exact g2
    ·rw [hstep]
   ·have q:((j:Int) < L.length)=False:=eq_false (by omega)
    have hje:j=L.length:=by omega
    rw [hje,List.take_length] at hJ
    apply sR;simp only [go_sem,seval,t0,t5,t7,t57,t58,t59,q]
    exact ⟨_,_,aa.refl _,Wk.refl (aa.refl _) _,i19,vh,hv,rfl,hJ⟩
 by_cases he:b.atoms=[]
 ·have q:((b.atoms.length:Int) > 0)=False:=by rw [he]; simp
  have hre:bB b s=⟨[],0,b.h⟩:=if_pos he
  simp only [go_sem,seval,a19,a3,fi,hln,hbk,q]
  rw [hre] at fin ⊢
  rw [←hbk] at a19
  refine fin _ _ .aM rfl (fun j h=>by simp at h) a19 hs ?_ ?_ ?_ ?_ ?_ ?_ <;> rfl
 ·have hl0:0 < b.atoms.length:=List.length_pos_iff.2 he
  have q:((b.atoms.length:Int) > 0)=True:=eq_true (by omega)
  have r1:inR .i64 ((b.atoms.length:Int) - 1):=ak (by omega) (by omega)
  obtain ⟨k,hk⟩:∃k:Nat,min s.atom ((b.atoms.length:Int) - 1)=k:=⟨(min s.atom ((b.atoms.length:Int) - 1)).toNat,by omega⟩
  have hkl:k < b.atoms.length:=by omega
  have hidx:=fun σ=>fI (σ:=σ) hkl
  have hre:bB b s=pO b.nodes b.atoms[k].node b.h:=by rw [bB,if_neg he,hk,br hkl]
  have hc:=F3 b.nodes hb.pL b.atoms[k].node b.h
  rw [←hre] at hc
  simp only [go_sem,seval,a19,a3,fi,hln,hbk,q,ct]
  refine ad.nX (by kernel_rfl) [0,1,2,3,4,5,6,7,8,9,10,11,12,13,14,15,16,17,18,19,20,21,22,23,24,25] [[],[],[1],[1,2],[1,2,3],[],[5],[5,6],[5,6,7],[5,6,7,8],[],[10],[],[12],[10,11,12,13],[5,6,7,8,9,10,11,12,13,14],[5,6,7,8,9,10,11,12,13,14,15],[5,6,7,8,9,10,11,12,13,14,15,16],[],[18],[18,19],[18,19,20],[1,2,3,4,5,6,7,8,9,10,11,12,13,14,15,16,17,18,19,20,21],[0,1,2,3,4,5,6,7,8,9,10,11,12,13,14,15,16,17,18,19,20,21,22],[0,1,2,3,4,5,6,7,8,9,10,11,12,13,14,15,16,17,18,19,20,21,22,23],[0,1,2,3,4,5,6,7,8,9,10,11,12,13,14,15,16,17,18,19,20,21,22,23,24]] [0,2,4,6,8,10,12,14,16,18,20,22,24,26,28,30,32,34,36,38,40,42,44,46,48,50] (by kernel_rfl) (by kernel_rfl) ?_
  refine RE.seg (n:=0) [44,46,48,50] [0,2,4,6,8,10,12,14,16,18,20,22,24,26,28,30,32,34,36,38,40,42] [⟨(.some 28),(.mov (.t 5)),.none⟩,⟨(.some 29),(.mov (.t 0)),.none⟩,⟨(.some 30),(.nilCheck (.t 29)),.none⟩,⟨(.some 31),(.fldA .false 0 1 (.t 30)),.none⟩,⟨(.some 32),(.load .false 1 (.t 31)),.none⟩,⟨(.some 33),(.mov (.t 0)),.none⟩,⟨(.some 34),(.nilCheck (.t 33)),.none⟩,⟨(.some 35),(.fldA .true 3 3 (.t 34)),.none⟩,⟨(.some 36),(.fldA .false 0 1 (.t 35)),.none⟩,⟨(.some 37),(.load .false 1 (.t 36)),.none⟩,⟨(.some 38),(.fldA .false 0 1 (.t 3)),.none⟩,⟨(.some 39),(.load .false 1 (.t 38)),.none⟩,⟨(.some 40),(.mov (.t 6)),.none⟩,⟨(.some 41),(.bin .sub (.t 40) (.c (.int .i64 1))),.none⟩,⟨(.some 42),(.minmax .false (.t 39) (.t 41)),.none⟩,⟨(.some 43),(.idxA 8 (.t 37) (.t 42)),.none⟩,⟨(.some 44),(.fldA .false 1 1 (.t 43)),.none⟩,⟨(.some 45),(.load .false 1 (.t 44)),.none⟩,⟨(.some 46),(.mov (.t 0)),.none⟩,⟨(.some 47),(.nilCheck (.t 46)),.none⟩,⟨(.some 48),(.fldA .false 2 1 (.t 47)),.none⟩,⟨(.some 49),(.load .false 1 (.t 48)),.none⟩] rfl rfl ?_
  apply sG;simp only [go_sem,seval,a19,a3,hbk,fi,JO,r1,ef,hk,hidx,cB]
  rw [pr] at hc
  refine RE.av rfl rfl rfl rfl rfl (hc _) ?_
  refine RE.seg (n:=0) [] [46,48,50] [⟨(.some 51),(.nilCheck (.t 28)),.none⟩,⟨(.some 52),(.fldA .true 0 3 (.t 51)),.none⟩,⟨.none,(.store 3 (.t 52) (.t 50)),.none⟩] rfl rfl ?_
  apply sG;simp only [go_sem,seval,a19,aj,al]
  have hlL:=eu (bB b s).heads
  apply sR;simp only [go_sem,seval,hlL]
  rw [←hbk]
  refine fin _ _ (bj (bB b s).heads) hlL (fun j h σ=>gg h) ag (hs.aC z19) ?_ ?_ ?_ ?_ ?_ ?_ <;> rfl
open Go.Proofs Go.Proofs.Tryz
theorem bkE (b:Bk):bw b=.agg [aI b.nodes,vI b.w,vI b.h,bt b.atoms,aF b.fls,vI b.height,bG b.brks]:=rfl
theorem pX (b:Bk) (hb:1≤b.h):aT prog 31 [.rp (bw b)] (.bool false):=fun σ=>by
 refine e31.r (by simp [c31]) ?_
 have q:(b.h=0)=False:=eq_false (by omega)
 refine ad.mix 3 ?_
 apply sR;simp only [go_sem,seval,c31,bkE,q,tV]
 exact ar.same rfl
theorem Bt (b:Bk) (hb:BkFull b) (σ:af):ax prog 65 [.rp (bw b)] σ fun r σ'=>aa σ σ'∧aS σ σ' 67 3 r (b.brks.map eN):=by
 refine e65.r (by simp [c65]) ?_
 have h1:=hb.brk
 have h2:=hb.len
 refine ad.mix 3 ?_
 apply sR;simp only [go_sem,seval,c65]
 refine ad.av rfl rfl rfl (pX b hb.h1 _) ?_
 apply sR;simp only [go_sem,seval,bkE,CY]
 refine ad.call rfl rfl rfl (rf func97 (e97.b.trans rfl) e97.c (b.brks.map eN) (by simp; omega) _) ?_
 rintro r σ' ⟨hs,ho⟩
 apply sR;simp only [go_sem,seval]
 exact ⟨_,_,aa.refl _,Wk.refl (aa.refl _) _,hs,ho⟩
def mA (b:Bk):V:=.agg [bt b.atoms,aF b.fls,vI b.height]
theorem ou (b:Bk) (hb:BkFull b):aT prog 9 [.rp (bw b)] (mA b):=fun σ=>by
 refine e9.r (by simp [c9]) ?_
 have hs:=aa.refl σ
 have h2:=hb.len
 have h3:=hb.flen
 refine ad.mix 4 ?_
 apply sR;simp only [go_sem,seval,c9]
 refine ae fun i2 σ2 s2 a2 f2=>?_
 have z2:=hs.none f2
 replace hs:=hs.trans s2
 simp only [go_sem,seval]
 refine ad.av rfl rfl rfl (pX b hb.h1 _) ?_
 apply sR;simp only [go_sem,seval,bkE]
 refine ae fun i3 σ3 s3 a3 f3=>?_
 have n23:=ao a2 f3
 replace a2:=s3 _ _ a2
 have z3:=hs.none f3
 replace hs:=hs.trans s3
 simp only [go_sem,seval,a3,ay,aL,az,aN]
 generalize hq3:upd _ i3 _=τ3
 replace a3:=(congrFun hq3 i3).symm.trans ag
 replace a2:=((congrFun hq3 i2).symm.trans (ab n23)).trans a2
 replace hs:=Eq.subst (motive:=aa _) hq3 (hs.aC z3)
 clear hq3
 refine Go.cp rfl rfl rfl (Dg b.atoms (by omega)) ?_
 apply sG;simp only [go_sem,seval,a3]
 refine Go.cp rfl rfl rfl (vD b.fls (by omega)) ?_
 apply sG;simp only [go_sem,seval,a3,a2,ay,aL,az,aN,ab n23,ab n23]
 exact ar.pure ((hs.aC z3).aC z2) rfl
theorem lz (b:Bk) (hb:BkFull b):aT prog 10 [.rp (bw b)] (bf ⟨⟨0,0,true⟩,[]⟩):=fun σ=>by
 refine e10.r (by simp [c10]) ?_
 have hs:=aa.refl σ
 refine ad.mix 4 ?_
 apply sR;simp only [go_sem,seval,c10]
 refine ae fun i2 σ2 s2 a2 f2=>?_
 have z2:=hs.none f2
 replace hs:=hs.trans s2
 simp only [go_sem,seval]
 refine ad.av rfl rfl rfl (pX b hb.h1 _) ?_
 apply sR;simp only [go_sem,seval,a2]
 refine ⟨_,σ,hs.aC z2,Wk.agg (vs':=[vI 0,vI 0, .bool true,aF []]) ⟨Wk.refl (hs.aC z2) _,Wk.refl (hs.aC z2) _,Wk.refl (hs.aC z2) _,Wk.aM 7,trivial⟩,rfl,rfl⟩
theorem nu (a:Flo):∀(p:List Flo) (i:Nat),jA a p i = -1∨∃k:Nat,jA a p i=((i+k:Nat):Int)∧k < p.length
 | [],_=>.inl rfl
 | q::r,i=>by
   rw [jA]
   split
   ·exact .inr ⟨0,rfl,by simp⟩
   ·rcases nu a r (i+1) with h | ⟨k,h1,h2⟩
    ·exact .inl h
    ·exact .inr ⟨k+1,by rw [h1]; congr 1; omega,by simp; omega⟩
def j0 (fls:List Flo):List Flo→Nat→Bool
 | [],_=>true
 | x::r,at'=>if jA x (fls.drop at') 0 < 0 then false else j0 fls r (at'+(jA x (fls.drop at') 0).toNat+1)
def iM (b:Bk) (s:Sta):Prop:=j0 b.fls s.pend 0=true∧(dn b.atoms s.s∨s.s.atom=b.atoms.length∧s.s.done=0)
instance (b:Bk) (s:Sta):Decidable (iM b s):=by unfold iM; infer_instance
theorem Es (b:Bk) (hb:BkFull b) (s:Sta) (hp:s.pend.length≤1000000):aT prog 34 [.rp (bw b),bf s] (.bool (decide (iM b s))):=fun σ=>by
 refine e34.r (by simp [c34]) ?_
 have hs:=aa.refl σ
 have h2:=hb.len
 have h3:=hb.flen
 have hlp:=ey s.pend
 have hla:=gv b.atoms
 refine ad.mix 13 ?_
 apply sR;simp only [go_sem,seval,c34,bf,aL,aN]
 refine ae fun i3 σ3 s3 a3 f3=>?_
 have z3:=hs.none f3
 replace hs:=hs.trans s3
 simp only [go_sem,seval,a3,hlp]
 refine ad.loop (fun m st=>∃(j at':Nat),j≤s.pend.length∧m=s.pend.length - j∧at'≤b.fls.length∧j0 b.fls s.pend 0=j0 b.fls (s.pend.drop j) at'∧aa σ st.σ∧st.σ i3=some ⟨27,4,[.agg [vI s.s.atom,vI s.s.done, .bool s.s.free,aF s.pend]]⟩∧st.s 0=.rp (bw b)∧st.s 3=.ptr i3 0 0∧st.s 5=vI at'∧st.s 10=aF s.pend∧st.s 11=vI s.pend.length∧st.s 12=vI j) s.pend.length ?_ ?_
 ·exact ⟨0,0,by omega,rfl,by omega,rfl,hs,a3,rfl,rfl,rfl,rfl,rfl,rfl⟩
 ·clear hs a3
  rintro m ⟨S,τ⟩ ⟨j,at',hj,rfl,hat,heq,hs,a3,t0,t3,t5,t10,t11,t12⟩
  simp only at hs a3 t0 t3 t5 t10 t11 t12
  refine ad.mix 13 ?_
  by_cases hlt:j < s.pend.length
  ·have q:((j:Int) < s.pend.length)=True:=eq_true (by omega)
   have hidx:=fun σ=>iW (σ:=σ) hlt
   have hfl:aP s.pend[j]=.agg [vI s.pend[j].node,vI s.pend[j].side,vI s.pend[j].anchor,vI s.pend[j].x,vI s.pend[j].y,vI s.pend[j].w,vI s.pend[j].h]:=rfl
   have hd:s.pend.drop j=s.pend[j]::s.pend.drop (j+1):=List.drop_eq_getElem_cons hlt
   rw [hd,j0] at heq
   have hsl:=og hat
   generalize s.pend[j]=f at *
   have hic:=DN (b.fls.drop at') (by rw [List.length_drop]; omega) f
   rw [hfl] at hic
   have r1:inR .i64 ((j:Int)+1):=ak (by omega) (by omega)
   apply sR;simp only [go_sem,seval,t0,t3,t5,t10,t11,t12,q,hidx,hfl]
   refine ae fun i7 σ7 s7 a7 f7=>?_
   have n37:=ao a3 f7
   replace a3:=s7 _ _ a3
   have z7:=hs.none f7
   replace hs:=hs.trans s7
   simp only [BB,seval,←decide_not,bp,eJ,aD,cL,eR,ee,eC,dN,cq,j9,gF,bE,fQ,dJ,fp,cQ,bz,iJ,dr,cN,cc,eff,j7,dd,bT,jR,dS,ck,dF,de,lQ,binBV,bY,dk,V.cells,V.stays,a7,bkE,Ao,t0,t3,t5,t10,t11,t12,hsl]
   generalize hq7:upd _ i7 _=τ7
   replace a7:=(congrFun hq7 i7).symm.trans ag
   replace a3:=((congrFun hq7 i3).symm.trans (ab n37)).trans a3
   replace hs:=Eq.subst (motive:=aa _) hq7 (hs.aC z7)
   clear hq7
   refine Go.cp rfl rfl rfl hic ?_
   have hln:(b.fls.drop at').length=b.fls.length - at':=List.length_drop
   rcases nu f (b.fls.drop at') 0 with h | ⟨k,h,hk⟩
   ·rw [h] at heq ⊢
    rw [if_pos (by omega)] at heq
    have hf:decide (iM b s)=false:=decide_eq_false fun hm=>by rw [iM,heq] at hm; cases hm.1
    apply sG;simp only [go_sem,seval,t0,t3,t5,t10,t11,t12]
    rw [hf]
    exact ar.pure hs rfl
   ·rw [h,Nat.zero_add] at heq ⊢
    rw [if_neg (by omega),Int.toNat_natCast] at heq
    have q1:((k:Int) < 0)=False:=eq_false (by omega)
    have r2:inR .i64 ((k:Int)+1):=ak (by omega) (by omega)
    have r3:inR .i64 ((at':Int)+(k+1)):=ak (by omega) (by omega)
    apply sG;simp only [go_sem,seval,t0,t3,t5,t10,t11,t12,q1,r1,r2,r3]
    refine ⟨_,?_,j+1,at'+k+1,by omega,rfl,by omega,heq,hs,a3,rfl,?_,rfl⟩
    ·omega
    ·show V.int _ _=V.int _ _
     congr 1
  ·have q:((j:Int) < s.pend.length)=False:=eq_false (by omega)
   have hje:j=s.pend.length:=by omega
   rw [hje,List.drop_length,j0] at heq
   have hmc:=oe b.atoms s.s
   rw [bh] at hmc
   apply sR;simp only [go_sem,seval,t0,t3,t5,t10,t11,t12,q,a3,bkE,fi]
   refine Go.cp rfl rfl rfl hmc ?_
   have fin:∀v:Bool,decide (iM b s)=v→ar (.bool v) τ fun r σ'=>r=.bool (decide (iM b s))∧σ'=σ:=fun v h=>by rw [h]; exact ar.pure hs rfl
   by_cases hm:dn b.atoms s.s
   ·have f:=fin true (decide_eq_true ⟨heq, .inl hm⟩)
    rw [decide_eq_true hm]
    generalize decide (iM b s)=B at *
    apply sG;simp only [go_sem,seval]
    exact f
   rw [decide_eq_false hm]
   by_cases ha:s.s.atom=b.atoms.length
   ·by_cases hd:s.s.done=0
    ·have f:=fin true (decide_eq_true ⟨heq, .inr ⟨ha,hd⟩⟩)
     generalize decide (iM b s)=B at *
     have q1:(s.s.atom=(b.atoms.length:Int))=True:=eq_true ha
     have q2:(s.s.done=0)=True:=eq_true hd
     apply sG;simp only [go_sem,seval,t0,t3,a3,bkE,fi,hla,q1,q2]
     exact f
    ·have f:=fin false (decide_eq_false fun h=>by rcases h.2 with h | h; exact hm h; exact hd h.2)
     generalize decide (iM b s)=B at *
     have q1:(s.s.atom=(b.atoms.length:Int))=True:=eq_true ha
     have q2:(s.s.done=0)=False:=eq_false hd
     apply sG;simp only [go_sem,seval,t0,t3,a3,bkE,fi,hla,q1,q2]
     exact f
   ·have f:=fin false (decide_eq_false fun h=>by rcases h.2 with h | h; exact hm h; exact ha h.1)
    generalize decide (iM b s)=B at *
    have q1:(s.s.atom=(b.atoms.length:Int))=False:=eq_false ha
    apply sG;simp only [go_sem,seval,t0,t3,a3,bkE,fi,hla,q1]
    exact f
def eD (b:Bk) (s:Sta):Prop:=¬iM b s∨s.s.atom=b.atoms.length∧s.s.free=false∧s.pend=[]
instance (b:Bk) (s:Sta):Decidable (eD b s):=by unfold eD; infer_instance
theorem nb (b:Bk) (hb:BkFull b) (s:Sta) (hp:s.pend.length≤1000000):aT prog 11 [.rp (bw b),bf s] (.bool (decide (eD b s))):=fun σ=>by
 refine e11.r (by simp [c11]) ?_
 have hs:=aa.refl σ
 have h2:=hb.len
 have hlp:=ey s.pend
 have hla:=gv b.atoms
 have hmc:=Es b hb s hp
 rw [bf] at hmc
 refine ad.mix 5 ?_
 apply sR;simp only [go_sem,seval,c11,bf,aL,aN]
 refine ae fun i3 σ3 s3 a3 f3=>?_
 have z3:=hs.none f3
 replace hs:=hs.trans s3
 simp only [go_sem,seval]
 refine ad.av rfl rfl rfl (pX b hb.h1 _) ?_
 apply sR;simp only [go_sem,seval,a3]
 refine ad.av rfl rfl rfl (hmc _) ?_
 have fin:∀v:Bool,decide (eD b s)=v→ar (.bool v) σ3 fun r σ'=>r=.bool (decide (eD b s))∧σ'=σ:=fun v h=>by rw [h]; exact ar.pure hs rfl
 by_cases hm:iM b s
 ·rw [decide_eq_true hm]
  by_cases ha:s.s.atom=b.atoms.length
  ·have q1:(s.s.atom=(b.atoms.length:Int))=True:=eq_true ha
   by_cases hf:s.s.free=true
   ·have f:=fin false (decide_eq_false fun h=>by rcases h with h | h; exact h hm; rw [hf] at h; cases h.2.1)
    generalize decide (eD b s)=B at *
    rw [hf] at a3
    apply sR;simp only [go_sem,seval,a3,bkE,fi,hla,q1]
    exact f
   ·have hf':s.s.free=false:=by simpa using hf
    by_cases hn:s.pend=[]
    ·have f:=fin true (decide_eq_true (.inr ⟨ha,hf',hn⟩))
     generalize decide (eD b s)=B at *
     have q2:((s.pend.length:Int)=0)=True:=eq_true (by rw [hn]; rfl)
     rw [hf'] at a3
     apply sR;simp only [go_sem,seval,a3,bkE,fi,hla,q1,hlp,q2]
     exact f
    ·have f:=fin false (decide_eq_false fun h=>by rcases h with h | h; exact h hm; exact hn h.2.2)
     generalize decide (eD b s)=B at *
     have q2:((s.pend.length:Int)=0)=False:=eq_false (by have:=List.length_pos_iff.2 hn; omega)
     rw [hf'] at a3
     apply sR;simp only [go_sem,seval,a3,bkE,fi,hla,q1,hlp,q2]
     exact f
  ·have f:=fin false (decide_eq_false fun h=>by rcases h with h | h; exact h hm; exact ha h.1)
   generalize decide (eD b s)=B at *
   have q1:(s.s.atom=(b.atoms.length:Int))=False:=eq_false ha
   apply sR;simp only [go_sem,seval,a3,bkE,fi,hla,q1]
   exact f
 ·rw [decide_eq_false hm]
  have f:=fin true (decide_eq_true (.inl hm))
  generalize decide (eD b s)=B at *
  apply sR;simp only [go_sem,seval]
  exact f
open Go.Proofs Go.Proofs.Tryz
structure Pag where
 (no kind:Int)
 (hs fs ls:List Frg)
def bN (l:List Frg):V:=.sl 7 (l.map aX)
def fF (p:Pag):V:=.agg [vI p.no,vI p.kind,bN p.hs,bN p.fs,bN p.ls]
theorem pQ {s:Nat→V} {σ:af} {a1 a2:Bool} {n1 n2 d e t:Nat} {Post:V→af→Prop} :
 Ret [.cell a1 n1 (.t d), .cell a2 n2 (.t e), .tmp (.t t)] ⟨s,σ⟩ Post=cX (bM σ a1 n1 (s d)) fun v=>cX (bM σ a2 n2 (s e)) fun w=>ar (.tup [v,w,s t]) σ Post:=by
 unfold Ret ar lO
 simp only [dY,fM,VX.ev]
 cases bM σ a1 n1 (s d) <;> cases bM σ a2 n2 (s e) <;> simp [cX]
theorem pV {body:Int}:∀(l:List Flo) (sh:Int),0≤sh→sh≤body→(∀f∈l,0≤f.h)→(dV body l sh).1.length≤l.length∧(∀m∈(dV body l sh).1,0≤m.y∧m.y≤body)∧0≤(dV body l sh).2.2∧(dV body l sh).2.2≤body
 | [],sh,h0,h1,_=>by simp [dV]; omega
 | f::r,sh,h0,h1,hh=>by
   rw [dV]
   have hf:=hh f (by simp)
   split
   ·simp; omega
   ·rename_i hc
    obtain ⟨g1,g2,g3,g4⟩:=pV (body:=body) r (sh+min f.h body) (by omega) (by omega) (fun g hg=>hh g (by simp [hg]))
    refine ⟨by simp; omega,fun m hm=>?_,g3,g4⟩
    rcases List.mem_cons.1 hm with rfl | hm
    ·simp only; omega
    ·exact g2 m hm
theorem yG {l:List Nd} {x:Kp} {a:Int} (h:1≤x.body):1≤(gQ l x a).body:=by
 unfold gQ
 split
 ·exact h
 ·simp only; omega
theorem td {l:List Nd} {L:List Int} {h:Int} (hh:1≤h):∀m,1≤(fw l L h m).body
 | 0=>hh
 | m+1=>yG (td hh m)
theorem jD {b:Bk} (hb:BkFull b) (s:Stt) (h0:0≤s.atom):1≤(bB b s).body:=by
 have h1:=hb.h1
 unfold bB
 split
 ·exact h1
 ·rename_i he
  have hl0:0 < b.atoms.length:=List.length_pos_iff.2 he
  obtain ⟨k,hk⟩:∃k:Nat,min s.atom ((b.atoms.length:Int) - 1)=k:=⟨(min s.atom ((b.atoms.length:Int) - 1)).toNat,by omega⟩
  have hkl:k < b.atoms.length:=by omega
  have hn:=hb.nod _ (List.getElem_mem hkl)
  rw [hk,br hkl]
  have hm:jE b.nodes b.h=true:=by simp [jE,hb.isb,hb.h1,hb.h2]
  unfold pO
  rw [if_pos ⟨hm,hn⟩]
  exact td h1 _
theorem lA {fls:List Flo}:∀(p:List Flo) (at':Nat),j0 fls p at'=true→∀f∈p,f∈fls
 | [],_,_,f,hf=>by cases hf
 | x::r,at',h,f,hf=>by
   rw [j0] at h
   split at h
   ·cases h
   ·rename_i hk
    rcases List.mem_cons.1 hf with rfl | hf
    ·have key:∀(l:List Flo) (i:Nat),¬jA f l i < 0→f∈l:=by
      intro l
      induction l with
      | nil=>intro i h; simp [jA] at h
      | cons q l ih =>
        intro i h
        rw [jA] at h
        split at h
        ·rename_i e; simp [e]
        ·exact List.mem_cons_of_mem _ (ih _ h)
     exact List.mem_of_mem_drop (key _ _ hk)
    ·exact lA r _ h f hf
def lN (x:Wx):Pag:=⟨0,x.kind,x.hs,x.fs,x.ls⟩
def dt (b:Bk) (s:Sta):Wx:={ (({ bW b s.s .aM with shift:=(dV (bB b s.s).body s.pend 0).2.2 }:Wx).put (dV (bB b s.s).body s.pend 0).1) with kind:=0 }
def oY (b:Bk) (s:Sta):Prop:=s.s.atom=b.atoms.length∨(dV (bB b s.s).body s.pend 0).2.1≠[]∨(dV (bB b s.s).body s.pend 0).2.2 > 0∧eQ b.atoms s.s > (bB b s.s).body - (dV (bB b s.s).body s.pend 0).2.2
instance (b:Bk) (s:Sta):Decidable (oY b s):=by unfold oY; infer_instance
def cg (b:Bk) (s:Sta):Pag×Sta :=
 if b.atoms=[]∧s.s.free=true then (lN (tW b (bW b s.s .aM)),mZ b (bW b s.s .aM))
 else if oY b s then (lN { dt b s with kind:=2 },⟨⟨s.s.atom,s.s.done,s.s.free && decide (s.s.atom < b.atoms.length)⟩,(dV (bB b s.s).body s.pend 0).2.1⟩)
 else (lN (dX b (dt b s)),fo b (dt b s))
theorem ph (b:Bk) (x:Wx) (h:V):lN (dX b { x with heads:=h })=lN (dX b x)∧fo b { x with heads:=h }=fo b x:=by
 unfold dX fo
 by_cases hc:eS b.brks x.s.atom (dE b x)
 ·rw [if_pos (show eS b.brks ({ x with heads:=h }:Wx).s.atom (dE b { x with heads:=h }) from hc),if_pos (show eS b.brks ({ x with heads:=h }:Wx).s.atom (dE b { x with heads:=h }) from hc),if_pos hc,if_pos hc]
  exact ⟨rfl,rfl⟩
 ·rw [if_neg (show ¬eS b.brks ({ x with heads:=h }:Wx).s.atom (dE b { x with heads:=h }) from hc),if_neg (show ¬eS b.brks ({ x with heads:=h }:Wx).s.atom (dE b { x with heads:=h }) from hc),if_neg hc,if_neg hc]
  exact ⟨rfl,rfl⟩
theorem WxJ.aC {b:Bk} {K:af} {ix:Nat} {x:Wx} {σ:af} {vh vf vl:V} (h:WxJ b K ix x σ vh vf vl) {i:Nat} {o:Ob} (hi:K i=some o) (o':Ob):WxJ b (upd K i o') ix x (upd σ i o') vh vf vl:=by
 have hn:ix≠i:=fun e=>by have:=h.no; subst e; rw [this] at hi; cases hi
 have key:∀ {v rows},aS (aY K ix) σ 57 7 v rows→aS (aY (upd K i o') ix) (upd σ i o') 57 7 v rows:=fun hv=>by
  rcases hv with h | ⟨a,e,h3,h4⟩
  ·exact .inl h
  ·have hk:=(aH.1 h4).2
   have ha:a≠i:=fun e=>by subst e; rw [hk] at hi; cases hi
   exact .inr ⟨a,e,(Vc.ab ha).trans h3,aH.2 ⟨(aH.1 h4).1,(Vc.ab ha).trans hk⟩⟩
 refine ⟨(Vc.ab hn).trans h.row,key h.oh,key h.of,key h.ol,h.hf,h.hl,h.fl,fun a q ha=>?_,(Vc.ab hn).trans h.no⟩
 by_cases e:a=i
 ·subst e; rw [Vc.ag] at ha ⊢; exact ha
 ·rw [Vc.ab e] at ha ⊢; exact h.sub _ _ ha
theorem WxJ.ret {b:Bk} {K σ0:af} {ix:Nat} {x:Wx} {σ:af} {vh vf vl:V} (h:WxJ b K ix x σ vh vf vl) (h0:aa σ0 K) (S:V) (e:Int) :
 ar (.tup [.agg [vI 0,vI x.kind,vh,vf,vl],S,vI e]) σ fun r σ'=>r=.tup [fF (lN x),S,vI e]∧σ'=σ0:=by
 have hs:=h0.trans h.sub
 have hK:aa σ0 (aY K ix):=fun i o hh=>by
  rw [aY,if_neg (fun e=>by rw [e] at hh; have:=h0 _ _ hh; rw [h.no] at this; cases this)]; exact h0 _ _ hh
 exact ⟨_,σ0,hs,Wk.tup (vs':=[fF (lN x),S,vI e]) ⟨Wk.agg (vs':=[vI 0,vI x.kind,bN x.hs,bN x.fs,bN x.ls]) ⟨Wk.refl hs _,Wk.refl hs _,h.oh.wk hK hs,h.of.wk hK hs,h.ol.wk hK hs,trivial⟩,Wk.refl hs _,Wk.refl hs _,trivial⟩,rfl,rfl⟩
theorem uN (b:Bk) (hb:BkFull b) (hfh:∀f∈b.fls,0≤f.h) (s:Sta) (hp:s.pend.length≤1000000) :
 aT prog 13 [.rp (bw b),bf s] (if eD b s then .tup [fF ⟨0,0,[],[],[]⟩,bf ⟨⟨0,0,false⟩,[]⟩,vI 4] else .tup [fF (cg b s).1,bf (cg b s).2,vI 0]):=fun σ=>by
 refine e13.r (by simp [c13]) ?_
 have hs:=aa.refl σ
 have h2:=hb.len
 have hlp:=ey s.pend
 have hla:=gv b.atoms
 have hec:=nb b hb s hp
 rw [bf] at hec
 refine ad.mix 12 ?_
 apply sR;simp only [go_sem,seval,c13,bf,aL,aN]
 refine ae fun i3 σ3 s3 a3 f3=>?_
 have z3:=hs.none f3
 replace hs:=hs.trans s3
 simp only [go_sem,seval]
 refine ae fun i4 σ4 s4 a4 f4=>?_
 have n34:=ao a3 f4
 replace a3:=s4 _ _ a3
 have z4:=hs.none f4
 replace hs:=hs.trans s4
 simp only [go_sem,seval]
 refine ae fun i5 σ5 s5 a5 f5=>?_
 have n35:=ao a3 f5
 replace a3:=s5 _ _ a3
 have n45:=ao a4 f5
 replace a4:=s5 _ _ a4
 have z5:=hs.none f5
 replace hs:=hs.trans s5
 simp only [go_sem,seval,a3]
 refine ad.av rfl rfl rfl (hec _) ?_
 by_cases hm:eD b s
 ·rw [if_pos hm,decide_eq_true hm]
  have n54:=n45.symm
  apply sR;simp only [go_sem,seval,a4,a5,ab n45,ab n54,pQ]
  have hs':=(hs.aC (o:=⟨43,5,[.agg [vI 0,vI 0, .aM, .aM, .aM]]⟩) z4).aC (o:=⟨27,4,[.agg [vI 0,vI 0, .bool false, .aM]]⟩) z5
  exact ⟨_,σ,hs',Wk.tup (vs':=[fF ⟨0,0,[],[],[]⟩,bf ⟨⟨0,0,false⟩,[]⟩,vI 4]) ⟨Wk.agg (vs':=[vI 0,vI 0,bN [],bN [],bN []]) ⟨Wk.refl hs' _,Wk.refl hs' _,Wk.aM 7,Wk.aM 7,Wk.aM 7,trivial⟩,Wk.agg (vs':=[vI 0,vI 0, .bool false,aF []]) ⟨Wk.refl hs' _,Wk.refl hs' _,Wk.refl hs' _,Wk.aM 7,trivial⟩,Wk.refl hs' _,trivial⟩,rfl,rfl⟩
 ·rw [if_neg hm,decide_eq_false hm]
  have hmay:iM b s:=Decidable.byContradiction fun h=>hm (.inl h)
  have hnot:¬(s.s.atom=b.atoms.length∧s.s.free=false∧s.pend=[]):=fun h=>hm (.inr h)
  have hat:0≤s.s.atom:=by rcases hmay.2 with h | h; exact h.1.1; omega
  have hph:∀f∈s.pend,0≤f.h:=fun f hf=>hfh f (lA _ _ hmay.1 f hf)
  have hro:=na hb s.s
  have hr1:=jD hb s.s hat
  have hbc:=BT b hb s.s hat σ5
  rw [bh] at hbc
  apply sR;simp only [go_sem,seval,a3,bkE,fi]
  refine ad.call rfl rfl rfl hbc ?_
  rintro r σ6 ⟨i1,vh,hv,rfl,hJ⟩
  have c3:=hJ.sub _ _ a3
  have xs:(bW b s.s hv).s=s.s:=rfl
  have xb:(bW b s.s hv).body=(bB b s.s).body:=rfl
  have xh:(bW b s.s hv).high=(bB b s.s).high:=rfl
  have xl:(bW b s.s hv).ls=[]:=rfl
  have xf:(bW b s.s hv).fs=[]:=rfl
  have xk:(bW b s.s hv).kind=0:=rfl
  have hs5:aa σ σ5:=hs
  by_cases h0:b.atoms=[]∧s.s.free=true
  ·obtain ⟨h01,h02⟩:=h0
   have q1:((b.atoms.length:Int)=0)=True:=eq_true (by rw [h01]; rfl)
   rw [cg,if_pos ⟨h01,h02⟩]
   have hlc:=B7 b hb.toBkOk (bW b s.s hv) (by rw [xl]; simp) (by rw [xh]; have:=hro.high; omega) hJ
   have e1:lN (tW b (bW b s.s .aM))=lN (tW b (bW b s.s hv)):=rfl
   have e2:mZ b (bW b s.s .aM)=mZ b (bW b s.s hv):=rfl
   rw [e1,e2]
   generalize tW b (bW b s.s hv)=X at *
   generalize mZ b (bW b s.s hv)=Z at *
   rw [h02] at c3
   apply sR;simp only [go_sem,seval,q1,hla,c3,bkE,fi]
   refine ad.call rfl rfl rfl hlc ?_
   rintro r σ7 ⟨vl',rfl,hJ7⟩
   have d5:=hJ7.sub _ _ a5
   apply sR;simp only [go_sem,seval,d5,bf,aL,aN,ct]
   have hJ8:=hJ7.aC a5 ⟨27,4,[.agg [vI Z.s.atom,vI Z.s.done, .bool Z.s.free,aF Z.pend]]⟩
   generalize hq8:upd σ7 i5 _=τ8 at *
   have b1:=hJ8.row
   rw [cI] at b1
   have b5:=hJ8.sub _ _ ag
   have b4:=hJ8.sub i4 _ ((ab n45).trans a4)
   obtain ⟨ch,sh⟩:=hJ8.oh.vc
   obtain ⟨cf,sf⟩:=hJ8.of.vc
   obtain ⟨cl,sl⟩:=hJ8.ol.vc
   have n54:=n45.symm
   refine ad.nX (by kernel_rfl) [0,1,2,3,4,5,6,7] [[],[0],[0,1],[0,1,2],[],[0,1,2,3],[0,1,2,3,4,5],[0,1,2,3,4,5,6]] [0,2,4,6,8,10,9,12,14] (by kernel_rfl) (by kernel_rfl) ?_
   refine RE.seg (n:=0) [9,12,14] [0,2,4,6,8,10] [⟨(.some 36),(.mov (.t 8)),.none⟩,⟨(.some 37),(.nilCheck (.t 36)),.none⟩,⟨(.some 38),(.fldA .true 7 5 (.t 37)),.none⟩,⟨(.some 39),(.load .true 5 (.t 38)),.none⟩,⟨(.some 40),(.load .true 4 (.t 5)),.none⟩,⟨.none,(.store 5 (.t 4) (.t 39)),.none⟩] rfl rfl ?_
   apply sG;simp only [go_sem,seval,b1,b4,b5,ch,sh,cf,sf,cl,sl,aL,aN,ab n54,ab n45]
   refine RE.chk rfl rfl rfl rfl rfl trivial (by simp only [go_sem,seval,b1,b4,b5,ab n54,ab n45]) ?_
   refine RE.seg (n:=0) [] [12,14] [⟨.none,(.store 4 (.t 5) (.t 40)),.none⟩,⟨(.some 6),(.mov (.c (.int .i64 0))),.none⟩] rfl rfl ?_
   apply sG;simp only [go_sem,seval,b1,b4,b5,ch,sh,cf,sf,cl,sl,aL,aN,ab n54,ab n45]
   apply sR;simp only [go_sem,seval,b1,b4,b5,pQ,ab n54,ab n45]
   exact ((hJ8.aC ((ab n45).trans a4) _).aC ((ab n54).trans ag) _).ret (((hs5.aC z5).aC z4).aC z5) _ _
  ·have hpr:cg b s=if oY b s then (lN { dt b s with kind:=2 },⟨⟨s.s.atom,s.s.done,s.s.free && decide (s.s.atom < b.atoms.length)⟩,(dV (bB b s.s).body s.pend 0).2.1⟩) else (lN (dX b (dt b s)),fo b (dt b s)):=by rw [cg,if_neg h0]
   have htc:=HZ s.pend hp (bB b s.s).body hr1 (by have:=hro.body; omega) hph
   obtain ⟨g1,g2,g3,g4⟩:=pV (body:=(bB b s.s).body) s.pend 0 (Int.le_refl _) (by omega) hph
   have hlc:=Ah b.atoms hb.at' s.s (by
    rcases hmay.2 with h | h
    ·have:=sX hb.toBkOk h; omega
    ·omega)
   rw [bh] at hlc
   have b1:=hJ.row
   simp only [cI,bW] at b1
   have hfw:=Eb b hb.toBkOk
   have hX:∀x:Wx,x=({ bW b s.s hv with shift:=(dV (bB b s.s).body s.pend 0).2.2 }:Wx).put (dV (bB b s.s).body s.pend 0).1→lN { x with kind:=2 }=lN { dt b s with kind:=2 }∧lN (dX b x)=lN (dX b (dt b s))∧fo b x=fo b (dt b s):=fun x hx=>by
    subst hx
    exact ⟨rfl,(ph b (dt b s) hv).1,(ph b (dt b s) hv).2⟩
   have hp1:oY b s→cg b s=_:=fun h=>hpr.trans (if_pos h)
   have hp2:¬oY b s→cg b s=_:=fun h=>hpr.trans (if_neg h)
   clear hpr
   unfold oY at hp1 hp2
   generalize dt b s=TX at *
   generalize dV (bB b s.s).body s.pend 0=T at *
   obtain ⟨put,left,sh'⟩:=T
   simp only at htc g1 g2 g3 g4 hX hp1 hp2
   have hll:=ey left
   have hq:(((b.atoms.length:Int)=0)=True∧s.s.free=false)∨(((b.atoms.length:Int)=0)=False∧True):=by
    by_cases he:b.atoms=[]
    ·exact .inl ⟨eq_true (by rw [he]; rfl),by
      cases hfr:s.s.free
      ·rfl
      ·exact absurd ⟨he,hfr⟩ h0⟩
    ·exact .inr ⟨eq_false (by have:=List.length_pos_iff.2 he; omega),trivial⟩
   rcases hq with ⟨q,hf⟩ | ⟨q,hf⟩
   all_goals
    apply sR;simp only [go_sem,seval,q,hf,hla,c3,b1,bkE,fi]
    refine Go.cp rfl rfl rfl htc ?_
    apply sG;simp only [go_sem,seval,b1]
    generalize hq7:upd σ6 i1 _=τ7
    have hJ7:WxJ b σ5 i1 { bW b s.s hv with shift:=sh' } τ7 vh .aM .aM:=by
     rw [←hq7]; exact hJ.set _ rfl rfl rfl
    refine ad.call rfl rfl rfl (lI b put (by omega) { bW b s.s hv with shift:=sh' } (by simp [bW]) (fun f hf=>by
     have:=g2 f hf
     have:=hro.high
     have:=hro.body
     exact ak (by show _≤f.y+(bB b s.s).high; omega) (by show f.y+(bB b s.s).high≤_; omega)) hJ7) ?_
    rintro - σ8 ⟨vl',hJ8⟩
    obtain ⟨x1,x2,x3⟩:=hX _ rfl
    have c3:=hJ8.sub _ _ a3
    have d5:=hJ8.sub _ _ a5
    have b1:=hJ8.row
    have ys:(Wx.put { bW b s.s hv with shift:=sh' } put).s=s.s:=rfl
    have yb:(Wx.put { bW b s.s hv with shift:=sh' } put).body=(bB b s.s).body:=rfl
    have yh:(Wx.put { bW b s.s hv with shift:=sh' } put).high=(bB b s.s).high:=rfl
    have yw:(Wx.put { bW b s.s hv with shift:=sh' } put).shift=sh':=rfl
    have yf:(Wx.put { bW b s.s hv with shift:=sh' } put).fs.length≤1000000:=by simp [Wx.put,bW]
    have yl:(Wx.put { bW b s.s hv with shift:=sh' } put).ls.length≤1000000:=by simp [Wx.put,bW]; omega
    generalize Wx.put { bW b s.s hv with shift:=sh' } put=Y at *
    rw [cI] at b1
    have n15:i1≠i5:=fun e=>by have:=hJ8.no; rw [e,a5] at this; cases this
    have n51:=n15.symm
    have n54:=n45.symm
    have r1:inR .i64 ((bB b s.s).body - sh'):=ak (by omega) (by have:=hro.body; omega)
    rw [←yb] at r1 hp1 hp2
    by_cases hfull:s.s.atom=b.atoms.length∨left≠[]∨sh' > 0∧eQ b.atoms s.s > Y.body - sh'
    ·rw [hp1 hfull,←x1]
     have hw:((s.s.atom=(b.atoms.length:Int))=True∧True∧True∧True)∨((s.s.atom=(b.atoms.length:Int))=False∧((left.length:Int) > 0)=True∧True∧True) ∨
      ((s.s.atom=(b.atoms.length:Int))=False∧((left.length:Int) > 0)=False∧(sh' > 0)=True∧(eQ b.atoms s.s > Y.body - sh')=True):=by
      by_cases hA:s.s.atom=b.atoms.length
      ·exact .inl ⟨eq_true hA,trivial,trivial,trivial⟩
      by_cases hB:left=[]
      ·obtain ⟨hC,hD⟩:=(hfull.resolve_left hA).resolve_left (fun h=>h hB)
       exact .inr (.inr ⟨eq_false hA,eq_false (by rw [hB]; simp),eq_true hC,eq_true hD⟩)
      ·exact .inr (.inl ⟨eq_false hA,eq_true (by have:=List.length_pos_iff.2 hB; omega),trivial,trivial⟩)
     obtain ⟨VAL,hV⟩:∃VAL:Bool,VAL=(s.s.free && decide (s.s.atom < b.atoms.length)):=⟨_,rfl⟩
     have n13:i3≠i1:=fun e=>by have:=hJ8.no; rw [←e,a3] at this; cases this
     cases hfr:s.s.free
     all_goals
      simp only [hfr,Bool.false_and,Bool.true_and] at hV
      rw [hfr] at hlc
      rcases hw with ⟨qA,qB,qC,qD⟩ | ⟨qA,qB,qC,qD⟩ | ⟨qA,qB,qC,qD⟩
      all_goals
       apply sR;simp only [go_sem,seval,c3,d5,b1,hla,hll,qA,qB,qC,bkE,fi,hfr,ab n15,ab n51,ab n13,ab n35,ct,aL,aN]
       try
        refine Go.cp rfl rfl rfl hlc ?_
        apply sG;simp only [go_sem,seval,c3,d5,b1,r1,qD,hla,hll,bkE,fi,hfr,ab n15,ab n51,ab n13,ab n35,ct,aL,aN]
       generalize hq8:upd (upd σ8 i1 _) i5 _=τ8
       have hJ8:WxJ b (upd σ5 i5 ⟨27,4,[.agg [vI s.s.atom,vI s.s.done, .bool VAL,aF left]]⟩) i1 { Y with kind:=2 } τ8 vh .aM vl':=by
        rw [←hq8,hV]; exact (hJ8.set { Y with kind:=2 } rfl rfl rfl).aC a5 _
       clear hq8
       have b1:=hJ8.row
       rw [cI] at b1
       have b5:=hJ8.sub _ _ ag
       rw [hV] at b5
       have b4:=hJ8.sub i4 _ ((ab n45).trans a4)
       obtain ⟨ch,sh⟩:=hJ8.oh.vc
       obtain ⟨cf,sf⟩:=hJ8.of.vc
       obtain ⟨cl,sl⟩:=hJ8.ol.vc
       refine ad.nX (by kernel_rfl) [0,1,2,3,4,5,6,7] [[],[0],[0,1],[0,1,2],[],[0,1,2,3],[0,1,2,3,4,5],[0,1,2,3,4,5,6]] [0,2,4,6,8,10,9,12,14] (by kernel_rfl) (by kernel_rfl) ?_
       refine RE.seg (n:=0) [9,12,14] [0,2,4,6,8,10] [⟨(.some 110),(.mov (.t 8)),.none⟩,⟨(.some 111),(.nilCheck (.t 110)),.none⟩,⟨(.some 112),(.fldA .true 7 5 (.t 111)),.none⟩,⟨(.some 113),(.load .true 5 (.t 112)),.none⟩,⟨(.some 114),(.load .true 4 (.t 5)),.none⟩,⟨.none,(.store 5 (.t 4) (.t 113)),.none⟩] rfl rfl ?_
       apply sG;simp only [go_sem,seval,b1,b4,b5,ch,sh,cf,sf,cl,sl,aL,aN,ab n54,ab n45]
       refine RE.chk rfl rfl rfl rfl rfl trivial (by simp only [go_sem,seval,b1,b4,b5,ab n54,ab n45]) ?_
       refine RE.seg (n:=0) [] [12,14] [⟨.none,(.store 4 (.t 5) (.t 114)),.none⟩,⟨(.some 6),(.mov (.c (.int .i64 0))),.none⟩] rfl rfl ?_
       apply sG;simp only [go_sem,seval,b1,b4,b5,ch,sh,cf,sf,cl,sl,aL,aN,ab n54,ab n45]
       apply sR;simp only [go_sem,seval,b1,b4,b5,pQ,ab n54,ab n45]
       exact ((hJ8.aC ((ab n45).trans a4) _).aC ((ab n54).trans ag) _).ret (((hs5.aC z5).aC z4).aC z5) _ _
    ·rw [hp2 hfull,←x2,←x3]
     have hA:¬s.s.atom=b.atoms.length:=fun h=>hfull (.inl h)
     have hm':dn b.atoms s.s:=hmay.2.resolve_right fun h=>hA h.1
     have hw:((s.s.atom=(b.atoms.length:Int))=False∧((left.length:Int) > 0)=False∧(sh' > 0)=False∧True)∨((s.s.atom=(b.atoms.length:Int))=False∧((left.length:Int) > 0)=False∧(sh' > 0)=True∧(eQ b.atoms s.s > Y.body - sh')=False):=by
      have hB:left=[]:=Decidable.byContradiction fun h=>hfull (.inr (.inl h))
      have hB':((left.length:Int) > 0)=False:=eq_false (by rw [hB]; simp)
      by_cases hC:sh' > 0
      ·exact .inr ⟨eq_false hA,hB',eq_true hC,eq_false fun h=>hfull (.inr (.inr ⟨hC,h⟩))⟩
      ·exact .inl ⟨eq_false hA,hB',eq_false hC,trivial⟩
     have hwf:=hfw Y (by rw [ys]; exact hm') yf yl (by rw [yh]; have:=hro.high; omega) (by rw [yb]; have:=hro.body; omega) (by rw [yw]; have:=hro.body; omega) hJ8
     generalize dX b Y=X at *
     generalize fo b Y=Z at *
     rcases hw with ⟨qA,qB,qC,qD⟩ | ⟨qA,qB,qC,qD⟩
     all_goals
      apply sR;simp only [go_sem,seval,c3,hla,qA,hll,qB,qC,bkE,fi]
      try
       refine Go.cp rfl rfl rfl hlc ?_
       apply sG;simp only [go_sem,seval,b1,r1,qD]
      refine ad.call rfl rfl rfl hwf ?_
      rintro - σ9 ⟨vf',vl'',rfl,hJ9⟩
      have e5:=hJ9.sub _ _ a5
      apply sR;simp only [go_sem,seval,e5,bf,aL,aN,ct]
      have hJ8:=hJ9.aC a5 ⟨27,4,[.agg [vI Z.s.atom,vI Z.s.done, .bool Z.s.free,aF Z.pend]]⟩
      generalize hq8:upd σ9 i5 _=τ8 at *
      have b1:=hJ8.row
      rw [cI] at b1
      have b5:=hJ8.sub _ _ ag
      have b4:=hJ8.sub i4 _ ((ab n45).trans a4)
      obtain ⟨ch,sh⟩:=hJ8.oh.vc
      obtain ⟨cf,sf⟩:=hJ8.of.vc
      obtain ⟨cl,sl⟩:=hJ8.ol.vc
      refine ad.nX (by kernel_rfl) [0,1,2,3,4,5,6,7] [[],[0],[0,1],[0,1,2],[],[0,1,2,3],[0,1,2,3,4,5],[0,1,2,3,4,5,6]] [0,2,4,6,8,10,9,12,14] (by kernel_rfl) (by kernel_rfl) ?_
      refine RE.seg (n:=0) [9,12,14] [0,2,4,6,8,10] [⟨(.some 117),(.mov (.t 8)),.none⟩,⟨(.some 118),(.nilCheck (.t 117)),.none⟩,⟨(.some 119),(.fldA .true 7 5 (.t 118)),.none⟩,⟨(.some 120),(.load .true 5 (.t 119)),.none⟩,⟨(.some 121),(.load .true 4 (.t 5)),.none⟩,⟨.none,(.store 5 (.t 4) (.t 120)),.none⟩] rfl rfl ?_
      apply sG;simp only [go_sem,seval,b1,b4,b5,ch,sh,cf,sf,cl,sl,aL,aN,ab n54,ab n45]
      refine RE.chk rfl rfl rfl rfl rfl trivial (by simp only [go_sem,seval,b1,b4,b5,ab n54,ab n45]) ?_
      refine RE.seg (n:=0) [] [12,14] [⟨.none,(.store 4 (.t 5) (.t 121)),.none⟩,⟨(.some 6),(.mov (.c (.int .i64 0))),.none⟩] rfl rfl ?_
      apply sG;simp only [go_sem,seval,b1,b4,b5,ch,sh,cf,sf,cl,sl,aL,aN,ab n54,ab n45]
      apply sR;simp only [go_sem,seval,b1,b4,b5,pQ,ab n54,ab n45]
      exact ((hJ8.aC ((ab n45).trans a4) _).aC ((ab n54).trans ag) _).ret (((hs5.aC z5).aC z4).aC z5) _ _
def blk (cnt:Nat→Nat) (a n:Nat):List Int:=(List.range' a n).flatMap fun i=>List.replicate (cnt i) (i:Int)
theorem jw (cnt:Nat→Nat) (a:Nat):blk cnt a 0=[]:=rfl
theorem gG (cnt:Nat→Nat) (a n:Nat):blk cnt a (n+1)=List.replicate (cnt a) (a:Int)++blk cnt (a+1) n:=by
 simp [blk,List.range'_succ]
theorem lq {f g:Nat→Nat}:∀(n a:Nat),(∀i,a≤i→i < a+n→f i=g i)→blk f a n=blk g a n
 | 0,_,_=>rfl
 | n+1,a,h=>by
   rw [gG,gG,h a (Nat.le_refl a) (by omega),lq n (a+1) (fun i h1 h2=>h i (by omega) (by omega))]
theorem wi (cnt:Nat→Nat):∀(n a m:Nat),blk cnt a (n+m)=blk cnt a n++blk cnt (a+n) m
 | 0,a,m=>by simp [jw]
 | n+1,a,m=>by
   rw [show n+1+m=(n+m)+1 by omega,gG,gG,wi cnt n (a+1) m,List.append_assoc,show a+1+n=a+(n+1) by omega]
theorem Ek (f g:Nat→Nat) (a n m:Nat):blk f a n++blk g (a+n) m=blk (fun i=>if i < a+n then f i else g i) a (n+m):=by
 rw [wi]
 congr 1
 ·exact lq n a fun i h1 h2=>by simp [h2]
 ·exact lq m (a+n) fun i h1 h2=>by simp [show ¬i < a+n by omega]
structure AtI (C:Int) (x:Atm):Prop where
 y0:0≤x.y
 y1:x.y≤C
 h0:1≤x.h
 h1:x.h≤1099511627776
theorem AtI.mono {B C:Int} {x:Atm} (h:AtI B x) (hB:B≤C):AtI C x:=⟨h.y0,Int.le_trans h.y1 hB,h.h0,h.h1⟩
theorem pt (a:Nat) (h:Int):∀(L:List Ln) (s:WS),(fZ a h s L).atoms=s.atoms++L.map (fj a h)
 | [],s=>by simp [fZ]
 | x::L,s=>by
   have:=pt a h L (s.put (fj a h x))
   simp only [fZ,List.foldl_cons] at this ⊢
   rw [this]
   simp [WS.put]
theorem EM (a:Nat) (h:Int) (L:List Ln):(L.map (fj a h)).map (·.node)=List.replicate L.length (a:Int):=by
 rw [List.map_map]
 induction L with
 | nil=>rfl
 | cons x L ih=>rw [List.map_cons,ih]; rfl
theorem Bc {l:List Nd} {a e:Nat} (he:e≤l.length) (h:bX l a e=true) (hae:a < e) (hk:(ndA l a).kind≠1):szI l a≤1:=by
 have ha:a < l.length:=by omega
 rw [ld ha] at hk
 rw [bX,dif_pos hae] at h
 simp only [List.getElem?_eq_getElem ha] at h
 split at h
 ·simp only [Ba,Bool.or_eq_true,decide_eq_true_eq] at h
  have:=h.1.1.resolve_left hk
  simp only [szI,List.getElem?_eq_getElem ha,Option.map_some,Option.getD_some]
  omega
 ·cases h
structure vw (l:List Nd) (s t:WS) (a e C:Nat):Prop where
 at':∀x∈t.atoms,AtI (1099511627776*(C:Int)) x
 nodes:∃cnt,t.atoms.map (·.node)=s.atoms.map (·.node)++blk cnt a (e - a)∧∀i,a≤i→i < e→okN (ndA l i) (cnt i)=true
theorem vw.join {l:List Nd} {s t u:WS} {a m e C D:Nat} (h1:a≤m) (h2:m≤e) (hA:vw l s t a m C) (hB:vw l t u m e D):vw l s u a e D:=by
 obtain ⟨_,f,hf,hfo⟩:=hA
 obtain ⟨hat,g,hg,hgo⟩:=hB
 refine ⟨hat,fun i=>if i < m then f i else g i,?_,fun i h3 h4=>?_⟩
 ·rw [hg,hf,List.append_assoc]
  congr 1
  obtain ⟨n,rfl⟩:∃n,m=a+n:=⟨m - a,by omega⟩
  obtain ⟨k,rfl⟩:∃k,e=a+n+k:=⟨e - (a+n),by omega⟩
  rw [show a+n - a=n by omega,show a+n+k - (a+n)=k by omega,show a+n+k - a=n+k by omega,Ek]
 ·simp only
  split
  ·exact hfo i h3 (by omega)
  ·exact hgo i (by omega) h4
theorem ui {l:List Nd} {rs:List Rm} (hD:DOk l rs):∀(k a e:Nat) (s:WS) (C:Nat),e - a≤k→a≤e→e≤l.length→bX l a e=true→fN s C→(∀x∈s.atoms,AtI (1099511627776*(C:Int)) x)→vw l s (dR l rs k a e s) a e (C+cst l a e)
 | 0,a,e,s,C,hk,hae,_,_,h,hx=>by
   obtain rfl:a=e:=by omega
   refine ⟨fun x hx'=>(hx x hx').mono (by omega),fun _=>0,by simp [dR,jw],fun i h1 h2=>by omega⟩
 | k+1,a,e,s,C,hk,hae,he,hr,h,hx=>by
   rw [dR]
   by_cases hlt:a < e
   ·rw [if_pos hlt]
    obtain ⟨h1,h2⟩:=cV he hr (Nat.le_refl a) hlt
    obtain ⟨h3,h4⟩:=dG he hr hlt
    have hno:NOk (ndA l a):=by rw [ld (by omega)]; exact gw hD.isb (by omega)
    have hc1:cst l a e=cst l a (a+(szI l a).toNat)+cst l (a+(szI l a).toNat) e:=jI (by omega) (by omega) he
    have hc2:cst l a (a+(szI l a).toNat)=4+(ndA l a).words.length+cst l (a+1) (a+(szI l a).toNat):=rH (by omega) (by omega)
    have step:∀t,fN t (C+cst l a (a+(szI l a).toNat))→vw l s t a (a+(szI l a).toNat) (C+cst l a (a+(szI l a).toNat))→vw l s (dR l rs k (a+(szI l a).toNat) e t) a e (C+cst l a e):=fun t ht hA=>by
     rw [hc1,←Nat.add_assoc]
     exact hA.join (by omega) (by omega) (ui hD k _ e t _ (by omega) (by omega) he h3 ht hA.at')
    have one:∀(t:WS) (n:Nat),okN (ndA l a) n=true→(szI l a).toNat=1→t.atoms.map (·.node)=s.atoms.map (·.node)++List.replicate n (a:Int)→(∀x∈t.atoms,AtI (1099511627776*((C+cst l a (a+(szI l a).toNat):Nat):Int)) x)→vw l s t a (a+(szI l a).toNat) (C+cst l a (a+(szI l a).toNat)):=fun t n hn hs1 hm hat=>by
     refine ⟨hat,fun _=>n,?_,fun i h5 h6=>?_⟩
     ·rw [hm,hs1,show a+1 - a=1 by omega,gG,jw,List.append_nil]
     ·obtain rfl:i=a:=by omega
      exact hn
    obtain ⟨⟨hf,p1,p2,p3,p4⟩,p5,p6⟩:=h
    have hI:fN s C:=⟨⟨hf,p1,p2,p3,p4⟩,p5,p6⟩
    by_cases k1:(ndA l a).kind=1
    ·rw [if_pos k1]
     have hI2:=fU hD k (a+1) (a+(szI l a).toNat) _ _ (by omega) (by omega) (by omega) h4 (fC hI hno.st)
     have hA2:=ui hD k (a+1) (a+(szI l a).toNat) (s.enter (ndA l a).st) (C+2) (by omega) (by omega) (by omega) h4 (fC hI hno.st) (fun x hx'=>(hx x hx').mono (by omega))
     refine step _ ((jY hI2 hno.st).more (by omega)) ?_
     obtain ⟨hat,cnt,hc,hco⟩:=hA2
     refine ⟨fun x hx'=>(hat x hx').mono (by omega),fun i=>if i=a then 0 else cnt i,?_,fun i h5 h6=>?_⟩
     ·have e1:(s.enter (ndA l a).st).atoms=s.atoms:=rfl
      rw [e1] at hc
      show (dR l rs k (a+1) (a+(szI l a).toNat) (s.enter (ndA l a).st)).atoms.map (·.node)=_
      rw [hc]
      congr 1
      obtain ⟨m,hm⟩:∃m,(szI l a).toNat=m+1:=⟨(szI l a).toNat - 1,by omega⟩
      rw [hm,show a+(m+1) - (a+1)=m by omega,show a+(m+1) - a=m+1 by omega,gG]
      simp only [if_true,List.replicate_zero,List.nil_append]
      exact lq m (a+1) fun i h5 h6=>by simp [show i≠a by omega]
     ·simp only
      split
      ·rename_i e; subst e
       simp [okN,k1]
      ·exact hco i (by omega) h6
    ·rw [if_neg k1]
     have hs1:(szI l a).toNat=1:=by
      have:=Bc he hr hlt k1
      omega
     by_cases k2:(ndA l a).kind=2
     ·rw [if_pos k2]
      refine step _ ((ll hI hno a).more (by omega)) ?_
      have hl:=hno.line
      obtain ⟨hw0,hl1⟩:=hno.text k2
      have hLl:=jV s.floats (ndA l a).words (ndA l a).space (ndA l a).line (ep rs a) (ndA l a).words.length 0 (s.pen.y+s.pen.m)
      have hLb:=gY (ws:=(ndA l a).words) (space:=(ndA l a).space) (s:=ep rs a) (fun f hf'=>(hf f hf').yB) hl.1 (ndA l a).words.length 0 (s.pen.y+s.pen.m)
      have hLn:di s.floats (ndA l a).words (ndA l a).space (ndA l a).line (ep rs a) (ndA l a).words.length 0 (s.pen.y+s.pen.m)≠[]:=by
       obtain ⟨m,hm⟩:∃m,(ndA l a).words.length=m+1:=⟨(ndA l a).words.length - 1,by omega⟩
       rw [hm,di,if_pos (by omega)]
       simp
      have hte:(s.text rs a (ndA l a)).atoms=s.atoms++(di s.floats (ndA l a).words (ndA l a).space (ndA l a).line (ep rs a) (ndA l a).words.length 0 (s.pen.y+s.pen.m)).map (fj a (ndA l a).line):=pt a _ _ s
      generalize di s.floats (ndA l a).words (ndA l a).space (ndA l a).line (ep rs a) (ndA l a).words.length 0 (s.pen.y+s.pen.m)=L at *
      have hL0:=List.length_pos_iff.2 hLn
      have hmul:(ndA l a).line*((ndA l a).words.length:Int)≤1099511627776*((ndA l a).words.length:Int):=Int.mul_le_mul_of_nonneg_right hl.2 (by omega)
      refine one _ L.length (by simp only [okN,k2,if_true,decide_eq_true_eq]; omega) hs1 (by rw [hte,List.map_append,EM]) (fun x hx'=>?_)
      rw [hte] at hx'
      rcases List.mem_append.1 hx' with hx' | hx'
      ·exact (hx x hx').mono (by omega)
      ·obtain ⟨y,hy,rfl⟩:=List.mem_map.1 hx'
       have:=hLb y hy
       refine ⟨?_,?_,hl1,hl.2⟩ <;> simp only [fj] <;> omega
     ·rw [if_neg k2]
      by_cases k3:(ndA l a).kind=3
      ·rw [if_pos k3]
       refine step _ ((ln hI hno a).more (by omega)) ?_
       have hyr:=eH (w:=(ndA l a).w) (high:=(ndA l a).h) (y:=s.pen.y+s.pen.m) (s:=ep rs a) (fun f hf'=>(hf f hf').yB)
       have hbx:=hno.box (.inl k3)
       have hh:=hno.h
       refine one _ 1 (by simp [okN,k3]) hs1 (by simp [WS.mono,WS.put]) (fun x hx'=>?_)
       simp only [WS.mono,WS.put] at hx'
       rcases List.mem_append.1 hx' with hx' | hx'
       ·exact (hx x hx').mono (by omega)
       ·simp only [List.mem_singleton] at hx'
        subst hx'
        refine ⟨?_,?_,?_,?_⟩ <;> simp only <;> omega
      ·rw [if_neg k3]
       have k4:(ndA l a).kind=4:=by rcases hno.kind with h | h | h | h; exact absurd h k1; exact absurd h k2; exact absurd h k3; exact h
       refine step _ ((jU hD hI (by omega) hno k4).more (by omega)) ?_
       exact one _ 0 (by simp [okN,k4]) hs1 (by simp [WS.float]) (fun x hx'=>(hx x hx').mono (by omega))
   ·rw [if_neg hlt]
    obtain rfl:a=e:=by omega
    exact ⟨fun x hx'=>(hx x hx').mono (by omega),fun _=>0,by simp [jw],fun i h1 h2=>by omega⟩
theorem CR (i:Int) (L:List Int) (h:∀x∈L,x≠i):∀k,tG i (List.replicate k i++L)=k
 | 0=>by
   cases L with
   | nil=>rfl
   | cons x L=>rw [List.replicate_zero,List.nil_append,tG,if_neg (h x (by simp))]
 | k+1=>by rw [List.replicate_succ,List.cons_append,tG,if_pos rfl,CR i L h k]
theorem ur {cnt:Nat→Nat}:∀ {n a:Nat} {x:Int},x∈blk cnt a n→∃i:Nat,x=i∧a≤i∧i < a+n
 | 0,_,_,h=>by simp [jw] at h
 | n+1,a,x,h=>by
   rw [gG] at h
   rcases List.mem_append.1 h with h | h
   ·exact ⟨a,(List.mem_replicate.1 h).2,by omega,by omega⟩
   ·obtain ⟨i,h1,h2,h3⟩:=ur h
    exact ⟨i,h1,by omega,by omega⟩
theorem vL {cnt:Nat→Nat} {of:List Int}:∀(r:List Nd) (i at':Nat),of.drop at'=blk cnt i r.length→at'≤of.length→(∀j (h:j < r.length),okN r[j] (cnt (i+j))=true)→wE of r i at'=true
 | [],i,at',h,hl,_=>by
   have:of.length≤at':=by
    have:=congrArg List.length h
    simp [jw] at this; omega
   simp [wE]; omega
 | x::r,i,at',h,hl,ho=>by
   rw [List.length_cons,gG] at h
   have ht:jW of at' i=cnt i:=by
    rw [jW,h]
    exact CR _ _ (fun y hy=>by obtain ⟨j,h1,h2,_⟩:=ur hy; omega) _
   rw [wE,ht]
   have h0:=ho 0 (by simp)
   simp only [List.getElem_cons_zero,Nat.add_zero] at h0
   rw [h0,Bool.true_and]
   have hd:of.drop (at'+cnt i)=blk cnt (i+1) r.length:=by
    rw [←List.drop_drop,h,List.drop_append_of_le_length (by simp)]
    simp
   refine vL r (i+1) _ hd ?_ (fun j hj=>?_)
   ·have:=congrArg List.length h
    simp at this; omega
   ·have:=ho (j+1) (by simpa using hj)
    simp only [List.getElem_cons_succ] at this
    rwa [show i+1+j=i+(j+1) by omega]
structure JK (l:List Nd) (w:Int):Prop where
 may:nZ l ((cW l w).atoms.map (·.node))=true
 nod:∀a∈(cW l w).atoms,0≤a.node∧a.node < l.length
 at':∀x∈(cW l w).atoms,AtI (1099511627776*((cst l 0 l.length:Nat):Int)) x
 len:(cW l w).atoms.length≤cst l 0 l.length
 flen:(cW l w).floats.length≤cst l 0 l.length
 flo:∀f∈(cW l w).floats,FOk (1099511627776*((cst l 0 l.length:Nat):Int)) f
theorem ye {l:List Nd} (hb:isB l=true) (hn:l.length≤2000) {w:Int} (h1:1≤w) (h2:w≤1099511627776):JK l w:=by
 have hD:=yU hb hn h1 h2
 have hr:bX l 0 l.length=true:=by simp only [isB,Ba] at hb; exact hb.2
 have hI:fN ⟨[],[],0,⟨0,0⟩⟩ 0:=⟨⟨by simp,by simp,by simp,by simp,by simp⟩,by simp,by simp⟩
 have hA:=ui hD l.length 0 l.length ⟨[],[],0,⟨0,0⟩⟩ 0 (by omega) (by omega) (Nat.le_refl _) hr hI (by simp)
 have hJ:=fU hD l.length 0 l.length ⟨[],[],0,⟨0,0⟩⟩ 0 (by omega) (by omega) (Nat.le_refl _) hr hI
 rw [Nat.zero_add] at hA hJ
 have ha:(cW l w).atoms=(dR l (j1 l w) l.length 0 l.length ⟨[],[],0,⟨0,0⟩⟩).atoms:=rfl
 have hf:(cW l w).floats=(dR l (j1 l w) l.length 0 l.length ⟨[],[],0,⟨0,0⟩⟩).floats.map (ra (dR l (j1 l w) l.length 0 l.length ⟨[],[],0,⟨0,0⟩⟩).atoms.length):=rfl
 obtain ⟨hat,cnt,hc,hco⟩:=hA
 rw [List.map_nil,List.nil_append,Nat.sub_zero] at hc
 refine ⟨?_,fun a hm=>?_,by rw [ha]; exact hat,by rw [ha]; exact hJ.at',by rw [hf,List.length_map]; exact hJ.fl,fun f hm=>?_⟩
 ·rw [ha,hc]
  refine vL (cnt:=cnt) l 0 0 (by simpa using hc) (Nat.zero_le _) (fun j hj=>?_)
  have:=hco j (Nat.zero_le _) hj
  rw [ld hj] at this
  rwa [Nat.zero_add]
 ·have hm':a.node∈blk cnt 0 l.length:=by rw [←hc,←ha]; exact List.mem_map_of_mem hm
  obtain ⟨i,e,_,hi⟩:=ur hm'
  omega
 ·rw [hf] at hm
  obtain ⟨g,hg,rfl⟩:=List.mem_map.1 hm
  have:=hJ.bd.fl g hg
  exact ⟨this.1,this.2,this.3,this.4,this.5,this.6,this.7,this.8⟩
theorem rO:∀(l:List Nd),(∀x∈l,NOk x)→((l.map fun n=>4+n.words.length).sum:Nat)≤4*(l.length:Int)+ji l∧∀x∈l,(x.words.length:Int)≤ji l
 | [],_=>by simp [ji]
 | x::l,h=>by
   obtain ⟨h1,h2⟩:=rO l (fun y hy=>h y (by simp [hy]))
   have hx:=h x (by simp)
   have hp:(x.words.length:Int)≤pof x∧0≤pof x:=by
    unfold pof
    by_cases k1:x.kind=1
    ·have:=hx.nowords (by omega); simp [k1,this]
    ·by_cases k2:x.kind=2
     ·simp [k2]
     ·have:=hx.nowords k2; simp [k1,k2,this]
   have hp0:0≤ji l:=by
    have:∀l:List Nd,0≤ji l:=by
     intro l
     induction l with
     | nil=>simp [ji]
     | cons y l ih =>
       have:0≤pof y:=by unfold pof; split; omega; split; omega; omega
       simp only [ji]; omega
    exact this l
   refine ⟨by simp only [List.map_cons,List.sum_cons,List.length_cons,ji]; omega,fun y hy=>?_⟩
   rcases List.mem_cons.1 hy with rfl | hy
   ·simp only [ji]; omega
   ·have:=h2 y hy; simp only [ji]; omega
structure JL (l:List Nd):Prop where
 isb:isB l=true
 len:l.length≤2000
 words:∀x∈l,x.words.length≤2000
 cst:cst l 0 l.length≤10000
theorem yp {l:List Nd} (h:gl l=0):JL l:=by
 unfold gl at h
 split at h
 ·rename_i hb
  split at h
  ·cases h
  ·rename_i hc
   have hall:l.all Nd.ok=true:=by simp only [isB,Ba] at hb; exact hb.1
   rw [jm,if_pos hb,rK l hall l.length (Nat.le_refl _),List.take_length] at hc
   simp only [not_or] at hc
   obtain ⟨h1,h2⟩:=rO l (fun x hx=>by obtain ⟨i,hi,rfl⟩:=List.getElem_of_mem hx; exact gw hb hi)
   refine ⟨hb,by omega,fun x hx=>by have:=h2 x hx; omega,?_⟩
   have:Vc.cst l 0 l.length=(l.map fun n=>4+n.words.length).sum:=by unfold Vc.cst; rw [List.take_length,List.drop_zero]
   omega
 ·cases h
open Go.Proofs Go.Proofs.Tryz
theorem ad.Fa {P:Program} {n:Nat} {Q:St→Prop} {s:Nat→V} {σ K:af} {todo:List It} (l ds:List Nat) {e sz:Nat} {v:V} {rows:List V} (hK:aa K σ) (ho:aS K σ e sz v rows)
 (hs:∀d∈ds,s d=v) (hr:ad P n todo ⟨fun i=>if ds.contains i then .sl sz rows else zR l s i,K⟩ Q):ad P n todo ⟨s,σ⟩ Q:=by
 refine ad.weaken ⟨hK,fun i=>?_⟩ hr
 show Wk σ K (s i) _
 by_cases hi:ds.contains i=true
 ·simp only [if_pos hi]
  rw [hs i (by simpa using hi)]
  exact ho.wk (aa.refl K) hK
 ·simp only [if_neg hi]
  unfold zR
  split
  ·exact Wk.refl hK _
  ·exact Wk.undef _
def ofR (l:List Nd) (w:Int):List Int:=(cW l w).atoms.map (·.node)
def fc (l:List Nd) (w h:Int):Bk:=⟨l,w,h,(cW l w).atoms,(cW l w).floats,(cW l w).height,pK l (ofR l w)⟩
def x5 (n:Int):Prop:=1≤n∧n≤1099511627776
instance (n:Int):Decidable (x5 n):=by unfold x5; infer_instance
def jl (l:List Nd) (w h:Int):Int:=if ¬(x5 w∧x5 h) then 3 else if gl l≠0 then gl l else if (jm l).1.heights > mulR (ke l h) 32768 then 2 else 0
def xJ (l:List Nd) (w h:Int):V:=if jl l w h=0 then .rp (bw (fc l w h)) else .nilp
theorem eT.Dq {K σ:af} {id:Nat} {o:Ob} (hK:K id≠none):∀ {l:List Nd} {rows:List V},eT K σ l rows→eT K (upd σ id o) l rows
 | [],[],_=>trivial
 | _::_,_::_,⟨⟨w,h1,h2⟩,h⟩=>⟨⟨w,h1,h2.ab hK⟩,eT.Dq hK h⟩
 | [],_::_,h=>h.elim
 | _::_,[],h=>h.elim
theorem wa.Dq {K σ:af} {id:Nat} {o:Ob} (hK:K id≠none) {v:V} {l:List Nd} (h:wa K σ v l):wa K (upd σ id o) v l:=by
 obtain ⟨rows,ho,hr⟩:=h
 exact ⟨rows,ho.ab hK,hr.Dq hK⟩
theorem mP {α:Type} {f:α→V} (h:∀a,(f a).dQ=true):∀l:List α,fT (l.map f)=true
 | []=>rfl
 | a::l=>by simp only [List.map_cons,fT,h a,mP h l,Bool.and_self]
theorem KQ (l:List Int) (σ:af):bM σ false 1 (.rp (bj l))=some (bj l):=rfl
def rA (vn:V) (w h:Int) (va vf:V) (ht:Int) (vb:V):Ob:=⟨88,7,[.agg [vn,vI w,vI h,va,vf,vI ht,vb]]⟩
theorem C6 {σ τ:af} {ib:Nat} {b:Bk} {vn:V} (hs:aa σ τ) (z:σ ib=none) (hr:τ ib=some (rA vn b.w b.h (bt b.atoms) (aF b.fls) b.height (bG b.brks))) (ho:wa (aY σ ib) τ vn b.nodes) :
 ar (.tup [.ptr ib 0 0,vI 0]) τ fun r σ'=>r=.tup [.rp (bw b),vI 0]∧σ'=σ:=by
 have hN:∀id,aY σ ib id=none→σ id=none:=fun id h=>(aH.1 h).2
 have n1:fT [bt b.atoms,aF b.fls,vI b.height,bG b.brks]=true:=by
  have a1:(bt b.atoms).dQ=true:=mP (f:=cB) (fun _=>rfl) b.atoms
  have a2:(aF b.fls).dQ=true:=mP (f:=aP) (fun _=>rfl) b.fls
  have a3:(bG b.brks).dQ=true:=mP (f:=eN) (fun _=>rfl) b.brks
  simp only [fT,a1,a2,a3]; rfl
 have hf:Fz τ (fun id=>σ id=none) (.tup [.ptr ib 0 0,vI 0]) (.tup [.rp (bw b),vI 0]):=by
  refine .tup _ _ (.cons _ _ _ _ (.ptr ib 0 _ _ _ hr z rfl (.agg _ _ ?_)) (FzL.same [vI 0] rfl))
  exact .cons _ _ _ _ (ho.fz hN) (.cons _ _ _ _ (.same _ rfl) (.cons _ _ _ _ (.same _ rfl) (FzL.same _ n1)))
 exact ⟨_,σ,hs,hf.wk hs (fun _ h=>h),rfl,rfl⟩
theorem FG (l:List Nd) (hl:eA l) (w h:Int):aT prog 8 [aI l,vI w,vI h] (.tup [xJ l w h,vI (jl l w h)]):=fun σ=>by
 refine e8.r (by simp [c8]) ?_
 have hs:=aa.refl σ
 have bad:∀n:Int,jl l w h=n→n≠0→(xJ l w h=.nilp∧jl l w h=n):=fun n hn h0=>⟨by rw [xJ,if_neg (by rw [hn]; exact h0)],hn⟩
 refine ad.mix 16 ?_
 by_cases hw:x5 w
 ·have mw:=n9 w
  rw [show decide (1≤w∧w≤1099511627776)=true from decide_eq_true hw] at mw
  apply sR;simp only [go_sem,seval,c8]
  refine ad.av rfl rfl rfl (mw _) ?_
  apply sR;simp only [go_sem,seval]
  by_cases hh:x5 h
  ·have mh:=n9 h
   rw [show decide (1≤h∧h≤1099511627776)=true from decide_eq_true hh] at mh
   refine ad.av rfl rfl rfl (mh _) ?_
   apply sR;simp only [go_sem,seval]
   refine ad.av rfl rfl rfl (xA l hl _) ?_
   by_cases hc:gl l=0
   ·have q:(gl l≠0)=False:=eq_false (fun h=>h hc)
    have hck:=xA l hl
    rw [hc] at hck q ⊢
    apply sR;simp only [go_sem,seval,q]
    refine ad.av rfl rfl rfl (vk l hl _) ?_
    apply sR;simp only [go_sem,seval,Sm.cells]
    refine ae fun i9 σ9 s9 a9 f9=>?_
    have z9:=hs.none f9
    replace hs:=hs.trans s9
    simp only [go_sem,seval,a9]
    generalize hq9:upd _ i9 _=τ9
    replace a9:=(congrFun hq9 i9).symm.trans ag
    replace hs:=Eq.subst (motive:=aa _) hq9 (hs.aC z9)
    clear hq9
    refine Go.cp rfl rfl rfl (C1 l hl h) ?_
    apply sG;simp only [go_sem,seval]
    refine Go.cp rfl rfl rfl (JT (ke l h) 32768) ?_
    have hE:jl l w h=if (jm l).1.heights > mulR (ke l h) 32768 then 2 else 0:=by rw [jl,if_neg (fun h=>h ⟨hw,hh⟩),if_neg (fun h=>h hc)]
    by_cases hlim:(jm l).1.heights > mulR (ke l h) 32768
    ·have q1:((jm l).1.heights > mulR (ke l h) 32768)=True:=eq_true hlim
     obtain ⟨e1,e2⟩:=bad 2 (by rw [hE,if_pos hlim]) (by decide)
     rw [e1,e2]
     apply sG;simp only [go_sem,seval,a9,q1]
     exact ar.pure hs rfl
    have q1:((jm l).1.heights > mulR (ke l h) 32768)=False:=eq_false hlim
    have e2:jl l w h=0:=by rw [hE,if_neg hlim]
    have e1:xJ l w h=.rp (bw (fc l w h)):=by rw [xJ,if_pos e2]
    rw [e1,e2]
    obtain ⟨hisb,hn2,hwo,hcs⟩:=yp hc
    have hG:=ye hisb hn2 hw.1 hw.2
    have hfl:=IY l hl hisb hn2 (fun x hx=>by have:=hwo x hx; omega) (by omega) hck w hw.1 hw.2
    apply sG;simp only [go_sem,seval,a9,q1]
    refine ad.call rfl rfl rfl (Fl l hl.1 _) ?_
    rintro vn σ10 ⟨hs10,ho10⟩
    replace ho10:=ho10.I6 hs
    replace hs:=hs.trans hs10
    obtain ⟨cn,sn⟩:=ho10.vc
    have hnl:=ho10.len
    rw [List.length_map] at hnl
    apply sR;simp only [go_sem,seval,cn,sn]
    refine ae fun i46 σ46 s46 a46 f46=>?_
    have z46:=hs.none f46
    replace hs:=hs.trans s46
    have ho46:aS (aY σ i46) σ46 73 20 vn (l.map gk):=by
     rcases ho10 with h | ⟨id,h3,h4,h5⟩
     ·exact .inl h
     ·exact .inr ⟨id,h3,s46 _ _ h4,aH.2 ⟨fun e=>(by rw [e,f46] at h4; cases h4),h5⟩⟩
    have k46:aY σ i46 i46≠none:=fun h=>(aH.1 h).1 rfl
    simp only [go_sem,seval,a46,hnl]
    refine ad.fE (fun st=>aa σ st.σ∧wa (aY σ i46) st.σ vn l∧st.σ i46=some (rA vn w h .aM .aM 0 .aM)∧st.s 0=aI l∧st.s 1=vI w∧st.s 11=.ptr i46 0 0)
     (fun m st=>∃(i:Nat) (rows:List V),i≤l.length∧m=l.length - i∧aa σ st.σ∧aS (aY σ i46) st.σ 73 20 vn rows∧rows.length=l.length∧eT (aY σ i46) st.σ (l.take i) (rows.take i)∧rows.drop i=(l.drop i).map gk∧st.σ i46=some (rA vn w h .aM .aM 0 .aM) ∧
       st.s 0=aI l∧st.s 1=vI w∧st.s 11=.ptr i46 0 0∧st.s 51=vI l.length∧st.s 52=vI i) l.length ?_ ?_ ?_
    ·exact ⟨0,l.map gk,by omega,rfl,hs,ho46,by simp,trivial,by simp,a46,rfl,rfl,rfl,rfl,rfl⟩
    ·clear hs ho46 a46 ho10 a9
     rintro m ⟨S,τ⟩ ⟨i,rows,hi,rfl,hs,ho,hn,hr,hd,hb,t0,t1,t11,t51,t52⟩
     simp only at hs ho hr hb t0 t1 t11 t51 t52
     refine ad.mix 60 ?_
     by_cases hlt:i < l.length
     ·have q:((i:Int) < l.length)=True:=eq_true (by omega)
      obtain ⟨id,rfl,hid,hkid⟩:∃id,vn=.own id 0 rows.length∧τ id=some ⟨73,20,rows⟩∧aY σ i46 id=none:=by
       rcases ho with ⟨_,h0⟩ | h
       ·rw [h0] at hn; simp at hn; omega
       ·exact h
      have hdc:(l.drop i)=l[i]::l.drop (i+1):=List.drop_eq_getElem_cons hlt
      have hw':=hwo _ (List.getElem_mem hlt)
      have htk:l.take (i+1)=l.take i++[l[i]]:=List.take_succ_eq_append_getElem hlt
      have hnd:=fun σ=>gU l hlt σ
      generalize hxe:l[i]=x at *
      have hrow':rows[i]?=some (.agg x.cells):=by
       have:(rows.drop i)[0]?=some (gk x):=by rw [hd,hdc]; rfl
       rw [List.getElem?_drop] at this
       exact this
      have hne:id≠i46:=(aH.1 hkid).1
      have hio:∀τ':af,τ' id=some ⟨73,20,rows⟩→bF τ' 20 (.own id 0 rows.length) (.int .i64 i)=some (.ptr id i 0):=fun τ' h=>iR h (by omega)
      have r1:inR .i64 ((i:Int)+1):=ak (by omega) (by omega)
      rw [rA] at hb
      apply sR;simp only [go_sem,seval,t0,t1,t11,t51,t52,q,ct]
      refine ad.nX (by kernel_rfl) [0,1,2,3,4,5,6,7,8,9,10,11,12,13] [[],[0],[0,1],[0,1,2],[],[],[],[5,6],[5,6,7],[5,6,7,8],[5,6,7,8,9],[0,1,2,3,4,5,6,7,8,9,10],[0,1,2,3,4,5,6,7,8,9,10,11],[0,1,2,3,4,5,6,7,8,9,10,11,12]] [0,2,4,6,8,10,12,14,16,18,20,7,22,24,26] (by kernel_rfl) (by kernel_rfl) ?_
      refine RE.seg (n:=0) [20,7,22,24,26] [0,2,4,6,8,10,12,14,16,18] [⟨(.some 55),(.mov (.t 11)),.none⟩,⟨(.some 56),(.nilCheck (.t 55)),.none⟩,⟨(.some 57),(.fldA .false 0 1 (.t 56)),.none⟩,⟨(.some 58),(.load .false 1 (.t 57)),.none⟩,⟨(.some 59),(.mov (.t 12)),.none⟩,⟨(.some 60),(.mov (.t 0)),.none⟩,⟨(.some 61),(.mov (.t 12)),.none⟩,⟨(.some 62),(.idxA 20 (.t 60) (.t 61)),.none⟩,⟨(.some 63),(.fldA .false 16 1 (.t 62)),.none⟩,⟨(.some 64),(.load .false 1 (.t 63)),.none⟩] rfl rfl ?_
      apply sG;simp only [go_sem,seval,t0,t11,hb,hnd,Nd.cells,KQ]
      refine RE.call rfl rfl rfl rfl rfl (Cq x.words (by omega) _) ?_
      rintro wv σ2 ⟨hs2,hw2⟩
      simp only at hs2 hw2
      have hid2:=hs2 _ _ hid
      have hb2:=hs2 _ _ hb
      obtain ⟨cw,sw⟩:=hw2.vc
      have hio2:=hio _ hid2
      refine RE.chk rfl rfl rfl rfl rfl trivial (by simp only [go_sem,seval,t0,t11,hb2]) ?_
      refine RE.seg (n:=0) [] [22,24,26] [⟨(.some 66),(.idxA 20 (.t 58) (.t 59)),.none⟩,⟨(.some 67),(.fldA .false 16 1 (.t 66)),.none⟩,⟨.none,(.store 1 (.t 67) (.t 65)),.none⟩] rfl rfl ?_
      apply sG;simp only [go_sem,seval,t0,t11,hb2,hio2,hid2,hrow',Nd.cells,cw,sw]
      have hk46:aY σ i46 id=none:=hkid
      have hsf:aa σ (upd σ2 id ⟨73,20,rows.set i (ndW x wv)⟩):=(hs.trans hs2).aC (aH.1 hkid).2
      have hk2:∀j,j≠id→∀o,σ2 j=some o→upd σ2 id ⟨73,20,rows.set i (ndW x wv)⟩ j=some o:=fun j hj o hjo=>by rw [ab hj]; exact hjo
      have h1:=(hr.mono hs2).kept hid2 hk2
      have hkl:aa (aY σ i46) (aY τ i46):=fun j o hj=>by
       unfold aY at hj ⊢
       split
       ·rename_i e; rw [if_pos e] at hj; exact hj
       ·rename_i e; rw [if_neg e] at hj; exact hs _ _ hj
      have h2:aS (aY σ i46) (upd σ2 id ⟨73,20,rows.set i (ndW x wv)⟩) 3 1 wv (x.words.map vI):=by
       rcases hw2 with h | ⟨iw,e1,e2,e3⟩
       ·exact .inl h
       ·have n1:iw≠id:=fun e=>by rw [e,hid2] at e2; simp at e2
        refine .inr ⟨iw,e1,by rw [ab n1]; exact e2,aH.2 ⟨fun e=>(by rw [e,hb] at e3; cases e3),hs.none e3⟩⟩
      have h3:(rows.set i (ndW x wv)).take (i+1)=rows.take i++[ndW x wv]:=by
       rw [List.take_succ_eq_append_getElem (by simp; omega),List.take_set_of_le (by omega)]
       simp
      apply sR;simp only [go_sem,seval,t0,t1,t11,t51,t52,r1]
      refine ⟨_,?_,i+1,rows.set i (ndW x wv),by omega,rfl,hsf, .inr ⟨id,by rw [List.length_set],ag,hkid⟩,by simp [hn],?_,?_,?_,rfl⟩
      ·omega
      ·rw [h3,htk]
       exact h1.app ⟨⟨wv,rfl,h2⟩,trivial⟩
      ·rw [List.drop_set_of_lt (by omega)]
       have:rows.drop (i+1)=(rows.drop i).drop 1:=by simp
       rw [this,hd,hdc]
       rfl
      ·exact (ab hne.symm).trans hb2
     ·have q:((i:Int) < l.length)=False:=eq_false (by omega)
      have hie:i=l.length:=by omega
      subst hie
      rw [List.take_length,List.take_of_length_le (by omega)] at hr
      apply sR;simp only [go_sem,seval,t0,t1,t11,t51,t52,q]
      exact ⟨hs,⟨rows,ho,hr⟩,hb⟩
    ·clear hs ho46 a46 ho10 a9
     rintro ⟨S,τ⟩ ⟨hs,how,hb,t0,t1,t11⟩
     simp only at hs how hb t0 t1 t11
     have hla:=gv (cW l w).atoms
     have hal:=hG.len
     have hbr:=HN l hl hisb (ofR l w) (by rw [ofR,List.length_map]; omega) (fun x hx=>by
      obtain ⟨a,ha,rfl⟩:=List.mem_map.1 hx
      exact hG.nod a ha) hG.may
     have hofe:ofR l w=(cW l w).atoms.map (·.node):=rfl
     rw [rA] at hb
     rw [BN] at hfl
     refine ad.mix 16 ?_
     apply sR;simp only [go_sem,seval,t0,t1,t11]
     refine ad.av rfl rfl rfl (hfl _) ?_
     apply sR;simp only [go_sem,seval,t11,hb,hla,ay,az,aL,aN]
     generalize hq:upd τ i46 _=τ0
     have hb0:τ0 i46=some (rA vn w h (bt (cW l w).atoms) (aF (cW l w).floats) (cW l w).height .aM):=by rw [←hq]; exact ag
     have hs0:aa σ τ0:=hq ▸ hs.aC z46
     have how0:wa (aY σ i46) τ0 vn l:=hq ▸ how.Dq k46
     clear hq hs how hb
     refine ad.fE (fun st=>aa τ0 st.σ∧aS τ0 st.σ 3 1 (st.s 13) ((ofR l w).map vI)∧st.s 0=aI l∧st.s 11=.ptr i46 0 0)
      (fun m st=>∃j:Nat,j≤(cW l w).atoms.length∧m=(cW l w).atoms.length - j∧aa τ0 st.σ∧aS τ0 st.σ 3 1 (st.s 13) ((((cW l w).atoms.take j).map (·.node)).map vI)∧st.s 0=aI l∧st.s 11=.ptr i46 0 0∧st.s 82=bt (cW l w).atoms∧st.s 83=vI (cW l w).atoms.length∧st.s 84=vI j) (cW l w).atoms.length ?_ ?_ ?_
     ·exact ⟨0,by omega,rfl,aa.refl _,aS.start,t0,t11,rfl,rfl,rfl⟩
     ·clear t0 t1 t11
      rintro m ⟨S,τ⟩ ⟨j,hj,rfl,hsj,ho,t0,t11,t82,t83,t84⟩
      simp only at hsj ho t0 t11 t82 t83 t84
      generalize hv13:S 13=v13 at ho
      refine ad.mix 85 ?_
      by_cases hlt:j < (cW l w).atoms.length
      ·have q:((j:Int) < (cW l w).atoms.length)=True:=eq_true (by omega)
       have hidx:=fun σ=>fI (σ:=σ) hlt
       have hrows:(((cW l w).atoms.take (j+1)).map (·.node)).map vI=(((cW l w).atoms.take j).map (·.node)).map vI++[vI (cW l w).atoms[j].node]:=by
        rw [List.take_succ_eq_append_getElem hlt,List.map_append,List.map_append]; rfl
       have hlm:((((cW l w).atoms.take j).map (·.node)).map vI).length=j:=by rw [List.length_map,List.length_map,List.length_take]; omega
       have hat:cB (cW l w).atoms[j]=.agg [vI (cW l w).atoms[j].kind,vI (cW l w).atoms[j].node,vI (cW l w).atoms[j].fr,vI (cW l w).atoms[j].to,vI (cW l w).atoms[j].x,vI (cW l w).atoms[j].y,vI (cW l w).atoms[j].w,vI (cW l w).atoms[j].h]:=rfl
       generalize (((cW l w).atoms.take j).map (·.node)).map vI=rows at *
       generalize (cW l w).atoms[j]=x at *
       have r1:inR .i64 ((j:Int)+1):=ak (by omega) (by omega)
       have hs:=aa.refl τ
       apply sR;simp only [go_sem,seval,t0,t11,t82,t83,t84,hv13,q,hidx,hat]
       refine ae fun i15 σ15 s15 a15 f15=>?_
       have z15:=hs.none f15
       replace hs:=hs.trans s15
       simp only [go_sem,seval,a15,t0,t11,t82,t83,t84,hv13]
       generalize hq15:upd _ i15 _=τ15
       replace a15:=(congrFun hq15 i15).symm.trans ag
       replace hs:=Eq.subst (motive:=aa _) hq15 (hs.aC z15)
       clear hq15
       refine ae fun i91 σ91 s91 a91 f91=>?_
       obtain ⟨idA,hda,hdel⟩:=ho.dst (hs.trans s91)
       have hb2:(rows.length+1)*9≤140737488355328:=by omega
       simp only [go_sem,seval,hda,dx a91,hb2]
       refine eL fun i92 σ92 s92 a92 f92=>?_
       have k92:=(hdel τ0 (aa.refl _) σ91 (hsj.trans (hs.trans s91))).trans s92
       have n92:τ0 i92=none:=(hsj.trans (hs.trans s91)).none f92
       simp only [go_sem,seval,t0,t11,t82,t83,t84,r1]
       refine ⟨_,?_,j+1,by omega,rfl,k92,?_,rfl⟩
       ·omega
       ·rw [hrows]
        exact aS.new (by simp) a92 n92
      ·have q:((j:Int) < (cW l w).atoms.length)=False:=eq_false (by omega)
       have hje:j=(cW l w).atoms.length:=by omega
       rw [hje,List.take_length,←hofe] at ho
       apply sR;simp only [go_sem,seval,t0,t11,t82,t83,t84,hv13,q]
       exact ⟨hsj,ho⟩
     ·clear t0 t1 t11
      rintro ⟨S,τ⟩ ⟨hsj,ho,t0,t11⟩
      simp only at hsj ho t0 t11
      refine ad.Fa [0,11] [13] hsj ho (by simp) ?_
      generalize hS:(fun i=>if [13].contains i then V.sl 1 ((ofR l w).map vI) else zR [0,11] S i)=S'
      have u0:S' 0=aI l:=by rw [←hS]; exact t0
      have u11:S' 11=.ptr i46 0 0:=by rw [←hS]; exact t11
      have u13:S' 13=bj (ofR l w):=by rw [←hS]; rfl
      clear hS t0 t11
      refine ad.mix 16 ?_
      rw [rA] at hb0
      apply sR;simp only [go_sem,seval,u0,u11,u13]
      refine ad.av rfl rfl rfl (hbr _) ?_
      apply sR;simp only [go_sem,seval,u11,hb0,mM,nH]
      exact C6 (b:=fc l w h) (hs0.aC z46) z46 ag (how0.Dq k46)
   ·have q:(gl l≠0)=True:=eq_true hc
    obtain ⟨e1,e2⟩:=bad (gl l) (by rw [jl,if_neg (fun h=>h ⟨hw,hh⟩),if_pos hc]) hc
    rw [e1,e2]
    apply sR;simp only [go_sem,seval,q]
    exact ar.pure hs rfl
  ·have mh:=n9 h
   rw [show decide (1≤h∧h≤1099511627776)=false from decide_eq_false hh] at mh
   obtain ⟨e1,e2⟩:=bad 3 (by rw [jl,if_pos (fun h=>hh h.2)]) (by decide)
   rw [e1,e2]
   refine ad.av rfl rfl rfl (mh _) ?_
   apply sR;simp only [go_sem,seval]
   exact ar.pure hs rfl
 ·have mw:=n9 w
  rw [show decide (1≤w∧w≤1099511627776)=false from decide_eq_false hw] at mw
  obtain ⟨e1,e2⟩:=bad 3 (by rw [jl,if_pos (fun h=>hw h.1)]) (by decide)
  rw [e1,e2]
  apply sR;simp only [go_sem,seval,c8]
  refine ad.av rfl rfl rfl (mw _) ?_
  apply sR;simp only [go_sem,seval]
  exact ar.pure hs rfl
theorem tN {l:List Nd} {w h:Int} (he:jl l w h=0):x5 w∧x5 h∧gl l=0:=by
 unfold jl at he
 split at he
 ·cases he
 ·rename_i h1
  split at he
  ·rename_i h2; exact absurd he h2
  ·rename_i h2
   exact ⟨Decidable.byContradiction fun h=>h1 (fun g=>h g.1),Decidable.byContradiction fun h=>h1 (fun g=>h g.2),Decidable.byContradiction h2⟩
theorem BC {l:List Nd} (hl:eA l) {w h:Int} (he:jl l w h=0):BkFull (fc l w h)∧∀f∈(fc l w h).fls,0≤f.h:=by
 obtain ⟨hw,hh,hc⟩:=tN he
 obtain ⟨hisb,hn,hwo,hcs⟩:=yp hc
 have hG:=ye hisb hn hw.1 hw.2
 have hl1:=hG.len
 have hl2:=hG.flen
 have hb:(1099511627776:Int)*((cst l 0 l.length:Nat):Int)≤10995116277760000:=by omega
 have ht:∀a∈(cW l w).atoms, -18014398509481984≤a.y∧a.y≤18014398509481984∧0≤a.h∧a.h≤18014398509481984:=fun a ha=>by
  have:=hG.at' a ha
  have h0:=this.y0; have h1:=this.y1; have h2:=this.h0; have h3:=this.h1
  omega
 refine ⟨⟨⟨⟨?_,fun a ha=>?_⟩,ht,?_,?_,fun f hf=>(hG.flo f hf).ok (by omega),?_⟩,hl,hisb,hh.1,hh.2,hG.nod⟩,fun f hf=>(hG.flo f hf).h0⟩
 ·show (cW l w).atoms.length≤_; omega
 ·have:=ht a ha; omega
 ·show (cW l w).atoms.length≤_; omega
 ·show (cW l w).floats.length≤_; omega
 ·show (pK l (ofR l w)).length=(cW l w).atoms.length+1
  unfold pK ofR
  simp
theorem A2 {body:Int} (f:Flo) (r:List Flo):(dV body (f::r) 0).2.1.length < (f::r).length:=by
 have key:∀(l:List Flo) (sh:Int),(dV body l sh).2.1.length≤l.length:=by
  intro l
  induction l with
  | nil=>intro sh; simp [dV]
  | cons g l ih =>
    intro sh
    rw [dV]
    split
    ·simp
    ·have:=ih (sh+min g.h body); simp only [List.length_cons]; omega
 rw [dV,if_neg (by omega)]
 have:=key r (0+min f.h body)
 simp only [List.length_cons]
 omega
theorem kT {b:Bk} {s:Stt} {to kept shift body:Int}:(dM b.atoms b.fls s to kept shift body).2.length≤b.fls.length:=by
 unfold dM
 split
 ·have h1:=lp (qG b.atoms s kept) shift body (fa b.fls s to)
  have h2:(fa b.fls s to).length≤b.fls.length:=lE _ _ _
  omega
 ·simp
inductive kx (b:Bk) (x:Wx):Sta→Prop
 | whole (c:Nat) (fr:Bool) (p:List Flo) (h1:x.s.atom < c) (h2:c≤b.atoms.length) (h3:p.length≤b.fls.length):kx b x ⟨⟨c,0,fr⟩,p⟩
 | more (d:Int) (p:List Flo) (h1:x.s.done < d) (h2:d < (atG b.atoms x.s.atom).h) (h3:p.length≤b.fls.length):kx b x ⟨⟨x.s.atom,d,false⟩,p⟩
theorem AS {b:Bk} (hb:BkOk b) {x:Wx} (hm:dn b.atoms x.s) (hpos:∀a∈b.atoms,1≤a.h) (hbody:1≤x.body):kx b x (fo b x):=by
 have hrl:dE b x≤b.atoms.length:=nS
 have hbl:=hb.brk
 unfold fo
 split
 ·rename_i hok
  obtain ⟨c,h1,h2,h3⟩:=qQ hok (by omega)
  rw [show uR b x=c from h1,Int.toNat_natCast]
  exact .whole c _ _ h2 (by omega) kT
 ·unfold tE ed
  have hso:od b.atoms x.s x.body:=⟨hm,hbody⟩
  rw [if_pos (show od b.atoms ({ x with kind:=1 }:Wx).s ({ x with kind:=1 }:Wx).body from hso)]
  obtain ⟨⟨h0,h1⟩,h2,h3⟩:=hm
  obtain ⟨k,hk⟩:∃k:Nat,x.s.atom=k:=⟨x.s.atom.toNat,by omega⟩
  have hkl:k < b.atoms.length:=by omega
  have hp:=hpos _ (List.getElem_mem hkl)
  have ha:atG b.atoms x.s.atom=b.atoms[k]:=by rw [hk,br hkl]
  rw [ha] at h3
  have hph:(fg b.atoms x.s.atom).h=b.atoms[k].h:=by rw [fg,ha]
  unfold iY
  have e1:(eU b.atoms x.s x.body).fr=x.s.done:=rfl
  have e2:(eU b.atoms x.s x.body).atom=x.s.atom:=rfl
  have e3:(eU b.atoms x.s x.body).h=min (b.atoms[k].h - x.s.done) x.body:=by rw [←hph]; rfl
  split
  ·rename_i hlt
   have hlt':x.s.done+min (b.atoms[k].h - x.s.done) x.body < (atG b.atoms x.s.atom).h:=by rw [←e3]; exact hlt
   have:=kx.more (b:=b) (x:=x) (x.s.done+min (b.atoms[k].h - x.s.done) x.body) (dM b.atoms b.fls x.s (x.s.atom+1) 0 0 x.body).2 (by omega) hlt' kT
   rw [←e3] at this
   exact this
  ·have:=kx.whole (b:=b) (x:=x) (k+1) false (dM b.atoms b.fls x.s (x.s.atom+1) 0 0 x.body).2 (by omega) (by omega) kT
   have e4:((k+1:Nat):Int)=x.s.atom+1:=by omega
   rw [e4] at this
   exact this
structure SkI (s:WS):Prop where
 pw:s.atoms.Pairwise fun a b=>a.y+a.h≤b.y
 q:∀a∈s.atoms,a.y+a.h≤s.pen.y
theorem SkI.put {s:WS} (h:SkI s) {a:Atm} (h1:s.pen.y≤a.y) (h2:0≤a.h):SkI (s.put a):=by
 refine ⟨?_,fun x hx=>?_⟩
 ·simp only [WS.put]
  rw [List.pairwise_append]
  refine ⟨h.pw,by simp,fun x hx y hy=>?_⟩
  simp only [List.mem_singleton] at hy
  subst hy
  have:=h.q x hx
  omega
 ·simp only [WS.put] at hx ⊢
  rcases List.mem_append.1 hx with hx | hx
  ·have:=h.q x hx; omega
  ·simp only [List.mem_singleton] at hx; subst hx; omega
theorem SkI.pen {s:WS} (h:SkI s) {p:Pn} (hp:s.pen.y≤p.y):SkI { s with pen:=p }:=⟨h.pw,fun a ha=>by have:=h.q a ha; simp only; omega⟩
theorem Aa {p:Pn} {m d:Int} (h0:0≤p.m) (hd:0≤d):p.y≤(dC p m d).y:=by
 simp only [dC,rE]; (repeat' split) <;> omega
theorem Eo {p:Pn} {m d:Int} (h0:0≤p.m) (hd:0≤d):p.y≤(jP p m d).y:=by
 simp only [jP,rE]; (repeat' split) <;> (try simp only) <;> omega
theorem SkI.enter {s:WS} (h:SkI s) (h0:0≤s.pen.m) {t:Sty} (ht:SOk t):SkI (s.enter t):=by
 have hp:=ht.padTop.1
 unfold WS.enter
 simp only
 refine h.pen ?_
 split
 ·have hc:s.pen.y≤(gW s.pen (dp (j6 t.clear) s.floats).1).y∧0≤(gW s.pen (dp (j6 t.clear) s.floats).1).m:=by
   unfold gW; split <;> (try simp only) <;> omega
  exact Int.le_trans hc.1 (Aa hc.2 hp)
 ·exact Aa h0 hp
theorem SkI.leave {s:WS} (h:SkI s) (h0:0≤s.pen.m) {t:Sty} (ht:SOk t):SkI (s.leave t):=h.pen (Eo h0 ht.padBottom.1)
theorem SkI.text {rs:List Rm} {s:WS} {C:Nat} (h:fN s C) (hk:SkI s) {n:Nd} (hn:NOk n) (a:Nat):SkI (s.text rs a n):=by
 obtain ⟨⟨hf,h1,h2,h3,h4⟩,h5,h6⟩:=h
 have hl:=hn.line
 have key:∀(k i:Nat) (y:Int) (t:WS),t.pen.y≤y→SkI t→SkI ((di s.floats n.words n.space n.line (ep rs a) k i y).foldl (fun s x=>s.put (fj a n.line x)) t):=by
  intro k
  induction k with
  | zero=>intro i y t _ ht; exact ht
  | succ k ih =>
    intro i y t hy ht
    rw [di]
    split
    ·rw [List.foldl_cons]
     have hyr:y≤(lU s.floats n.words n.space n.line i y (ep rs a)).y:=(eH (fun f hf'=>(hf f hf').yB)).1
     refine ih _ _ _ ?_ (ht.put (by simp only [fj]; omega) hl.1)
     simp only [WS.put,fj]
     omega
    ·exact ht
 exact key _ _ _ s (by omega) hk
theorem qx {l:List Nd} {rs:List Rm} (hD:DOk l rs):∀(k a e:Nat) (s:WS) (C:Nat),e - a≤k→a≤e→e≤l.length→bX l a e=true→fN s C→SkI s→SkI (dR l rs k a e s)
 | 0,a,e,s,C,_,hae,_,_,_,h=>h
 | k+1,a,e,s,C,hk,hae,he,hr,h,hs=>by
   rw [dR]
   by_cases hlt:a < e
   ·rw [if_pos hlt]
    obtain ⟨h1,h2⟩:=cV he hr (Nat.le_refl a) hlt
    obtain ⟨h3,h4⟩:=dG he hr hlt
    have hno:NOk (ndA l a):=by rw [ld (by omega)]; exact gw hD.isb (by omega)
    have step:∀t,(∃D,fN t D)→SkI t→SkI (dR l rs k (a+(szI l a).toNat) e t):=fun t ⟨D,ht⟩ hA =>
     qx hD k _ e t D (by omega) (by omega) he h3 ht hA
    have hm:=h.bd.m0
    split
    ·have hI2:=fU hD k (a+1) (a+(szI l a).toNat) _ _ (by omega) (by omega) (by omega) h4 (fC h hno.st)
     have hS2:=qx hD k (a+1) (a+(szI l a).toNat) _ _ (by omega) (by omega) (by omega) h4 (fC h hno.st) (hs.enter hm hno.st)
     exact step _ ⟨_,jY hI2 hno.st⟩ (hS2.leave hI2.bd.m0 hno.st)
    ·split
     ·exact step _ ⟨_,ll h hno a⟩ (SkI.text h hs hno a)
     ·split
      ·refine step _ ⟨_,ln h hno a⟩ ?_
       have hyr:=eH (w:=(ndA l a).w) (high:=(ndA l a).h) (y:=s.pen.y+s.pen.m) (s:=ep rs a) (fun f hf'=>(h.bd.fl f hf').yB)
       exact hs.put (by simp only; omega) hno.h.1
      ·have k4:(ndA l a).kind=4:=by rename_i g1 g2 g3; rcases hno.kind with h | h | h | h; exact absurd h g1; exact absurd h g2; exact absurd h g3; exact h
       exact step _ ⟨_,jU hD h (by omega) hno k4⟩ ⟨hs.pw,hs.q⟩
   ·rw [if_neg hlt]; exact hs
theorem Ea {l:List Nd} (hb:isB l=true) (hn:l.length≤2000) {w:Int} (h1:1≤w) (h2:w≤1099511627776):(cW l w).atoms.Pairwise fun a b=>a.y+a.h≤b.y:=by
 have hD:=yU hb hn h1 h2
 have hr:bX l 0 l.length=true:=by simp only [isB,Ba] at hb; exact hb.2
 have hI:fN ⟨[],[],0,⟨0,0⟩⟩ 0:=⟨⟨by simp,by simp,by simp,by simp,by simp⟩,by simp,by simp⟩
 exact (qx hD l.length 0 l.length ⟨[],[],0,⟨0,0⟩⟩ 0 (by omega) (by omega) (Nat.le_refl _) hr hI ⟨by simp,by simp⟩).pw
theorem uj {l:List Atm} (h:l.Pairwise fun a b=>a.y+a.h≤b.y) {i j:Nat} (hij:i < j) (hj:j < l.length):l[i].y+l[i].h≤l[j].y:=List.pairwise_iff_getElem.1 h i j (by omega) hj hij
theorem nP {p:Nat→Bool} {n:Nat} (hm:∀i j,i≤j→j < n→p i=true→p j=true):∀(f i j:Nat),j - i≤f→i≤j→j≤n→(∀x,x < i→p x=false)→(j < n→p j=true) →
 (∀x,x < jc p f i j→p x=false)∧(jc p f i j < n→p (jc p f i j)=true)∧jc p f i j≤j
 | 0,i,j,hf,hij,_,h1,h2=>by
   obtain rfl:i=j:=by omega
   exact ⟨h1,h2,Nat.le_refl _⟩
 | f+1,i,j,hf,hij,hjn,h1,h2=>by
   rw [jc]
   split
   ·rename_i hlt
    split
    ·rename_i hp
     obtain ⟨g1,g2,g3⟩:=nP hm f i ((i+j) / 2) (by omega) (by omega) (by omega) h1 (fun _=>hp)
     exact ⟨g1,g2,by omega⟩
    ·rename_i hp
     have hp':p ((i+j) / 2)=false:=by simpa using hp
     refine nP hm f ((i+j) / 2+1) j (by omega) (by omega) hjn (fun x hx=>?_) h2
     cases hx':p x with
     | false=>rfl
     | true=>rw [hm x ((i+j) / 2) (by omega) (by omega) hx'] at hp'; cases hp'
   ·obtain rfl:i=j:=by omega
    exact ⟨h1,h2,Nat.le_refl _⟩
theorem yJ {b:Bk} (hk:b.atoms.Pairwise fun x y=>x.y+x.h≤y.y) (hpos:∀a∈b.atoms,1≤a.h) {s:Stt} (hm:dn b.atoms s) (kept shift body:Int) :
 ∃r:Nat,kB b.atoms s kept shift body=r∧s.atom≤r∧r≤b.atoms.length∧(∀k (h:k < b.atoms.length),s.atom≤k→k < r→cZ b.atoms s kept shift k+b.atoms[k].h≤body)∧∀h:r < b.atoms.length,cZ b.atoms s kept shift r+b.atoms[r].h > body:=by
 have hm0:=hm
 obtain ⟨⟨h0,h1⟩,h2,h3⟩:=hm
 obtain ⟨a,ha⟩:∃a:Nat,s.atom=a:=⟨s.atom.toNat,by omega⟩
 have hal:a < b.atoms.length:=by omega
 have hpl:∀k (h:k < b.atoms.length),a≤k→cZ b.atoms s kept shift k=b.atoms[k].y - b.atoms[a].y - s.done+kept+shift:=fun k h hak=>by
  rw [cZ,if_pos ⟨hm0,by omega,by omega⟩,fA,if_pos ⟨⟨h0,h1⟩,by omega,by omega⟩,ha,br h,br hal]
 have hby:∀n (h:a+n < b.atoms.length),ez b.atoms s kept shift body n=decide (b.atoms[a+n].y - b.atoms[a].y - s.done+kept+shift+b.atoms[a+n].h > body):=fun n h=>by
  have e:s.atom+(n:Int)=((a+n:Nat):Int):=by omega
  rw [ez,e,hpl _ h (by omega),br h]
 have hmono:∀i j,i≤j→j < b.atoms.length - a→ez b.atoms s kept shift body i=true→ez b.atoms s kept shift body j=true:=fun i j hij hj hb=>by
  rcases Nat.eq_or_lt_of_le hij with rfl | hlt
  ·exact hb
  ·have hi2:a+i < b.atoms.length:=by omega
   have hj2:a+j < b.atoms.length:=by omega
   rw [hby i hi2] at hb
   rw [hby j hj2]
   have h5:=uj hk (show a+i < a+j by omega) hj2
   have h6:=hpos _ (List.getElem_mem hj2)
   have hb':=of_decide_eq_true hb
   exact decide_eq_true (by omega)
 have hs:=nP hmono (b.atoms.length - a) 0 (b.atoms.length - a) (by omega) (by omega) (Nat.le_refl _) (fun x hx=>by omega) (fun h=>by omega)
 have hsr:jc (ez b.atoms s kept shift body) (b.atoms.length - a) 0 (b.atoms.length - a)=yN (ez b.atoms s kept shift body) (b.atoms.length - a):=rfl
 rw [hsr] at hs
 obtain ⟨g1,g2,g3⟩:=hs
 refine ⟨a+yN (ez b.atoms s kept shift body) (b.atoms.length - a),?_,by omega,by omega,fun k h hak hkr=>?_,fun h=>?_⟩
 ·rw [kB,if_pos hm0,ha,Int.toNat_natCast]; rfl
 ·have hka:a≤k:=by omega
  have:=g1 (k - a) (by omega)
  rw [hby (k - a) (by omega)] at this
  have h5:=of_decide_eq_false this
  rw [hpl k h hka]
  have e:a+(k - a)=k:=by omega
  simp only [e] at h5
  omega
 ·have:=g2 (by omega)
  rw [hby _ h] at this
  have h5:=of_decide_eq_true this
  rw [hpl _ h (by omega)]
  omega
theorem jK {l:List Nd} {a:Nat}:∀(k:Nat) (x:Int),x∈fG l a k→fV l x a=true
 | 0,_,h=>by simp [fG] at h
 | k+1,x,h=>by
   rw [fG] at h
   split at h
   ·rename_i hk
    rcases List.mem_cons.1 h with rfl | h
    ·exact hk
    ·exact jK k x h
   ·exact jK k x h
theorem Ck (l:List Nd) (of:List Int) (k:Nat):0≤cM l of k 3∧cM l of k 3≤7:=by
 simp only [cM,C2]
 cases jb l of k 0 <;> cases jb l of k 1 <;> cases jb l of k 2 <;> simp
theorem uQ:∀(all:List Int),cJ all=0∨2≤cJ all∧cJ all≤4:=by
 have key:∀(all:List Int) (o:Int),(o=0∨2≤o∧o≤4)→(all.foldl iS o=0∨2≤all.foldl iS o∧all.foldl iS o≤4):=by
  intro all
  induction all with
  | nil=>intro o h; exact h
  | cons x all ih =>
    intro o h
    rw [List.foldl_cons]
    refine ih _ ?_
    unfold iS lj
    (repeat' split) <;> omega
 exact fun all=>key all 0 (.inl rfl)
theorem Fq {l:List Nd} (hb:isB l=true) {of:List Int} (hof:∀x∈of,0≤x∧x < l.length):sH (pK l of)=true:=by
 have hlen:(pK l of).length=of.length+1:=by simp [pK]
 simp only [sH,Ba,List.all_eq_true,List.mem_range,decide_eq_true_eq]
 refine ⟨fun k hk=>?_,by omega⟩
 rw [hlen] at hk
 have hg:bkG (pK l of) k=bkR l of k:=by simp [bkG,pK,hk]
 unfold fW
 rw [hg,hlen]
 refine decide_eq_true ?_
 have hsame:0 < k→k < of.length→of.getD k 0=of.getD (k - 1) 0→gT l of k=0:=fun h0 h1 he=>by
  have hk1:of.getD k 0=of[k]:=by simp [h1]
  have hr:=hof _ (List.getElem_mem h1)
  have hh:∀x∈abv l (of.getD k 0).toNat,hAt l of x k=true∧hAt l of x ((k:Int) - 1)=true:=fun x hx=>by
   rw [hk1] at hx
   have hlt:of[k].toNat < l.length:=by omega
   rw [Gz hb hlt] at hx
   have hx':=jK _ _ hx
   rw [jT] at hx'
   have e1:((k:Int) - 1).toNat=k - 1:=by omega
   have e2:((k:Int)).toNat=k:=by omega
   have e3:(of[k].toNat:Int)=of[k]:=by omega
   rw [e3] at hx'
   unfold hAt uq
   rw [if_pos (by omega),if_pos (by omega),e1,e2,←he,hk1]
   exact ⟨decide_eq_true ⟨hx'.2.2.1,hx'.2.2.2⟩,decide_eq_true ⟨hx'.2.2.1,hx'.2.2.2⟩⟩
  have e1:((k:Int) - 1).toNat=k - 1:=by omega
  have e2:((k:Int)).toNat=k:=by omega
  have he1:chR l of ((k:Int) - 1) (fun b=>!hAt l of b k)=[]:=by
   unfold chR
   rw [if_pos (by omega),e1,←he,List.filter_eq_nil_iff]
   intro x hx
   rw [(hh x hx).1]; simp
  have he2:chR l of k (fun b=>!hAt l of b ((k:Int) - 1))=[]:=by
   unfold chR
   rw [if_pos (by omega),e2,List.filter_eq_nil_iff]
   intro x hx
   rw [(hh x hx).2]; simp
  unfold gT iF
  rw [if_neg (by omega),dD,he1,he2]
  rfl
 have hend:k=of.length→gT l of k=0:=fun h=>by
  unfold gT iF; rw [if_pos h]; rfl
 have hfv:=uQ (iF l of k)
 have hbr:=Ck l of k
 change gT l of k=0∨2≤gT l of k∧gT l of k≤4 at hfv
 unfold mq bkR
 simp only [decide_eq_true_eq,decide_eq_false_iff_not]
 unfold n7 oH
 by_cases h0:k=0
 ·rw [if_pos h0,if_pos (show k=0∨k=of.length from .inl h0)]
  refine ⟨fun _=>rfl,fun h=>absurd (by omega) h,fun h=>absurd (by omega) h,?_, .inl (by split <;> rfl)⟩
  rcases hfv with h | h
  ·exact .inl h
  ·exact .inr ⟨h.1,h.2,by omega,by omega⟩
 ·rw [if_neg h0]
  by_cases h1:k=of.length
  ·rw [if_pos h1,if_pos (show k=0∨k=of.length from .inr h1)]
   exact ⟨fun h=>absurd h (by omega),fun _ _=>rfl,fun _ h=>absurd (by omega) h, .inl (hend h1), .inl (by split <;> rfl)⟩
  ·rw [if_neg h1,if_neg (show ¬(k=0∨k=of.length) by omega)]
   by_cases h2:of.getD k 0=of.getD (k - 1) 0
   ·rw [if_pos h2]
    have hf:=hsame (by omega) (by omega) h2
    refine ⟨fun h=>absurd h (by omega),fun _ h=>absurd h (by omega),fun _ _=>.inr rfl, .inl hf,?_⟩
    rw [if_pos hf]
    rcases Int.lt_or_le 0 (cM l of k 3) with h | h
    ·exact .inr ⟨.inr rfl,hf,h,by omega⟩
    ·exact .inl (by omega)
   ·rw [if_neg h2]
    refine ⟨fun h=>absurd h (by omega),fun _ h=>absurd h (by omega),fun _ _=>.inl rfl,?_,?_⟩
    ·rcases hfv with h | h
     ·exact .inl h
     ·exact .inr ⟨h.1,h.2,by omega,by omega⟩
    ·by_cases hf:gT l of k=0
     ·rw [if_pos hf]
      rcases Int.lt_or_le 0 (cM l of k 3) with h | h
      ·exact .inr ⟨.inl rfl,hf,h,by omega⟩
      ·exact .inl (by omega)
     ·rw [if_neg hf]; exact .inl rfl
def inF (top e:Int) (l:List Frg):Prop:=∀f∈l,top≤f.y∧0≤f.h∧f.y+f.h≤e
theorem uk {top e:Int} {l m:List Frg} (h1:inF top e l) (h2:inF top e m):inF top e (l++m):=fun f hf=>(List.mem_append.1 hf).elim (h1 f) (h2 f)
theorem vR {l:List Nd} {x:Kp} {a:Int} (h:∀n∈x.heads,1≤(stA l n).head):∀n∈(gQ l x a).heads,1≤(stA l n).head:=fun n hn=>by
 unfold gQ at hn
 split at hn
 ·exact h n hn
 ·rename_i hc
  rcases List.mem_append.1 hn with hn | hn
  ·exact h n hn
  ·rw [List.mem_singleton.1 hn]; omega
theorem qR {l:List Nd} {L:List Int} {h:Int}:∀m,∀n∈(fw l L h m).heads,1≤(stA l n).head
 | 0=>fun n hn=>by simp [fw] at hn
 | m+1=>by rw [fw]; exact vR (qR m)
theorem GL {l:List Nd} {w:Int}:∀(L:List Int),(∀n∈L,1≤(stA l n).head)→0≤(hdK l w L).2∧(∀f∈(hdK l w L).1,0≤f.y∧0≤f.h∧f.y+f.h≤(hdK l w L).2)∧((hdK l w L).1.map (·.h)).sum=(hdK l w L).2:=fun L=>by
 suffices key:∀(L:List Int) (p:List Frg×Int),(∀n∈L,1≤(stA l n).head)→0≤p.2→(∀f∈p.1,0≤f.y∧0≤f.h∧f.y+f.h≤p.2)→(p.1.map (·.h)).sum=p.2 →
  0≤(L.foldl (hdS l w) p).2∧(∀f∈(L.foldl (hdS l w) p).1,0≤f.y∧0≤f.h∧f.y+f.h≤(L.foldl (hdS l w) p).2)∧((L.foldl (hdS l w) p).1.map (·.h)).sum=(L.foldl (hdS l w) p).2 from
  fun h=>key L ([],0) h (Int.le_refl _) (fun f hf=>by cases hf) rfl
 intro L
 induction L with
 | nil=>intro p _ h1 h2 h3; exact ⟨h1,h2,h3⟩
 | cons a L ih =>
   intro p h h1 h2 h3
   have ha:=h a (by simp)
   refine ih _ (fun n hn=>h n (by simp [hn])) ?_ (fun f hf=>?_) ?_
   ·simp only [hdS]; omega
   ·simp only [hdS] at hf ⊢
    rcases List.mem_append.1 hf with hf | hf
    ·have:=h2 f hf; omega
    ·rw [List.mem_singleton.1 hf]; simp only; omega
   ·simp only [hdS,List.map_append,List.sum_append,h3,List.map_cons,List.map_nil,List.sum_cons,List.sum_nil]; omega
theorem rF {b:Bk} (hb:BkFull b) (s:Stt) (h0:0≤s.atom):0≤(bB b s).high∧1≤(bB b s).body∧(bB b s).high+(bB b s).body=b.h∧inF 0 (bB b s).high (hdK b.nodes b.w (bB b s).heads).1∧((hdK b.nodes b.w (bB b s).heads).1.map (·.h)).sum=(bB b s).high:=by
 have hk:=na hb s
 have hbd:=jD hb s h0
 have hh:∀n∈(bB b s).heads,1≤(stA b.nodes n).head:=by
  unfold bB
  split
  ·intro n hn; cases hn
  ·unfold pO
   split
   ·exact qR _
   ·intro n hn; cases hn
 obtain ⟨g1,g2,g3⟩:=GL (l:=b.nodes) (w:=b.w) _ hh
 rw [hk.sum] at g2 g3
 refine ⟨hk.high.1,hbd,?_,g2,g3⟩
 have h1:=hb.h1
 revert hbd
 unfold bB
 split
 ·intro _; simp
 ·unfold pO
  split
  ·rename_i hc
   intro _
   obtain ⟨_,h3,h4⟩:=hc
   generalize (atG b.atoms (min s.atom ((b.atoms.length:Int) - 1))).node=a at *
   have ha:a.toNat < b.nodes.length:=by omega
   have hrg:∀x∈abv b.nodes a.toNat,∃n:Nat,x=n∧n < b.nodes.length:=fun x hx=>by
    obtain ⟨n,h1,h2⟩:=nA ha x hx
    exact ⟨n,h1,by omega⟩
   exact (mK hb.isb hrg (by omega:0≤b.h) (abv b.nodes a.toNat).length (Nat.le_refl _)).2.2.2
  ·intro h; exact absurd h (by simp)
theorem zz {body:Int} (hb:0≤body):∀(l:List Flo) (sh:Int),0≤sh→sh≤body→(∀f∈l,0≤f.h)→∀m∈(dV body l sh).1,0≤m.y∧0≤m.h∧m.y+m.h≤body
 | [],sh,_,_,_=>fun m hm=>by simp [dV] at hm
 | f::r,sh,h0,h1,hf=>fun m hm=>by
   rw [dV] at hm
   have:=hf f (by simp)
   split at hm
   ·cases hm
   ·rename_i hc
    rcases List.mem_cons.1 hm with rfl | hm
    ·simp only; omega
    ·exact zz hb r _ (by omega) (by omega) (fun g hg=>hf g (by simp [hg])) m hm
theorem Cc {top shift body:Int} (hsh:0≤shift):∀ {L:List Flo},(∀f∈L,0≤f.h)→∀m∈(iD top shift body L).1,0≤m.y∧0≤m.h∧m.y+m.h≤body:=by
 suffices key:∀(L:List Flo) (x:List Flo×List Flo),(∀f∈L,0≤f.h)→(∀m∈x.1,0≤m.y∧0≤m.h∧m.y+m.h≤body) →
  ∀m∈(L.foldl (fun x f=>la body x f (eY top shift f)) x).1,0≤m.y∧0≤m.h∧m.y+m.h≤body from
  fun {L} h=>key L ([],[]) h (fun m hm=>by cases hm)
 intro L
 induction L with
 | nil=>intro x _ h m hm; exact h m hm
 | cons f L ih =>
   intro x hL h
   refine ih _ (fun g hg=>hL g (by simp [hg])) fun m hm=>?_
   have hf:=hL f (by simp)
   simp only [la] at hm
   split at hm
   ·exact h m hm
   ·rename_i hl
    rcases List.mem_append.1 hm with hm | hm
    ·exact h m hm
    ·rw [List.mem_singleton.1 hm]
     unfold oK at hl
     have hl':¬(x.2≠[]∨(eY top shift f).y+(eY top shift f).h > body):=fun h=>hl (decide_eq_true h)
     simp only [eY] at hl' ⊢
     omega
theorem AL:∀ {l:List Flo} {a b:Int} {f:Flo},f∈An l a b→f∈l:=fun h=>(List.mem_filter.1 h).1
theorem xC {b:Bk} (hfh:∀f∈b.fls,0≤f.h) {s:Stt} {to kept shift body:Int} (hsh:0≤shift):∀m∈(dM b.atoms b.fls s to kept shift body).1,0≤m.y∧0≤m.h∧m.y+m.h≤body:=by
 unfold dM
 split
 ·exact Cc hsh fun f hf=>hfh f (AL hf)
 ·intro m hm; cases hm
theorem uM {high body:Int} {l:List Flo} (h:∀m∈l,0≤m.y∧0≤m.h∧m.y+m.h≤body):inF high (high+body) (l.map (nt high)):=fun f hf=>by
 obtain ⟨m,hm,rfl⟩:=List.mem_map.1 hf
 have:=h m hm
 simp only [nt]; omega
theorem rq:∀(xs:List Fd) (d:Fd),(ew fY xs d=(d,false)∧∀x∈xs,x.b.forced=0)∨∃L x R,xs=L++x::R∧(∀y∈L,y.b.forced=0)∧x.b.forced≠0∧ew fY xs d=(x,true)
 | [],d=>.inl ⟨rfl,fun x h=>(by cases h)⟩
 | a::xs,d=>by
   have stay:∀(l:List Fd) (x:Fd),l.foldl (fe fY) (x,true)=(x,true):=by
    intro l
    induction l with
    | nil=>intro x; rfl
    | cons y l ih=>intro x; rw [List.foldl_cons]; exact ih x
   by_cases h:a.b.forced=0
   ·have e:ew fY (a::xs) d=ew fY xs d:=by
     unfold ew
     rw [List.foldl_cons,fe,fY]
     simp [h]
    rw [e]
    rcases rq xs d with ⟨h1,h2⟩ | ⟨L,x,R,h1,h2,h3,h4⟩
    ·exact .inl ⟨h1,fun x hx=>(List.mem_cons.1 hx).elim (fun e=>e ▸ h) (h2 x)⟩
    ·exact .inr ⟨a::L,x,R,by rw [h1]; rfl,fun y hy=>(List.mem_cons.1 hy).elim (fun e=>e ▸ h) (h2 y),h3,h4⟩
   ·refine .inr ⟨[],a,xs,rfl,fun y hy=>(by cases hy),h,?_⟩
    unfold ew
    rw [List.foldl_cons,fe,fY]
    simp only [h,Bool.not_false,ne_eq,not_false_eq_true,decide_true,Bool.and_self,if_true]
    exact stay xs a
theorem A5 (d:Fd):∀(xs:List Fd) (a:Fd) ,∃L x R,xs++[a]=L++x::R∧ew gS (xs++[a]) d=(x,true)∧(∀y∈L,x.b.rank≤y.b.rank)∧∀y∈R,x.b.rank < y.b.rank:=by
 suffices key:∀n (xs:List Fd) (a:Fd),xs.length=n→∃L x R,xs++[a]=L++x::R∧ew gS (xs++[a]) d=(x,true)∧(∀y∈L,x.b.rank≤y.b.rank)∧∀y∈R,x.b.rank < y.b.rank from
  fun xs a=>key _ xs a rfl
 intro n
 induction n with
 | zero =>
   intro xs a h
   obtain rfl:=List.length_eq_zero_iff.1 h
   exact ⟨[],a,[],rfl,by simp [ew,fe,gS],fun y h=>(by cases h),fun y h=>by cases h⟩
 | succ n ih =>
   intro xs a h
   rcases List.eq_nil_or_concat xs with rfl | ⟨ys,z,rfl⟩
   ·cases h
   ·rw [List.concat_eq_append] at h ⊢
    obtain ⟨L,x,R,h1,h2,h3,h4⟩:=ih ys z (by simpa using h)
    rw [rD,h2]
    unfold fe gS
    by_cases hr:a.b.rank≤x.b.rank
    ·refine ⟨ys++[z],a,[],rfl,by simp [hr],fun y hy=>?_,fun y hy=>by cases hy⟩
     rw [h1] at hy
     rcases List.mem_append.1 hy with hy | hy
     ·have:=h3 y hy; omega
     ·rcases List.mem_cons.1 hy with rfl | hy
      ·exact hr
      ·have:=h4 y hy; omega
    ·refine ⟨L,x,R++[a],by rw [h1]; simp,by simp [hr],h3,fun y hy=>?_⟩
     rcases List.mem_append.1 hy with hy | hy
     ·exact h4 y hy
     ·rw [List.mem_singleton.1 hy]; omega
theorem tD {b:List Brk} {fr to:Int} {L R:List Fd} {x:Fd} (h:(btw b fr to).map (kZ b)=L++x::R) :
 ∃c:Nat,x=kZ b c∧max fr 0≤c∧c < max fr 0+sF b fr to∧(∀k:Nat,max fr 0≤k→k < c→kZ b k∈L)∧∀k:Nat,c < k→k < max fr 0+sF b fr to→kZ b k∈R:=by
 have hlen:=congrArg List.length h
 simp only [btw,List.length_map,List.length_range',List.length_append,List.length_cons] at hlen
 have hget:∀k:Nat,max fr 0≤k→k < max fr 0+sF b fr to→(L++x::R)[k - (max fr 0).toNat]?=some (kZ b k):=fun k h1 h2=>by
  rw [←h,btw,List.getElem?_map,List.getElem?_range' (by omega)]
  simp only [Option.map_some,Nat.one_mul]
  rw [show (max fr 0).toNat+(k - (max fr 0).toNat)=k by omega]
 refine ⟨(max fr 0).toNat+L.length,?_,by omega,by omega,fun k h1 h2=>?_,fun k h1 h2=>?_⟩
 ·have:=hget ((max fr 0).toNat+L.length) (by omega) (by omega)
  rw [show (max fr 0).toNat+L.length - (max fr 0).toNat=L.length by omega] at this
  simpa using this
 ·have:=hget k h1 (by omega)
  rw [List.getElem?_append_left (by omega)] at this
  exact List.mem_of_getElem? this
 ·have:=hget k (by omega) (by omega)
  rw [List.getElem?_append_right (by omega),show k - (max fr 0).toNat - L.length=(k - ((max fr 0).toNat+L.length) - 1)+1 by omega,List.getElem?_cons_succ] at this
  exact List.mem_of_getElem? this
theorem B4 {b:List Brk} {i fit:Int} (h:eS b i fit) (hf:fit≤(b.length:Int) - 1) :
 ∃c:Nat,sy b i fit=c∧i < c∧(c:Int)≤fit∧∀k:Nat,i < k→(k:Int)≤fit→(k < c→(bkG b k).forced=0)∧((bkG b c).forced=0→k≠c→(bkG b k).forced=0∧(bkG b c).rank≤(bkG b k).rank∧(c < k→(bkG b k).rank≠(bkG b c).rank)):=by
 obtain ⟨_,h1,h2,h3⟩:=h
 have hn:max (i+1) 0=i+1:=by omega
 have hb:sF b (i+1) fit=(fit - i).toNat:=by unfold sF; omega
 unfold sy jO Df
 rcases rq ((btw b (i+1) fit).map (kZ b)) xB with ⟨e,hz⟩ | ⟨L,x,R,e1,e2,e3,e4⟩
 ·rw [e,if_pos (show xB.i < 0 by decide)]
  have hz':∀k:Nat,i < k→(k:Int)≤fit→(bkG b k).forced=0:=fun k g1 g2=>by
   refine hz (kZ b k) (List.mem_map.2 ⟨k,?_,rfl⟩)
   rw [btw,List.mem_range'_1]
   omega
  have hne:(btw b (i+1) fit).map (kZ b)≠[]:=fun e=>by
   have:=congrArg List.length e
   simp [btw,hb] at this
   omega
  rcases List.eq_nil_or_concat ((btw b (i+1) fit).map (kZ b)) with e | ⟨ys,z,e⟩
  ·exact absurd e hne
  ·rw [List.concat_eq_append] at e
   obtain ⟨L,x,R,f1,f2,f3,f4⟩:=A5 xB ys z
   rw [←e] at f1 f2
   obtain ⟨c,rfl,g1,g2,g3,g4⟩:=tD f1
   rw [f2]
   refine ⟨c,rfl,by omega,by omega,fun k k1 k2=>⟨fun _=>hz' k k1 k2,fun _ hk=>⟨hz' k k1 k2,?_,fun hlt=>?_⟩⟩⟩
   ·rcases Nat.lt_or_gt_of_ne hk with hk | hk
    ·exact f3 _ (g3 k (by omega) hk)
    ·exact Int.le_of_lt (f4 _ (g4 k hk (by omega)))
   ·have:=f4 _ (g4 k hlt (by omega))
    exact fun e=>by simp only [kZ] at this; omega
 ·obtain ⟨c,rfl,g1,g2,g3,g4⟩:=tD e1
  rw [e4,if_neg (show ¬(kZ b c).i < 0 from fun h=>by simp only [kZ] at h; omega)]
  exact ⟨c,rfl,by omega,by omega,fun k k1 k2=>⟨fun hk=>e2 _ (g3 k (by omega) hk),fun hc=>absurd hc e3⟩⟩
inductive qh (b:Bk) (s t:Stt) (fs:List Frg) (top body:Int):Prop
 | more (h1:t.atom=s.atom) (h2:fs.length=1) (h3:eQ b.atoms s > body) (h4:∀f,fs[0]?=some f→f.h=body) (h5:t.done=s.done+body)
 | whole (c r:Nat) (y:Int) (h1:t=⟨c,0,decide ((bkG b.brks c).forced≠0)⟩) (h2:s.atom < c) (h3:c≤r) (h4:r≤b.atoms.length) (h5:fs.length+s.atom=c) (h6:∀f,fs[0]?=some f→f.y=top+y)
    (h7:∀k (h:k < b.atoms.length),s.atom≤k→k < r→(if s.atom < k then y+(b.atoms[k].y - (atG b.atoms s.atom).y - s.done) else y)+(if k=s.atom then eQ b.atoms s else b.atoms[k].h)≤body)
    (h8:∀(h:r < b.atoms.length),(if s.atom < r then y+(b.atoms[r].y - (atG b.atoms s.atom).y - s.done) else y)+(if r=s.atom then eQ b.atoms s else b.atoms[r].h) > body)
    (h9:∀k:Nat,s.atom < k→k≤r→(k < c→(bkG b.brks k).forced=0)∧((bkG b.brks c).forced=0→k≠c→(bkG b.brks k).forced=0∧(bkG b.brks c).rank≤(bkG b.brks k).rank∧(c < k→(bkG b.brks k).rank≠(bkG b.brks c).rank)))
structure CB (b:Bk) (x:Wx) (fs:List Frg) (t:Stt):Prop where
 ne:0 < fs.length
 fin:inF x.high (x.high+x.body) fs
 fst:∀f,fs[0]?=some f→f.atom=x.s.atom∧f.fr=x.s.done
 cut:qh b x.s t fs x.high x.body
structure fD (b:Bk):Prop extends BkFull b where
 stk:b.atoms.Pairwise fun x y=>x.y+x.h≤y.y
 pos:∀a∈b.atoms,1≤a.h
 top:∀a∈b.atoms,0≤a.y
 mayb:sH b.brks=true
 fh:∀f∈b.fls,0≤f.h
 fy:∀f∈b.fls,0≤f.y
theorem yu {b:Bk} (hb:fD b) (k:Int):0≤lP b.atoms k:=by
 unfold lP
 split
 ·rename_i h
  obtain ⟨n,rfl⟩:∃n:Nat,k=n:=⟨k.toNat,by omega⟩
  have hn:n < b.atoms.length:=by omega
  rw [br hn]
  unfold fX
  split
  ·rename_i h2
   have e:(n:Int) - 1=((n - 1:Nat):Int):=by omega
   rw [e,br (by omega)]
   have:=uj hb.stk (show n - 1 < n by omega) hn
   omega
  ·have:=hb.top _ (List.getElem_mem hn); omega
 ·exact Int.le_refl _
theorem Bo {b:Bk} (hb:fD b) {x:Wx} (hm:dn b.atoms x.s) (hx:x.fs=[])
 (hbody:1≤x.body) (hsh:0≤x.shift) (hnf:¬(x.shift > 0∧eQ b.atoms x.s > x.body - x.shift)):CB b x (dX b x).fs (fo b x).s:=by
 have hk:=hb.stk
 have hpos:=hb.pos
 have hbk:=hb.mayb
 obtain ⟨r,hr,hr1,hr2,hr3,hr4⟩:=yJ hk hpos hm (du b x) x.shift x.body
 have hm0:=hm
 obtain ⟨⟨h0,h1⟩,h2,h3⟩:=hm
 obtain ⟨a,ha⟩:∃a:Nat,x.s.atom=a:=⟨x.s.atom.toNat,by omega⟩
 have hal:a < b.atoms.length:=by omega
 have hag:atG b.atoms x.s.atom=b.atoms[a]:=by rw [ha,br hal]
 have hpa:=hpos _ (List.getElem_mem hal)
 have hbl:=hb.brk
 have hleft:eQ b.atoms x.s=b.atoms[a].h - x.s.done:=by rw [eQ,if_pos hm0,hag]
 rw [hag] at h3
 have hl0:1≤eQ b.atoms x.s:=by rw [hleft]; omega
 have hpl:∀kept sh k (h:k < b.atoms.length),a≤k→cZ b.atoms x.s kept sh k=b.atoms[k].y - b.atoms[a].y - x.s.done+kept+sh:=fun kept sh k h hak=>by
  rw [cZ,if_pos ⟨hm0,by omega,by omega⟩,fA,if_pos ⟨⟨h0,h1⟩,by omega,by omega⟩,hag,br h]
 have hkept:du b x=0∨0≤du b x∧x.s.done=0∧du b x+eQ b.atoms x.s≤x.body - x.shift:=by
  unfold du mN
  split
  ·rename_i hc
   obtain ⟨_,_,hd,hg⟩:=hc
   rw [hleft]
   rw [hag] at hg
   exact .inr ⟨yu hb _,hd,hg⟩
  ·exact .inl rfl
 have hrX:dE b x=r:=hr
 unfold dX fo
 by_cases hok:eS b.brks x.s.atom (dE b x)
 ·rw [if_pos hok,if_pos hok]
  obtain ⟨c,c1,c2,c3,c4⟩:=B4 hok (by rw [hrX]; omega)
  rw [show uR b x=c from c1,Int.toNat_natCast]
  rw [hrX] at c3 c4
  have hlen:(bR b { x with kind:=1 } (du b x) (c - x.s.atom.toNat)).length=c - a:=by
   rw [bR,List.length_map,List.length_range,ha,Int.toNat_natCast]
  have hfs:(qK b { x with kind:=1 } (du b x) c).fs=bR b { x with kind:=1 } (du b x) (c - x.s.atom.toNat):=by
   simp only [qK,Wx.put,Wx.add,hx,List.nil_append]
  have hat:∀i (h:i < c - a),(bR b { x with kind:=1 } (du b x) (c - x.s.atom.toNat))[i]?=some (cb x.high (cT b.atoms x.s (du b x) x.shift ((a+i:Nat):Int))):=fun i h=>by
   rw [bR,List.getElem?_map,List.getElem?_range (by rw [ha]; omega),Option.map_some,ha]
   rfl
  have hwh:∀k (h:k < b.atoms.length),a≤k→(cT b.atoms x.s (du b x) x.shift k).y=cZ b.atoms x.s (du b x) x.shift k+(if k=a then x.s.done else 0)∧(cT b.atoms x.s (du b x) x.shift k).h=b.atoms[k].h - (if k=a then x.s.done else 0)∧(cT b.atoms x.s (du b x) x.shift k).atom=k∧(cT b.atoms x.s (du b x) x.shift k).fr=if k=a then x.s.done else 0:=fun k h hak=>by
   rw [cT,if_pos ⟨hm0,by omega,by omega⟩]
   by_cases e:k=a
   ·rw [if_pos (by omega),if_pos e]
    simp only [Frg.bI,j2,fg,br h]
    exact ⟨trivial,trivial,trivial,trivial⟩
   ·rw [if_neg (by omega),if_neg e]
    simp only [j2,fg,br h]
    exact ⟨(Int.add_zero _).symm,(Int.sub_zero _).symm,trivial,trivial⟩
  have hfirst:(bR b { x with kind:=1 } (du b x) (c - x.s.atom.toNat))[0]?=some (cb x.high (cT b.atoms x.s (du b x) x.shift ((a:Nat):Int))):=hat 0 (by omega)
  obtain ⟨w1,w2,w3,w4⟩:=hwh a hal (Nat.le_refl _)
  rw [if_pos rfl] at w1 w2 w4
  have hpa0:=hpl (du b x) x.shift a hal (Nat.le_refl _)
  have hk0:0≤du b x:=by rcases hkept with h | h <;> omega
  refine ⟨by rw [hfs,hlen]; omega,fun f hf=>?_,fun f hf=>?_,?_⟩
  ·rw [hfs] at hf
   obtain ⟨i,hi⟩:=List.getElem?_of_mem hf
   have hil:i < c - a:=by
    rw [←hlen]; exact (List.getElem?_eq_some_iff.1 hi).1
   rw [hat i hil] at hi
   obtain rfl:=Option.some.inj hi
   obtain ⟨v1,v2, -, -⟩:=hwh (a+i) (by omega) (by omega)
   have hpl':=hpl (du b x) x.shift (a+i) (by omega) (by omega)
   have hfit:=hr3 (a+i) (by omega) (by omega) (by omega)
   have hph:=hpos _ (List.getElem_mem (show a+i < b.atoms.length by omega))
   simp only [cb]
   rw [v1,v2]
   rw [hpl'] at hfit ⊢
   by_cases e:i=0
   ·subst e
    simp only [Nat.add_zero,if_true] at hfit ⊢
    omega
   ·rw [if_neg (by omega)]
    have hst:=uj hk (show a < a+i by omega) (by omega)
    omega
  ·rw [hfs,hfirst] at hf
   obtain rfl:=Option.some.inj hf
   simp only [cb]
   rw [w3,w4]
   exact ⟨ha.symm,rfl⟩
  ·refine .whole c r (du b x+x.shift) rfl c2 (by omega) hr2 (by rw [hfs,hlen]; omega) (fun f hf=>?_) (fun k h h1 h2=>?_) (fun h=>?_) (fun k h1 h2=>c4 k h1 (by omega))
   ·rw [hfs,hfirst] at hf
    obtain rfl:=Option.some.inj hf
    simp only [cb]
    rw [w1,hpa0]; omega
   ·have:=hr3 k h h1 h2
    rw [hpl _ _ k h (by omega)] at this
    rw [hag]
    by_cases e:(k:Int)=x.s.atom
    ·obtain rfl:k=a:=by omega
     rw [if_neg (by omega),if_pos e,hleft]; omega
    ·rw [if_pos (by omega),if_neg e]; omega
   ·have:=hr4 h
    rw [hpl _ _ r h (by omega)] at this
    rw [hag]
    by_cases e:(r:Int)=x.s.atom
    ·obtain rfl:r=a:=by omega
     rw [if_neg (by omega),if_pos e,hleft]; omega
    ·rw [if_pos (by omega),if_neg e]; omega
 ·rw [if_neg hok,if_neg hok]
  have hra:r=a:=by
   have:¬x.s.atom < dE b x:=fun h=>hok ⟨hbk,h0,by omega,h⟩
   omega
  have hgt:=hr4 (by omega)
  subst hra
  rw [hpl _ _ r hal (Nat.le_refl _)] at hgt
  have hk0:du b x=0∧x.shift=0:=by
   rw [hleft] at hkept hnf
   rcases hkept with h | h <;> omega
  have hso:od b.atoms ({ x with kind:=1 }:Wx).s ({ x with kind:=1 }:Wx).body:=⟨hm0,hbody⟩
  have hfs:(qw b { x with kind:=1 }).fs=[cb x.high (ir b.atoms x.s x.body)]:=by
   simp only [qw,Wx.put,Wx.add,hx,List.nil_append]
  have hsl:ir b.atoms x.s x.body=⟨b.atoms[r].node,x.s.atom,x.s.done,b.atoms[r].x,0,b.atoms[r].w,x.body⟩:=by
   rw [ir,if_pos (show od b.atoms x.s x.body from hso),eU]
   simp only [Frg.cut,Frg.bI,fg,hag]
   congr 1
   omega
  have hnx:ed b.atoms x.s x.body=⟨x.s.atom,x.s.done+x.body,false⟩:=by
   rw [ed,if_pos (show od b.atoms x.s x.body from hso)]
   rw [ir,if_pos (show od b.atoms x.s x.body from hso)] at hsl
   rw [hsl]
   simp only [iY,hag]
   rw [if_pos (by omega)]
  rw [hsl] at hfs
  refine ⟨by rw [hfs]; exact Nat.one_pos,fun f hf=>?_,fun f hf=>?_, .more ?_ (by rw [hfs]; rfl) (by rw [hleft]; omega) (fun f hf=>?_) ?_⟩
  ·rw [hfs,List.mem_singleton] at hf; subst hf; simp only [cb]; omega
  ·rw [hfs] at hf; obtain rfl:=Option.some.inj hf; exact ⟨rfl,rfl⟩
  ·show (ed b.atoms x.s x.body).atom=_; rw [hnx]
  ·rw [hfs] at hf; obtain rfl:=Option.some.inj hf; rfl
  ·show (ed b.atoms x.s x.body).done=_; rw [hnx]
def JS (s t:Sta) (n:Int):Prop:=t.s.atom > s.s.atom∨t.s.atom=s.s.atom∧t.s.done > s.s.done∨t.s.atom=s.s.atom∧t.s.done=s.s.done∧(t.pend.length < s.pend.length∨t.s.atom=n∧t.s.free=false)
structure DX (b:Bk) (s:Sta) (p:Pag) (t:Sta):Prop where
 no:p.no=0
 onw:JS s t b.atoms.length
 sum:(p.hs.map (·.h)).sum=(bB b s.s).high
 hd:inF 0 (bB b s.s).high p.hs
 fl:inF (bB b s.s).high b.h p.fs
 lo:inF (bB b s.s).high b.h p.ls
 kd:p.kind=1∨p.kind=2
 no':p.kind=2→p.fs=[]
 cut:p.kind=1→dn b.atoms s.s∧0 < p.fs.length∧(∀f,p.fs[0]?=some f→f.atom=s.s.atom∧f.fr=s.s.done)∧qh b s.s t.s p.fs (bB b s.s).high (bB b s.s).body
theorem DV {α:Type} {p:α→Bool}:∀(l:List α),∀x∈l.takeWhile p,p x=true
 | [],x,h=>by cases h
 | a::l,x,h=>by
   rw [List.takeWhile_cons] at h
   split at h
   ·rename_i ha
    rcases List.mem_cons.1 h with rfl | h
    ·exact ha
    ·exact DV l x h
   ·cases h
theorem BP {b:Bk} (hb:fD b) {x:Wx} (hsh:0≤x.shift) (h:inF x.high (x.high+x.body) x.ls):inF x.high (x.high+x.body) (dX b x).ls:=by
 unfold dX
 split
 ·exact uk h (uM (xC hb.fh hsh))
 ·exact uk h (uM (xC hb.fh (Int.le_refl _)))
theorem kg (b:Bk) (x:Wx):(dX b x).hs=x.hs∧(dX b x).kind=1:=by
 unfold dX; split <;> exact ⟨rfl,rfl⟩
theorem jq {b:Bk} (hb:fD b) {s:Sta} (he:¬eD b s):DX b s (cg b s).1 (cg b s).2:=by
 have hmay:iM b s:=Decidable.byContradiction fun h=>he (.inl h)
 have hnot:¬(s.s.atom=b.atoms.length∧s.s.free=false∧s.pend=[]):=fun h=>he (.inr h)
 have hat:0≤s.s.atom:=by rcases hmay.2 with h | h; exact h.1.1; omega
 obtain ⟨r1,r2,r3,r4,r5⟩:=rF hb.toBkFull s.s hat
 have hpf:∀f∈s.pend,0≤f.h:=fun f hf=>hb.fh f (lA _ _ hmay.1 f hf)
 have htop:inF (bB b s.s).high ((bB b s.s).high+(bB b s.s).body) ((dV (bB b s.s).body s.pend 0).1.map (nt (bB b s.s).high)):=uM (zz (by omega) _ 0 (Int.le_refl _) (by omega) hpf)
 have hsh:=(pV (body:=(bB b s.s).body) s.pend 0 (Int.le_refl _) (by omega) hpf).2.2
 unfold cg
 split
 ·rename_i h0
  obtain ⟨h1,h2⟩:=h0
  have hn:s.s.atom=0∧s.s.done=0:=by
   rcases hmay.2 with h | h
   ·have:=h.1; rw [h1] at this; simp at this; omega
   ·rw [h1] at h; simpa using h
  have hrv:bB b s.s=⟨[],0,b.h⟩:=by rw [bB,if_pos h1]
  refine ⟨rfl, .inr (.inr ⟨?_,?_, .inr ⟨?_,rfl⟩⟩),r5,r4,fun f hf=>(by cases hf),?_, .inr rfl,fun _=>rfl,fun h=>?_⟩
  ·simp [mZ,hn]
  ·simp [mZ,hn]
  ·simp [mZ,h1]
  ·rw [←r3]
   refine uM (high:=(bB b s.s).high) (body:=(bB b s.s).body) fun m hm=>?_
   have h4:m.y+m.h≤(bB b s.s).body:=of_decide_eq_true (DV _ m hm)
   have h5:m∈b.fls:=(List.takeWhile_sublist _).mem hm
   exact ⟨hb.fy m h5,hb.fh m h5,h4⟩
  ·exact absurd h (show ¬((2:Int)=1) by decide)
 ·split
  ·rename_i hf
   refine ⟨rfl,?_,r5,r4,fun f hf=>(by cases hf),by rw [←r3]; exact htop, .inr rfl,fun _=>rfl,fun h=>absurd h (show ¬((2:Int)=1) by decide)⟩
   refine .inr (.inr ⟨rfl,rfl,?_⟩)
   cases hp:s.pend with
   | cons f r=>exact .inl (A2 f r)
   | nil =>
     unfold oY at hf
     rw [hp] at hf
     simp only [dV] at hf
     have ha:s.s.atom=b.atoms.length:=by
      rcases hf with h | h | h
      ·exact h
      ·exact absurd rfl h
      ·omega
     exact .inr ⟨ha,by simp [ha]⟩
  ·rename_i hf
   have hm:dn b.atoms s.s:=hmay.2.resolve_right fun h=>hf (.inl h.1)
   have hfn:=AS (x:=dt b s) hb.toBkOk hm hb.pos r2
   have hfg:=Bo hb (x:=dt b s) hm rfl r2 hsh.1 (fun h=>hf (.inr (.inr h)))
   have hls:=BP hb (x:=dt b s) hsh.1 (uk (l:=[]) (fun f hf=>(by cases hf)) htop)
   have hoth:=kg b (dt b s)
   have xs:(dt b s).s=s.s:=rfl
   have xh:(dt b s).high=(bB b s.s).high:=rfl
   have xb:(dt b s).body=(bB b s.s).body:=rfl
   rw [xh,xb,r3] at hls
   obtain ⟨f1,f2,f3,f4⟩:=hfg
   rw [xh,xb] at f2 f4
   rw [r3] at f2
   refine ⟨rfl,?_,?_,?_,f2,hls, .inl hoth.2,fun h=>?_,fun _=>⟨hm,f1,f3,f4⟩⟩
   ·generalize fo b (dt b s)=z at hfn
    cases hfn with
    | whole c fr p g1 g2 g3=>exact .inl g1
    | more d p g1 g2 g3=>exact .inr (.inl ⟨rfl,g1⟩)
   ·show ((dX b (dt b s)).hs.map _).sum=_
    rw [hoth.1]; exact r5
   ·show inF _ _ (dX b (dt b s)).hs
    rw [hoth.1]; exact r4
   ·have:(dX b (dt b s)).kind=2:=h
    rw [hoth.2] at this; cases this
theorem lk {l:List Nd} (hl:eA l) {w h:Int} (he:jl l w h=0):fD (fc l w h):=by
 obtain ⟨hw,hh,hc⟩:=tN he
 obtain ⟨hisb,hn,hwo,hcs⟩:=yp hc
 have hG:=ye hisb hn hw.1 hw.2
 obtain ⟨h1,h2⟩:=BC hl he
 refine ⟨h1,Ea hisb hn hw.1 hw.2,fun a ha=>(hG.at' a ha).h0,fun a ha=>(hG.at' a ha).y0,?_,h2,fun f hf=>(hG.flo f hf).y0⟩
 show sH (pK l (ofR l w))=true
 refine Fq hisb fun x hx=>?_
 unfold ofR at hx
 obtain ⟨a,ha,rfl⟩:=List.mem_map.1 hx
 exact hG.nod a ha
open Go.Proofs Go.Proofs.Tryz
theorem Aw (b:Bk) (hb:BkFull b):aT prog 65 [.rp (bw b)] (bG b.brks):=fun σ =>
 (Bt b hb σ).EC fun _ _ h=>h.2.CO h.1 rfl
def goP (l:List Atm):Int→Int→List Frg→Option (Int×Int)
 | a,d,[]=>some (a,d)
 | a,d,x::r =>
   if (0≤a∧a < l.length)∧x.atom=a∧x.node=(atG l a).node∧x.fr=d∧1≤x.h∧x.w=(atG l a).w∧x.x=(atG l a).x∧d+x.h≤(atG l a).h then
    (if d+x.h=(atG l a).h then goP l (a+1) 0 r else if r=[] then some (a,d+x.h) else none)
   else none
theorem xT {b:Bk} (hb:fD b) (F:Int→Frg) (hF:∀k (h:k < b.atoms.length),F k=⟨b.atoms[k].node,k,0,b.atoms[k].x,(F k).y,b.atoms[k].w,b.atoms[k].h⟩) :
 ∀(m k:Nat),k+m≤b.atoms.length→goP b.atoms k 0 ((List.range m).map fun i:Nat=>F ((k:Int)+i))=some (((k+m:Nat):Int),0)
 | 0,k,_=>by simp [goP]
 | m+1,k,h=>by
   have hk:k < b.atoms.length:=by omega
   have hp:=hb.pos _ (List.getElem_mem hk)
   rw [List.range_succ_eq_map,List.map_cons,List.map_map]
   have e:=hF k hk
   have e0:F ((k:Int)+((0:Nat):Int))=F k:=by simp
   have ih:=xT hb F hF m (k+1) (by omega)
   rw [e0,goP,br hk,e]
   simp only
   rw [if_pos ⟨⟨by omega,by omega⟩,trivial,trivial,trivial,hp,trivial,trivial,by omega⟩,if_pos (by omega)]
   have e1:((k:Int)+1)=((k+1:Nat):Int):=by omega
   have e2:((fun i:Nat=>F ((k:Int)+i)) ∘ Nat.succ)=fun i:Nat=>F (((k+1:Nat):Int)+i):=by
    funext i; simp only [Function.comp]; congr 1; omega
   rw [e1,e2,ih]
   congr 2; omega
theorem xM {b:Bk} (hb:fD b) {s:Stt} (hm:dn b.atoms s) {kept shift high:Int} {c:Nat} (h1:s.atom < c) (h2:c≤b.atoms.length) :
 goP b.atoms s.atom s.done ((List.range (c - s.atom.toNat)).map fun i:Nat=>cb high (cT b.atoms s kept shift (s.atom+(i:Nat))))=some ((c:Int),0):=by
 have hm0:=hm
 obtain ⟨⟨h3,h4⟩,h5,h6⟩:=hm
 obtain ⟨a,ha⟩:∃a:Nat,s.atom=a:=⟨s.atom.toNat,by omega⟩
 have hal:a < b.atoms.length:=by omega
 rw [ha,br hal] at h6
 have hp:=hb.pos _ (List.getElem_mem hal)
 obtain ⟨m,hmm⟩:∃m,c - s.atom.toNat=m+1:=⟨c - s.atom.toNat - 1,by omega⟩
 rw [hmm,List.range_succ_eq_map,List.map_cons,List.map_map]
 have e0:cb high (cT b.atoms s kept shift (s.atom+((0:Nat):Int)))=⟨b.atoms[a].node,a,s.done,b.atoms[a].x,cZ b.atoms s kept shift a+s.done+high,b.atoms[a].w,b.atoms[a].h - s.done⟩:=by
  have:s.atom+((0:Nat):Int)=a:=by omega
  rw [this,cT,if_pos ⟨hm0,by omega,by omega⟩,if_pos (by omega)]
  simp only [cb,Frg.bI,j2,fg,br hal]
 let F:Int→Frg:=fun k=>if k=s.atom then ⟨b.atoms[a].node,k,0,b.atoms[a].x,0,b.atoms[a].w,b.atoms[a].h⟩ else if s.atom < k then cb high (cT b.atoms s kept shift k) else ⟨(atG b.atoms k).node,k,0,(atG b.atoms k).x,0,(atG b.atoms k).w,(atG b.atoms k).h⟩
 have hF:∀k (h:k < b.atoms.length),F k=⟨b.atoms[k].node,k,0,b.atoms[k].x,(F k).y,b.atoms[k].w,b.atoms[k].h⟩:=fun k h=>by
  by_cases e:(k:Int)=s.atom
  ·obtain rfl:k=a:=by omega
   simp only [F,if_pos e]
  ·by_cases e2:s.atom < k
   ·simp only [F,if_neg e,if_pos e2]
    rw [cT,if_pos ⟨hm0,by omega,by omega⟩,if_neg e]
    simp only [cb,j2,fg,br h]
   ·simp only [F,if_neg e,if_neg e2,br h]
 have hr:=xT hb F hF m (a+1) (by omega)
 rw [e0,goP,ha,br hal]
 simp only
 rw [if_pos ⟨⟨by omega,by omega⟩,trivial,trivial,trivial,by omega,trivial,trivial,by omega⟩,if_pos (by omega)]
 have e1:((a:Int)+1)=((a+1:Nat):Int):=by omega
 have e2:(List.range m).map ((fun i:Nat=>cb high (cT b.atoms s kept shift ((a:Int)+(i:Nat)))) ∘ Nat.succ)=(List.range m).map fun i:Nat=>F (((a+1:Nat):Int)+i):=by
  refine List.map_congr_left fun i _=>?_
  have:((a:Int)+((Nat.succ i:Nat):Int))=((a+1:Nat):Int)+i:=by omega
  simp only [Function.comp,this]
  simp only [F]
  rw [if_neg (by omega),if_pos (by omega)]
 rw [e1,e2,hr]
 congr 2; omega
theorem yx {b:Bk} (hb:fD b) {s:Sta} (he:¬eD b s):goP b.atoms s.s.atom s.s.done (cg b s).1.fs=some ((cg b s).2.s.atom,(cg b s).2.s.done):=by
 have hmay:iM b s:=Decidable.byContradiction fun h=>he (.inl h)
 have hat:0≤s.s.atom:=by rcases hmay.2 with h | h; exact h.1.1; omega
 have hg:=jq hb he
 revert hg
 unfold cg
 split
 ·rename_i h0
  intro _
  have hn:s.s.atom=0∧s.s.done=0:=by
   rcases hmay.2 with h | h
   ·have:=h.1; rw [h0.1] at this; simp at this; omega
   ·rw [h0.1] at h; simpa using h
  show goP b.atoms s.s.atom s.s.done []=_
  rw [goP,hn.1,hn.2]; rfl
 ·split
  ·intro _; rfl
  ·rename_i hf
   intro hg
   have hm:dn b.atoms s.s:=hmay.2.resolve_right fun h=>hf (.inl h.1)
   have hkind:(lN (dX b (dt b s))).kind=1:=(kg b (dt b s)).2
   obtain ⟨-,g1,g2,hcg⟩:=hg.cut hkind
   change goP b.atoms s.s.atom s.s.done (dX b (dt b s)).fs=some ((fo b (dt b s)).s.atom,(fo b (dt b s)).s.done)
   change qh b s.s (fo b (dt b s)).s (dX b (dt b s)).fs _ _ at hcg
   have hrl:dE b (dt b s)≤b.atoms.length:=nS
   have hbl:=hb.brk
   unfold dX fo at hcg ⊢
   by_cases hok:eS b.brks (dt b s).s.atom (dE b (dt b s))
   ·rw [if_pos hok,if_pos hok]
    obtain ⟨c,c1,c2,c3⟩:=qQ hok (by omega)
    rw [show uR b (dt b s)=c from c1,Int.toNat_natCast]
    have c2':s.s.atom < c:=c2
    exact xM hb hm c2' (by omega)
   ·rw [if_neg hok,if_neg hok] at hcg ⊢
    have hso:od b.atoms s.s (bB b s.s).body:=⟨hm,jD hb.toBkFull s.s hat⟩
    obtain ⟨⟨h3,h4⟩,h5,h6⟩:=hm
    obtain ⟨a,ha⟩:∃a:Nat,s.s.atom=a:=⟨s.s.atom.toNat,by omega⟩
    have hal:a < b.atoms.length:=by omega
    have hp:=hb.pos _ (List.getElem_mem hal)
    have hbd:=jD hb.toBkFull s.s hat
    have hag:atG b.atoms s.s.atom=b.atoms[a]:=by rw [ha,br hal]
    show goP b.atoms s.s.atom s.s.done [cb (bB b s.s).high (ir b.atoms s.s (bB b s.s).body)]=some ((ed b.atoms s.s (bB b s.s).body).atom,(ed b.atoms s.s (bB b s.s).body).done)
    rw [ir,if_pos hso,ed,if_pos hso,eU,iY]
    simp only [goP,cb,Frg.cut,Frg.bI,fg,hag]
    rw [hag] at h6
    rw [if_pos ⟨⟨h3,h4⟩,trivial,trivial,trivial,by omega,trivial,trivial,by omega⟩]
    by_cases e:s.s.done+min (b.atoms[a].h - s.s.done) (bB b s.s).body=b.atoms[a].h
    ·have hlt:¬(s.s.done+min (b.atoms[a].h - s.s.done) (bB b s.s).body < b.atoms[a].h):=by omega
     rw [if_pos e,if_neg hlt]
    ·have hlt:s.s.done+min (b.atoms[a].h - s.s.done) (bB b s.s).body < b.atoms[a].h:=by omega
     rw [if_neg e,if_pos hlt]; simp
theorem wV {x:Flo} {r:List Flo}:∀(p:List Flo) (i:Nat),(x::r).Sublist p→∃k:Nat,jA x p i=((i+k:Nat):Int)∧r.Sublist (p.drop (k+1))
 | [],i,h=>by cases h
 | q::p,i,h=>by
   rw [jA]
   by_cases e:x=q
   ·subst e
    rw [if_pos rfl]
    exact ⟨0,rfl,List.cons_sublist_cons.1 h⟩
   ·rw [if_neg e]
    have h':(x::r).Sublist p:=by
     cases h with
     | cons _ h=>exact h
     | cons_cons _ h=>exact absurd rfl e
    obtain ⟨k,h1,h2⟩:=wV p (i+1) h'
    exact ⟨k+1,by rw [h1]; congr 1; omega,by simpa using h2⟩
theorem xy {fls:List Flo}:∀(p:List Flo) (at':Nat),p.Sublist (fls.drop at')→j0 fls p at'=true
 | [],at',_=>rfl
 | x::r,at',h=>by
   obtain ⟨k,h1,h2⟩:=wV _ 0 h
   rw [Nat.zero_add] at h1
   rw [j0,h1,if_neg (by omega),Int.toNat_natCast]
   refine xy r _ ?_
   rw [List.drop_drop] at h2
   rw [show at'+k+1=at'+(k+1) by omega]
   exact h2
theorem wc {x:Flo}:∀(p:List Flo) (i k:Nat),jA x p i=((i+k:Nat):Int)→p[k]?=some x
 | [],i,k,h=>by simp [jA] at h; omega
 | q::p,i,k,h=>by
   rw [jA] at h
   split at h
   ·rename_i e
    obtain rfl:k=0:=by omega
    simp [e]
   ·rcases nu x p (i+1) with h2 | ⟨m,h2,_⟩
    ·rw [h2] at h; omega
    ·have hk:k=m+1:=by rw [h2] at h; omega
     subst hk
     rw [List.getElem?_cons_succ]
     exact wc p (i+1) m h2
theorem qH {fls:List Flo}:∀(p:List Flo) (at':Nat),j0 fls p at'=true→p.Sublist (fls.drop at')
 | [],at',_=>List.nil_sublist _
 | x::r,at',h=>by
   rw [j0] at h
   split at h
   ·cases h
   ·rename_i hk
    rcases nu x (fls.drop at') 0 with e | ⟨k,e,hk2⟩
    ·exact absurd (by rw [e]; decide) hk
    ·rw [e,Nat.zero_add,Int.toNat_natCast] at h
     have hx:=wc _ 0 k e
     obtain ⟨hl,hg⟩:=List.getElem?_eq_some_iff.1 hx
     have hr:=qH r _ h
     have e1:fls.drop at'=(fls.drop at').take k++x::(fls.drop at').drop (k+1):=by
      conv=>lhs; rw [←List.take_append_drop k (fls.drop at')]
      rw [List.drop_eq_getElem_cons hl,hg]
     rw [e1,List.drop_drop,show at'+(k+1)=at'+k+1 by omega]
     exact (List.Sublist.cons_cons x hr).trans (List.sublist_append_right _ _)
theorem wX {body:Int}:∀(l:List Flo) (sh:Int),(dV body l sh).2.1.Sublist l
 | [],_=>by simp [dV]
 | f::r,sh=>by
   rw [dV]
   split
   ·exact List.Sublist.refl _
   ·exact (wX r _).trans (List.sublist_cons_self _ _)
theorem AV {top shift body:Int} (L:List Flo):(iD top shift body L).2.Sublist L:=by
 suffices key:∀(L L0:List Flo) (x:List Flo×List Flo),x.2.Sublist L0→(L.foldl (fun x f=>la body x f (eY top shift f)) x).2.Sublist (L0++L) from by have h:=key L [] ([],[]) (List.Sublist.refl _); rw [List.nil_append] at h; exact h
 intro L
 induction L with
 | nil=>intro L0 x h; simpa using h
 | cons f L ih =>
   intro L0 x h
   rw [List.foldl_cons,show L0++f::L=(L0++[f])++L by simp]
   refine ih _ _ ?_
   simp only [la]
   split
   ·exact h.append (List.Sublist.refl _)
   ·exact h.trans (List.sublist_append_left _ _)
theorem tp {b:Bk} {s:Stt} {to kept shift body:Int}:(dM b.atoms b.fls s to kept shift body).2.Sublist b.fls:=by
 unfold dM
 split
 ·exact (AV _).trans List.filter_sublist
 ·exact List.nil_sublist _
theorem Dp {b:Bk} (hb:fD b) {s:Sta} (he:¬eD b s):iM b (cg b s).2:=by
 have hmay:iM b s:=Decidable.byContradiction fun h=>he (.inl h)
 have hg:=jq hb he
 have hp:s.pend.Sublist b.fls:=qH _ 0 hmay.1
 refine ⟨xy _ 0 ?_,?_⟩
 ·rw [List.drop_zero]
  unfold cg
  split
  ·exact List.dropWhile_sublist _
  ·split
   ·exact (wX _ _).trans hp
   ·show (fo b (dt b s)).pend.Sublist b.fls
    unfold fo
    split
    ·exact tp
    ·exact tp
 ·rcases hg.kd with k | k
  ·obtain ⟨hm, -, -,hc⟩:=hg.cut k
   have hm0:=hm
   obtain ⟨⟨h0,h1⟩,h2,h3⟩:=hm
   cases hc with
   | more q1 q2 q3 q4 q5 =>
     left
     unfold eQ at q3
     rw [if_pos hm0] at q3
     have:=(rF hb.toBkFull s.s h0).2.1
     refine ⟨by omega,by omega, .inr ?_⟩
     rw [q1]; omega
   | whole c r y q1 q2 q3 q4 q5 q6 q7 q8 q9 =>
     rw [q1]
     by_cases hcl:c=b.atoms.length
     ·exact .inr ⟨by simp only; omega,rfl⟩
     ·exact .inl ⟨⟨by simp only; omega,by simp only; omega⟩,Int.le_refl _, .inl rfl⟩
  ·have hf:=hg.no' k
   have hgo:=yx hb he
   rw [hf,goP] at hgo
   have e:=Option.some.inj hgo
   have e1:(cg b s).2.s.atom=s.s.atom:=(congrArg Prod.fst e).symm
   have e2:(cg b s).2.s.done=s.s.done:=(congrArg Prod.snd e).symm
   unfold dn
   rw [e1,e2]
   exact hmay.2
open Go.Proofs Go.Proofs.Tryz
theorem ng (l:List Frg):dB false (bN l)=some (.int .i64 l.length):=by simp [bN,dB]
theorem zH {σ:af} {l:List Frg} {i:Nat} (h:i < l.length):bF σ 7 (bN l) (.int .i64 i)=some (.rp (aX l[i])):=by simp [bN,bF,h,aX]
theorem Db {l:List Frg} (hn:l.length≤1000000) (hh:∀f∈l,0≤f.h∧f.h≤1099511627776) (j:Nat):0≤((l.take j).map (·.h)).sum∧((l.take j).map (·.h)).sum≤1099511627776000000:=by
 have key:∀(l:List Frg),(∀f∈l,0≤f.h∧f.h≤1099511627776)→0≤(l.map (·.h)).sum∧(l.map (·.h)).sum≤1099511627776*l.length:=by
  intro l
  induction l with
  | nil=>intro _; simp
  | cons f l ih =>
    intro h
    have h1:=h f (by simp)
    have h2:=ih fun g hg=>h g (by simp [hg])
    simp only [List.map_cons,List.sum_cons,List.length_cons]
    omega
 have h:=key (l.take j) fun f hf=>hh f (List.mem_of_mem_take hf)
 have h2:(l.take j).length≤1000000:=by rw [List.length_take]; omega
 omega
theorem Bw {l:List Frg} {j:Nat} (h:j < l.length):((l.take (j+1)).map (·.h)).sum=((l.take j).map (·.h)).sum+l[j].h:=by
 rw [List.take_succ_eq_append_getElem h,List.map_append,List.sum_append]
 simp
theorem vg (p:Pag) (hn:p.hs.length≤1000000) (hh:∀f∈p.hs,0≤f.h∧f.h≤1099511627776):aT prog 35 [fF p] (vI (p.hs.map (·.h)).sum):=fun σ=>by
 refine e35.r (by simp [c35]) ?_
 have hs:=aa.refl σ
 have hpc:(fF p).cells=[vI p.no,vI p.kind,bN p.hs,bN p.fs,bN p.ls]:=rfl
 have hpp:(fF p).stays=true:=rfl
 have hlf:=ng p.hs
 refine ad.mix 5 ?_
 apply sR;simp only [go_sem,seval,c35,hpc,hpp]
 refine ae fun i1 σ1 s1 a1 f1=>?_
 have z1:=hs.none f1
 replace hs:=hs.trans s1
 simp only [go_sem,seval]
 refine ad.loop (fun m st=>∃j:Nat,j≤p.hs.length∧m=p.hs.length - j∧st.σ=σ1∧st.s 1=.ptr i1 0 0∧st.s 3=vI ((p.hs.take j).map (·.h)).sum∧st.s 4=vI j) p.hs.length ?_ ?_
 ·exact ⟨0,by omega,by omega,rfl,rfl,rfl,rfl⟩
 ·rintro m ⟨S,τ⟩ ⟨j,hj,rfl,hσ,t1,t3,t4⟩
  simp only at hσ t1 t3 t4
  subst hσ
  refine ad.mix 5 ?_
  by_cases hlt:j < p.hs.length
  ·have q:((j:Int) < p.hs.length)=True:=eq_true (by omega)
   have r1:inR .i64 ((j:Int)+1):=ak (by omega) (by omega)
   have hnd:=fun σ=>zH (σ:=σ) hlt
   have hfc:(aX p.hs[j]).cells=[vI p.hs[j].node,vI p.hs[j].atom,vI p.hs[j].fr,vI p.hs[j].x,vI p.hs[j].y,vI p.hs[j].w,vI p.hs[j].h]:=rfl
   have hst:=Bw hlt
   have hr:=Db hn hh (j+1)
   rw [hst] at hr
   have r2:inR .i64 (((p.hs.take j).map (·.h)).sum+p.hs[j].h):=ak (by omega) (by omega)
   apply sR;simp only [go_sem,seval,t1,a1,hpc,t3,t4,hlf,List.length_map,q,hnd,hfc,r1,r2]
   exact ⟨_,by omega,j+1,by omega,rfl,by rw [hst],rfl⟩
  ·have q:((j:Int) < p.hs.length)=False:=eq_false (by omega)
   have hje:j=p.hs.length:=by omega
   apply sR;simp only [go_sem,seval,t1,a1,hpc,t3,t4,hlf,List.length_map,q]
   exact ar.pure hs (by rw [hje,List.take_length])
theorem qV (l:List Frg) (top e:Int) (hn:l.length≤10000000) (h0:-1152921504606846976≤top) (he:e≤1152921504606846976) (h:inF top e l):aT prog 37 [bN l,vI top,vI e] (.bool true):=fun σ=>by
 refine e37.r (by simp [c37]) ?_
 have hs:=aa.refl σ
 have hlf:=ng l
 refine ad.mix 8 ?_
 apply sR;simp only [go_sem,seval,c37]
 refine ad.loop (fun m st=>∃j:Nat,j≤l.length∧m=l.length - j∧st.σ=σ∧st.s 0=bN l∧st.s 1=vI top∧st.s 2=vI e∧st.s 7=vI j) l.length ?_ ?_
 ·exact ⟨0,by omega,by omega,rfl,rfl,rfl,rfl,rfl⟩
 ·rintro m ⟨S,τ⟩ ⟨j,hj,rfl,hσ,t0,t1,t2,t7⟩
  simp only at hσ t0 t1 t2 t7
  subst hσ
  refine ad.mix 8 ?_
  by_cases hlt:j < l.length
  ·have q:((j:Int) < l.length)=True:=eq_true (by omega)
   have r1:inR .i64 ((j:Int)+1):=ak (by omega) (by omega)
   have hnd:=fun σ=>zH (σ:=σ) hlt
   have hfc:(aX l[j]).cells=[vI l[j].node,vI l[j].atom,vI l[j].fr,vI l[j].x,vI l[j].y,vI l[j].w,vI l[j].h]:=rfl
   obtain ⟨g1,g2,g3⟩:=h _ (List.getElem_mem hlt)
   have q1:(l[j].y < top)=False:=eq_false (by omega)
   have q2:(l[j].h < 0)=False:=eq_false (by omega)
   have q3:(l[j].y+l[j].h > e)=False:=eq_false (by omega)
   have r2:inR .i64 (l[j].y+l[j].h):=ak (by omega) (by omega)
   apply sR;simp only [go_sem,seval,t0,t1,t2,t7,hlf,List.length_map,q,hnd,hfc,q1,q2,q3,r1,r2]
   exact ⟨_,by omega,j+1,by omega,rfl,rfl⟩
  ·have q:((j:Int) < l.length)=False:=eq_false (by omega)
   apply sR;simp only [go_sem,seval,t0,t1,t2,t7,hlf,List.length_map,q]
   exact ar.pure hs rfl
open Go.Proofs Go.Proofs.Tryz
theorem Cg (s t:Sta) (n:Int) (h:JS s t n):aT prog 36 [bf s,bf t,vI n] (.bool true):=fun σ=>by
 refine e36.r (by simp [c36]) ?_
 have hs:=aa.refl σ
 have hsc:∀x:Sta,(bf x).cells=[vI x.s.atom,vI x.s.done, .bool x.s.free,aF x.pend]:=fun _=>rfl
 have hss:∀x:Sta,(bf x).stays=true:=fun _=>rfl
 have hls:=ey s.pend
 have hlt:=ey t.pend
 have fin:∀(S:Nat→V) (τ:af) (i3 i4 i7 i8:Nat),aa σ τ→τ i3=some ⟨27,4,[.agg [vI s.s.atom,vI s.s.done, .bool s.s.free,aF s.pend]]⟩→τ i4=some ⟨27,4,[.agg [vI t.s.atom,vI t.s.done, .bool t.s.free,aF t.pend]]⟩→τ i7=some ⟨24,3,[.agg [vI s.s.atom,vI s.s.done, .bool s.s.free]]⟩→τ i8=some ⟨24,3,[.agg [vI t.s.atom,vI t.s.done, .bool t.s.free]]⟩ →
  S 2=vI n→S 3=.ptr i3 0 0→S 4=.ptr i4 0 0→S 7=.ptr i7 0 0→S 8=.ptr i8 0 0 →
  ad prog 64 [It.code c36.code.rt.rt] ⟨S,τ⟩ fun st=>Ret [.tmp (.t 6)] st fun r σ'=>r=.bool true∧σ'=σ:=by
  intro S τ i3 i4 i7 i8 hsτ a3 a4 a7 a8 t2 t3 t4 t7 t8
  refine ad.mix 9 ?_
  rcases h with h | ⟨h1,h2⟩ | ⟨h1,h2,h3⟩
  ·have q1:(t.s.atom > s.s.atom)=True:=eq_true h
   apply sR;simp only [go_sem,seval,c36,bx.rt,t2,t3,t4,t7,t8,a3,a4,a7,a8,q1,hsc]
   exact ar.pure hsτ rfl
  ·have q1:(t.s.atom > s.s.atom)=False:=eq_false (by omega)
   have q2:(t.s.atom=s.s.atom)=True:=eq_true h1
   have q3:(t.s.done > s.s.done)=True:=eq_true h2
   apply sR;simp only [go_sem,seval,c36,bx.rt,t2,t3,t4,t7,t8,a3,a4,a7,a8,q1,q2,q3,hsc]
   exact ar.pure hsτ rfl
  ·have q1:(t.s.atom > s.s.atom)=False:=eq_false (by omega)
   have q2:(t.s.atom=s.s.atom)=True:=eq_true h1
   have q3:(t.s.done > s.s.done)=False:=eq_false (by omega)
   have q4:(t.s.done=s.s.done)=True:=eq_true h2
   by_cases h5:t.pend.length < s.pend.length
   ·have q5:((t.pend.length:Int) < s.pend.length)=True:=eq_true (by omega)
    apply sR;simp only [go_sem,seval,c36,bx.rt,t2,t3,t4,t7,t8,a3,a4,a7,a8,q1,q2,q3,q4,q5,hls,hlt,List.length_map,hsc]
    exact ar.pure hsτ rfl
   ·have q5:((t.pend.length:Int) < s.pend.length)=False:=eq_false (by omega)
    obtain ⟨h6,h7⟩:=h3.resolve_left h5
    have q6:(t.s.atom=n)=True:=eq_true h6
    rw [h7] at a8
    apply sR;simp only [go_sem,seval,c36,bx.rt,t2,t3,t4,t7,t8,a3,a4,a7,a8,q1,q2,q3,q4,q5,q6,hls,hlt,List.length_map,hsc]
    exact ar.pure hsτ rfl
 refine ad.mix 7 ?_
 apply sR;simp only [go_sem,seval,c36,hsc,hss]
 refine ae fun i3 σ3 s3 a3 f3=>?_
 have z3:=hs.none f3
 replace hs:=hs.trans s3
 simp only [go_sem,seval,hsc,hss]
 refine ae fun i4 σ4 s4 a4 f4=>?_
 have n34:=ao a3 f4
 replace a3:=s4 _ _ a3
 have z4:=hs.none f4
 replace hs:=hs.trans s4
 simp only [go_sem,seval,a3,a4,ct]
 have a7:True:=trivial
 have a8:True:=trivial
 have hn:True:=trivial
 have u37:True:=trivial
 have u47:True:=trivial
 have u38:True:=trivial
 have u48:True:=trivial
 have hs0:=hs
 refine ad.Av (by kernel_rfl) 8 (.fork [[],[0],[],[2],[],[],[4,1,0,5],[5,3,6,0,1,2,4]] [0,1,2,3] [4,5] [(.leaf [[],[0],[],[2],[],[4],[4,1,0,5],[4,5,3,6,0,1,2]] [4,5,6,7]),(.leaf [[],[0],[],[2],[5],[],[5,4,1,0],[5,3,6,0,1,2,4]] [5,4,6,7])]) (by kernel_rfl) ?_
 refine GT.mU (its:=[0,2,4,6]) (by kernel_rfl) ?_
 refine RE.seg (n:=0) [] [0,2,4,6] [⟨(.some 9),(.fldA .true 0 3 (.t 3)),.none⟩,⟨(.some 10),(.load .true 3 (.t 9)),.none⟩,⟨(.some 11),(.fldA .true 0 3 (.t 4)),.none⟩,⟨(.some 12),(.load .true 3 (.t 11)),.none⟩] rfl rfl ?_
 apply sG;simp only [go_sem,seval,a3,a4,a7,a8,hn,hsc,u37,u47,u38,u48]
 refine ⟨?_,?_⟩
 ·refine GT.gM (its:=[8,3,7,10,3,7,12,7,14]) (by kernel_rfl) ?_
  refine RE.seg (n:=0) [3,7,10,3,7,12,7,14] [8] [⟨(.some 7),(.alloc 24 3 (.agg [(.int .i64 0),(.int .i64 0),(.bool .false)])),.none⟩] rfl rfl ?_
  apply sG;simp only [go_sem,seval,a3,a4,a7,a8,hn,hsc,u37,u47,u38,u48]
  refine bo fun i7 σ7 s7 a7 f7=>?_
  try replace hn:=bV (ao a8 f7).symm
  try replace a8:=s7 _ _ a8
  have n37:=ao a3 f7
  have n47:=ao a4 f7
  replace u37:=(bV n37).2
  replace u47:=(bV n47).2
  replace a3:=s7 _ _ a3
  replace a4:=s7 _ _ a4
  have z7:=hs0.none f7
  replace hs0:=hs0.trans s7
  simp only [go_sem,seval,a3,a4,a7,a8,hn,hsc,u37,u47,u38,u48]
  refine RE.chk rfl rfl rfl rfl rfl trivial (by simp only [go_sem,seval,a3,a4,a7,a8,hn,hsc,u37,u47,u38,u48]) ?_
  refine RE.chk rfl rfl rfl rfl rfl trivial (by simp only [go_sem,seval,a3,a4,a7,a8,hn,hsc,u37,u47,u38,u48]) ?_
  refine RE.seg (n:=0) [3,7,12,7,14] [10] [⟨(.some 8),(.alloc 24 3 (.agg [(.int .i64 0),(.int .i64 0),(.bool .false)])),.none⟩] rfl rfl ?_
  apply sG;simp only [go_sem,seval,a3,a4,a7,a8,hn,hsc,u37,u47,u38,u48]
  refine bo fun i8 σ8 s8 a8 f8=>?_
  try replace hn:=bV (ao a7 f8)
  try replace a7:=s8 _ _ a7
  have n38:=ao a3 f8
  have n48:=ao a4 f8
  replace u38:=(bV n38).2
  replace u48:=(bV n48).2
  replace a3:=s8 _ _ a3
  replace a4:=s8 _ _ a4
  have z8:=hs0.none f8
  replace hs0:=hs0.trans s8
  simp only [go_sem,seval,a3,a4,a7,a8,hn,hsc,u37,u47,u38,u48]
  refine RE.chk rfl rfl rfl rfl rfl trivial (by simp only [go_sem,seval,a3,a4,a7,a8,hn,hsc,u37,u47,u38,u48]) ?_
  refine RE.chk rfl rfl rfl rfl rfl trivial (by simp only [go_sem,seval,a3,a4,a7,a8,hn,hsc,u37,u47,u38,u48]) ?_
  refine RE.seg (n:=0) [7,14] [12] [⟨.none,(.store 3 (.t 7) (.t 10)),.none⟩] rfl rfl ?_
  apply sG;simp only [go_sem,seval,a3,a4,a7,a8,hn,hsc,u37,u47,u38,u48]
  refine RE.chk rfl rfl rfl rfl rfl trivial (by simp only [go_sem,seval,a3,a4,a7,a8,hn,hsc,u37,u47,u38,u48]) ?_
  refine RE.seg (n:=0) [] [14] [⟨.none,(.store 3 (.t 8) (.t 12)),.none⟩] rfl rfl ?_
  apply sG;simp only [go_sem,seval,a3,a4,a7,a8,hn,hsc,u37,u47,u38,u48]
  exact fin _ _ i3 i4 i7 i8 ((hs0.aC z7).aC z8) (((ab n38).trans (ab n37)).trans a3) (((ab n48).trans (ab n47)).trans a4) ((hn.2 _ _).trans ag) ag rfl rfl rfl rfl rfl
 ·refine GT.gM (its:=[10,3,7,8,3,7,12,7,14]) (by kernel_rfl) ?_
  refine RE.seg (n:=0) [3,7,8,3,7,12,7,14] [10] [⟨(.some 8),(.alloc 24 3 (.agg [(.int .i64 0),(.int .i64 0),(.bool .false)])),.none⟩] rfl rfl ?_
  apply sG;simp only [go_sem,seval,a3,a4,a7,a8,hn,hsc,u37,u47,u38,u48]
  refine bo fun i8 σ8 s8 a8 f8=>?_
  try replace hn:=bV (ao a7 f8)
  try replace a7:=s8 _ _ a7
  have n38:=ao a3 f8
  have n48:=ao a4 f8
  replace u38:=(bV n38).2
  replace u48:=(bV n48).2
  replace a3:=s8 _ _ a3
  replace a4:=s8 _ _ a4
  have z8:=hs0.none f8
  replace hs0:=hs0.trans s8
  simp only [go_sem,seval,a3,a4,a7,a8,hn,hsc,u37,u47,u38,u48]
  refine RE.chk rfl rfl rfl rfl rfl trivial (by simp only [go_sem,seval,a3,a4,a7,a8,hn,hsc,u37,u47,u38,u48]) ?_
  refine RE.chk rfl rfl rfl rfl rfl trivial (by simp only [go_sem,seval,a3,a4,a7,a8,hn,hsc,u37,u47,u38,u48]) ?_
  refine RE.seg (n:=0) [3,7,12,7,14] [8] [⟨(.some 7),(.alloc 24 3 (.agg [(.int .i64 0),(.int .i64 0),(.bool .false)])),.none⟩] rfl rfl ?_
  apply sG;simp only [go_sem,seval,a3,a4,a7,a8,hn,hsc,u37,u47,u38,u48]
  refine bo fun i7 σ7 s7 a7 f7=>?_
  try replace hn:=bV (ao a8 f7).symm
  try replace a8:=s7 _ _ a8
  have n37:=ao a3 f7
  have n47:=ao a4 f7
  replace u37:=(bV n37).2
  replace u47:=(bV n47).2
  replace a3:=s7 _ _ a3
  replace a4:=s7 _ _ a4
  have z7:=hs0.none f7
  replace hs0:=hs0.trans s7
  simp only [go_sem,seval,a3,a4,a7,a8,hn,hsc,u37,u47,u38,u48]
  refine RE.chk rfl rfl rfl rfl rfl trivial (by simp only [go_sem,seval,a3,a4,a7,a8,hn,hsc,u37,u47,u38,u48]) ?_
  refine RE.chk rfl rfl rfl rfl rfl trivial (by simp only [go_sem,seval,a3,a4,a7,a8,hn,hsc,u37,u47,u38,u48]) ?_
  refine RE.seg (n:=0) [7,14] [12] [⟨.none,(.store 3 (.t 7) (.t 10)),.none⟩] rfl rfl ?_
  apply sG;simp only [go_sem,seval,a3,a4,a7,a8,hn,hsc,u37,u47,u38,u48]
  refine RE.chk rfl rfl rfl rfl rfl trivial (by simp only [go_sem,seval,a3,a4,a7,a8,hn,hsc,u37,u47,u38,u48]) ?_
  refine RE.seg (n:=0) [] [14] [⟨.none,(.store 3 (.t 8) (.t 12)),.none⟩] rfl rfl ?_
  apply sG;simp only [go_sem,seval,a3,a4,a7,a8,hn,hsc,u37,u47,u38,u48]
  exact fin _ _ i3 i4 i7 i8 ((hs0.aC z7).aC z8) (((ab n38).trans (ab n37)).trans a3) (((ab n48).trans (ab n47)).trans a4) ((hn.2 _ _).trans ag) ag rfl rfl rfl rfl rfl
open Go.Proofs Go.Proofs.Tryz
theorem EG (b:List Brk):dB false (bG b)=some (.int .i64 b.length):=by simp [bG,dB]
theorem Gp (b:Bk) (hb:BkFull b) (p:Pag) (s t:Stt) (top body:Int) (hm:dn b.atoms s) (hn:p.hs.length≤1000000) (hh:∀f∈p.hs,0≤f.h∧f.h≤1099511627776) (gC:(p.hs.map (·.h)).sum=top)
 (ht:0≤top∧top≤1099511627776) (hbd:0≤body∧body≤1099511627776) (hp:0 < p.fs.length) (hfn:p.fs.length≤1000000) (hin:inF top (top+body) p.fs) (h1:∀f,p.fs[0]?=some f→f.atom=s.atom∧f.fr=s.done)
 (hc:qh b s t p.fs top body):aT prog 39 [.rp (bw b),fF p,bh s,bh t,vI body] (.bool true):=fun σ=>by
 refine e39.r (by simp [c39]) ?_
 have hs:=aa.refl σ
 have hpc:(fF p).cells=[vI p.no,vI p.kind,bN p.hs,bN p.fs,bN p.ls]:=rfl
 have hpp:(fF p).stays=true:=rfl
 have hsc:∀s:Stt,(bh s).cells=[vI s.atom,vI s.done, .bool s.free]:=fun _=>rfl
 have hss:∀s:Stt,(bh s).stays=true:=fun _=>rfl
 have hgc:(mA b).cells=[bt b.atoms,aF b.fls,vI b.height]:=rfl
 have hbc:∀x:Brk,(eN x).cells=[vI x.cls,vI x.forced,vI x.rank]:=fun _=>rfl
 have hfc:∀f:Frg,(aX f).cells=[vI f.node,vI f.atom,vI f.fr,vI f.x,vI f.y,vI f.w,vI f.h]:=fun _=>rfl
 have hla:=gv b.atoms
 have hlb:=EG b.brks
 have hlf:=ng p.fs
 have hbl:=hb.brk
 have hal:=hb.len
 obtain ⟨⟨a0,a1⟩,d0,d1⟩:=id hm
 obtain ⟨f0,r0,hf⟩:∃f r,p.fs=f::r:=by
  cases h:p.fs with
  | nil=>rw [h] at hp; simp at hp
  | cons f r=>exact ⟨f,r,rfl⟩
 obtain ⟨e1,e2⟩:=h1 f0 (by rw [hf]; rfl)
 obtain ⟨g1,g2,g3⟩:=hin f0 (by rw [hf]; simp)
 have hz:p.fs[0]?=some f0:=by rw [hf]; rfl
 have hi0:∀σ,bF σ 7 (bN p.fs) (.int .i64 0)=some (.rp (aX f0)):=fun σ=>by rw [hf]; simp [bN,bF,aX]
 obtain ⟨ka,hka⟩:∃k:Nat,s.atom=k:=⟨s.atom.toNat,by omega⟩
 have hka2:ka < b.atoms.length:=by omega
 have hxe:atG b.atoms s.atom=b.atoms[ka]:=by rw [hka,br hka2]
 have hat:=hb.tight _ (List.getElem_mem hka2)
 rw [←hxe] at hat
 have q1:(s.atom < 0)=False:=eq_false (by omega)
 have q2:(s.atom≥b.atoms.length)=False:=eq_false (by omega)
 have q3:((b.brks.length:Int)≠b.atoms.length+1)=False:=eq_false (fun h=>h (by omega))
 have q4:((p.fs.length:Int)=0)=False:=eq_false (by omega)
 have q5:(f0.atom≠s.atom)=False:=eq_false (fun h=>h e1)
 have q6:(f0.fr≠s.done)=False:=eq_false (fun h=>h e2)
 have r1:inR .i64 ((b.atoms.length:Int)+1):=ak (by omega) (by omega)
 have hL:0≤eQ b.atoms s∧eQ b.atoms s≤18014398509481984:=by
  unfold eQ; rw [if_pos hm]; omega
 refine ad.mix 19 ?_
 apply sR;simp only [go_sem,seval,c39,hpc,hpp,hsc,hss]
 refine ae fun i6 σ6 s6 a6 f6=>?_
 have z6:=hs.none f6
 replace hs:=hs.trans s6
 simp only [go_sem,seval,hpc,hpp,hsc,hss]
 refine ae fun i7 σ7 s7 a7 f7=>?_
 have n67:=ao a6 f7
 replace a6:=s7 _ _ a6
 have z7:=hs.none f7
 replace hs:=hs.trans s7
 simp only [go_sem,seval,hpc,hpp,hsc,hss]
 refine ae fun i8 σ8 s8 a8 f8=>?_
 have n68:=ao a6 f8
 replace a6:=s8 _ _ a6
 have n78:=ao a7 f8
 replace a7:=s8 _ _ a7
 have z8:=hs.none f8
 replace hs:=hs.trans s8
 simp only [go_sem,seval,a6,a7,a8]
 refine ad.av rfl rfl rfl (ou b hb _) ?_
 apply sR;simp only [go_sem,seval,mA]
 refine ad.av rfl rfl rfl (Aw b hb _) ?_
 apply sR;simp only [go_sem,seval,a6,a7,a8,hla,hlb,hlf,List.length_map,hi0,hfc,q1,q2,q3,q4,q5,q6,r1,hpc,hsc]
 refine ad.av rfl rfl rfl (Ah b.atoms hb.at' s (by omega) _) ?_
 cases hc with
 | more m1 m2 m3 m4 m5 =>
   have p1:(t.atom=s.atom)=True:=eq_true m1
   have p2:((p.fs.length:Int)=1)=True:=eq_true (by omega)
   have p3:(eQ b.atoms s > body)=True:=eq_true m3
   have p4:(f0.h=body)=True:=eq_true (m4 f0 hz)
   have p5:(t.done=s.done+body)=True:=eq_true m5
   have r2:inR .i64 (s.done+body):=ak (by omega) (by omega)
   apply sR;simp only [go_sem,seval,a6,a7,a8,hlf,List.length_map,hi0,hfc,p1,p2,p3,p4,p5,r2,hpc,hsc]
   exact ar.pure hs rfl
 | whole c r y m1 m2 m3 m4 m5 m6 m7 m8 m9 =>
   have hy:=m6 f0 hz
   have hbk:∀(k:Nat),k≤b.atoms.length→∀σ,bF σ 3 (bG b.brks) (.int .i64 k)=some (.rp (eN (bkG b.brks k))):=fun k hk σ=>by
    rw [uD (by omega),bkG,List.getD_eq_getElem?_getD,List.getElem?_eq_getElem (by omega),Option.getD_some]
   have p1:((c:Int)=s.atom)=False:=eq_false (by omega)
   have p2:((c:Int) < s.atom)=False:=eq_false (by omega)
   have p3:((c:Int) > b.atoms.length)=False:=eq_false (by omega)
   have p4:((p.fs.length:Int)≠c - s.atom)=False:=eq_false (fun h=>h (by omega))
   have r2:inR .i64 ((c:Int) - s.atom):=ak (by omega) (by omega)
   have bc:=hbk c (by omega)
   rw [m1] at a8
   have r3:inR .i64 (s.atom+1):=ak (by omega) (by omega)
   have r4:inR .i64 (top+body):=ak (by omega) (by omega)
   generalize hF:(bkG b.brks c).forced=F at *
   have hbb:∀x:Bool,(x == x)=true:=fun x=>by cases x <;> rfl
   generalize hD:decide (F≠0)=D at *
   apply sR;simp only [go_sem,seval,a6,a7,a8,hlf,List.length_map,hi0,hfc,hbc,hla,p1,p2,p3,p4,r2,bc,hF,hD,hbb,hpc,hsc]
   refine ad.fE (fun st=>st.σ=σ8∧st.s 4=vI body∧st.s 7=.ptr i7 0 0∧st.s 8=.ptr i8 0 0∧st.s 12=bG b.brks∧st.s 15=vI r)
    (fun m st=>∃j:Nat,s.atom≤j∧j≤r∧m=r - j∧st.σ=σ8∧st.s 4=vI body∧st.s 6=.ptr i6 0 0∧st.s 7=.ptr i7 0 0∧st.s 8=.ptr i8 0 0∧st.s 11=bt b.atoms∧st.s 12=bG b.brks∧st.s 13=vI (eQ b.atoms s)∧st.s 14=vI f0.y∧st.s 15=vI j) (r - s.atom.toNat) ?_ ?_ ?_
   ·exact ⟨s.atom.toNat,by omega,by omega,rfl,rfl,rfl,rfl,rfl,rfl,rfl,rfl,rfl,rfl,by rw [Int.toNat_of_nonneg a0]; rfl⟩
   ·rintro m ⟨S,τ⟩ ⟨j,hj0,hj,rfl,hσ,t4,t6,t7,t8,t11,t12,t13,t14,t15⟩
    simp only at hσ t4 t6 t7 t8 t11 t12 t13 t14 t15
    subst hσ
    refine ad.mix 19 ?_
    by_cases hlt:j < b.atoms.length
    ·have p1:((j:Int) < b.atoms.length)=True:=eq_true (by omega)
     have r5:inR .i64 ((j:Int)+1):=ak (by omega) (by omega)
     have hj1:=hb.tight _ (List.getElem_mem hlt)
     have ha1:∀σ,bF σ 8 (bt b.atoms) (.int .i64 j)=some (.rp (cB b.atoms[j])):=fun σ=>fI hlt
     have ha2:∀σ,bF σ 8 (bt b.atoms) (.int .i64 s.atom)=some (.rp (cB (atG b.atoms s.atom))):=fun σ=>by rw [hxe,hka]; exact fI hka2
     by_cases he:(j:Int)=s.atom
     ·have p2:((j:Int) > s.atom)=False:=eq_false (by omega)
      have p3:((j:Int)=s.atom)=True:=eq_true he
      have r6:inR .i64 (f0.y+eQ b.atoms s):=ak (by omega) (by omega)
      apply sR;simp only [go_sem,seval,t4,t6,t7,t11,t13,t14,t15,hla,a6,a7,p1,p2,p3,ha1,r6,gK,hpc,hsc]
      refine ad.av rfl rfl rfl (vg p hn hh _) ?_
      rw [gC]
      by_cases hjr:j < r
      ·have h7:=m7 j hlt (by omega) hjr
       rw [if_neg (show ¬(s.atom < (j:Int)) by omega),if_pos he] at h7
       have p4:(f0.y+eQ b.atoms s > top+body)=False:=eq_false (by omega)
       apply sR;simp only [go_sem,seval,t4,t6,t7,t8,t11,t12,t13,t14,a6,a7,t15,p4,r4,r5,hpc,hsc]
       exact ⟨_,by omega,j+1,by omega,by omega,rfl,rfl⟩
      ·have hje:j=r:=by omega
       subst hje
       have h8:=m8 hlt
       rw [if_neg (show ¬(s.atom < (j:Int)) by omega),if_pos he] at h8
       have p4:(f0.y+eQ b.atoms s > top+body)=True:=eq_true (by omega)
       apply sR;simp only [go_sem,seval,t4,t6,t7,t8,t11,t12,t13,t14,a6,a7,t15,p4,r4,r5,hpc,hsc]
       all_goals simp only [t4,t7,t8,t12,t15,and_self]
     ·have p2:((j:Int) > s.atom)=True:=eq_true (by omega)
      have p3:((j:Int)=s.atom)=False:=eq_false he
      have r6:inR .i64 (b.atoms[j].y - (atG b.atoms s.atom).y):=ak (by omega) (by omega)
      have r7:inR .i64 (b.atoms[j].y - (atG b.atoms s.atom).y - s.done):=ak (by omega) (by omega)
      have r8:inR .i64 (f0.y+(b.atoms[j].y - (atG b.atoms s.atom).y - s.done)):=ak (by omega) (by omega)
      have r9:inR .i64 (f0.y+(b.atoms[j].y - (atG b.atoms s.atom).y - s.done)+b.atoms[j].h):=ak (by omega) (by omega)
      apply sR;simp only [go_sem,seval,t4,t6,t7,t11,t13,t14,t15,hla,a6,a7,p1,p2,p3,ha1,ha2,r6,r7,r8,r9,gK,hpc,hsc]
      refine ad.av rfl rfl rfl (vg p hn hh _) ?_
      rw [gC]
      by_cases hjr:j < r
      ·have h7:=m7 j hlt (by omega) hjr
       rw [if_pos (show s.atom < (j:Int) by omega),if_neg he] at h7
       have p4:(f0.y+(b.atoms[j].y - (atG b.atoms s.atom).y - s.done)+b.atoms[j].h > top+body)=False:=eq_false (by omega)
       apply sR;simp only [go_sem,seval,t4,t6,t7,t8,t11,t12,t13,t14,a6,a7,t15,p4,r4,r5,hpc,hsc]
       exact ⟨_,by omega,j+1,by omega,by omega,rfl,rfl⟩
      ·have hje:j=r:=by omega
       subst hje
       have h8:=m8 hlt
       rw [if_pos (show s.atom < (j:Int) by omega),if_neg he] at h8
       have p4:(f0.y+(b.atoms[j].y - (atG b.atoms s.atom).y - s.done)+b.atoms[j].h > top+body)=True:=eq_true (by omega)
       apply sR;simp only [go_sem,seval,t4,t6,t7,t8,t11,t12,t13,t14,a6,a7,t15,p4,r4,r5,hpc,hsc]
       all_goals simp only [t4,t7,t8,t12,t15,and_self]
    ·have p1:((j:Int) < b.atoms.length)=False:=eq_false (by omega)
     have hje:j=r:=by omega
     subst hje
     apply sR;simp only [go_sem,seval,t4,t6,t7,t8,t12,t11,t15,hla,p1]
     all_goals simp only [t4,t7,t8,t12,t15,and_self]
   ·rintro ⟨S,τ⟩ ⟨hσ,t4,t7,t8,t12,t15⟩
    simp only at hσ t4 t7 t8 t12 t15
    subst hσ
    refine ad.mix 19 ?_
    apply sR;simp only [go_sem,seval,t7,t8,a7,a8,t12,t15,r3,hpc,hsc]
    refine ad.loop (fun m st=>∃k:Nat,s.atom < k∧k≤r+1∧m=r+1 - k∧st.σ=τ∧st.s 8=.ptr i8 0 0∧st.s 12=bG b.brks∧st.s 15=vI r∧st.s 18=vI k) (r - s.atom.toNat) ?_ ?_
    ·exact ⟨s.atom.toNat+1,by omega,by omega,by omega,rfl,t8,t12,t15,(congrArg vI (by omega):vI (s.atom+1)=vI ((s.atom.toNat+1:Nat):Int))⟩
    ·rintro m ⟨S,τ'⟩ ⟨k,hk0,hk,rfl,hσ,t8,t12,t15,t18⟩
     simp only at hσ t8 t12 t15 t18
     subst hσ
     refine ad.mix 19 ?_
     by_cases hle:k≤r
     ·have p1:((k:Int)≤r)=True:=eq_true (by omega)
      have r5:inR .i64 ((k:Int)+1):=ak (by omega) (by omega)
      have bk:=hbk k (by omega)
      obtain ⟨n1,n2⟩:=m9 k hk0 hle
      by_cases hF0:F=0
      ·have p2:(F≠0)=False:=eq_false (fun h=>h hF0)
       rcases Nat.lt_trichotomy k c with hkc | hkc | hkc
       ·obtain ⟨n3,n4,n5⟩:=n2 hF0 (by omega)
        have p3:((k:Int) < c)=True:=eq_true (by omega)
        have p4:((bkG b.brks k).forced≠0)=False:=eq_false (fun h=>h n3)
        have p5:((k:Int)=c)=False:=eq_false (by omega)
        have p6:((bkG b.brks k).rank < (bkG b.brks c).rank)=False:=eq_false (by omega)
        have p7:((k:Int) > c)=False:=eq_false (by omega)
        apply sR;simp only [go_sem,seval,t8,t12,t15,t18,p1,p2,p3,p4,p5,p6,p7,a8,bk,bc,hbc,hF,r5,hpc,hsc]
        exact ⟨_,by omega,k+1,by omega,by omega,rfl,rfl⟩
       ·have p3:((k:Int) < c)=False:=eq_false (by omega)
        have p5:((k:Int)=c)=True:=eq_true (by omega)
        apply sR;simp only [go_sem,seval,t8,t12,t15,t18,p1,p2,p3,p5,a8,bk,bc,hbc,hF,r5,hpc,hsc]
        exact ⟨_,by omega,k+1,by omega,by omega,rfl,rfl⟩
       ·obtain ⟨n3,n4,n5⟩:=n2 hF0 (by omega)
        have p3:((k:Int) < c)=False:=eq_false (by omega)
        have p4:((bkG b.brks k).forced≠0)=False:=eq_false (fun h=>h n3)
        have p5:((k:Int)=c)=False:=eq_false (by omega)
        have p6:((bkG b.brks k).rank < (bkG b.brks c).rank)=False:=eq_false (by omega)
        have p7:((k:Int) > c)=True:=eq_true (by omega)
        have p8:((bkG b.brks k).rank=(bkG b.brks c).rank)=False:=eq_false (n5 hkc)
        apply sR;simp only [go_sem,seval,t8,t12,t15,t18,p1,p2,p3,p4,p5,p6,p7,p8,a8,bk,bc,hbc,hF,r5,hpc,hsc]
        exact ⟨_,by omega,k+1,by omega,by omega,rfl,rfl⟩
      ·have p2:(F≠0)=True:=eq_true hF0
       by_cases hkc:k < c
       ·have p3:((k:Int) < c)=True:=eq_true (by omega)
        have p4:((bkG b.brks k).forced≠0)=False:=eq_false (fun h=>h (n1 hkc))
        apply sR;simp only [go_sem,seval,t8,t12,t15,t18,p1,p2,p3,p4,a8,bk,bc,hbc,hF,r5,hpc,hsc]
        exact ⟨_,by omega,k+1,by omega,by omega,rfl,rfl⟩
       ·have p3:((k:Int) < c)=False:=eq_false (by omega)
        apply sR;simp only [go_sem,seval,t8,t12,t15,t18,p1,p2,p3,a8,bk,bc,hbc,hF,r5,hpc,hsc]
        exact ⟨_,by omega,k+1,by omega,by omega,rfl,rfl⟩
     ·have p1:((k:Int)≤r)=False:=eq_false (by omega)
      have p2:((c:Int)≤r)=True:=eq_true (by omega)
      apply sR;simp only [go_sem,seval,t8,t12,t15,t18,p1,p2,a8,hpc,hsc]
      exact ar.pure hs rfl
open Go.Proofs Go.Proofs.Tryz
theorem mn {b:Bk} {s:Stt} {to kept shift body:Int}:(dM b.atoms b.fls s to kept shift body).1.length≤b.fls.length:=by
 unfold dM
 split
 ·have h1:=lp (qG b.atoms s kept) shift body (fa b.fls s to)
  have h2:(fa b.fls s to).length≤b.fls.length:=lE _ _ _
  omega
 ·simp
theorem nm {b:Bk} (hb:BkOk b) {s:Sta} (h:iM b s):s.pend.length≤1000000:=by
 have h1:=(qH _ 0 h.1).length_le
 rw [List.drop_zero] at h1
 have:=hb.flen
 omega
theorem B5 {b:Bk} (hb:fD b) {s:Sta} (he:¬eD b s):(cg b s).1.hs.length≤1000000∧(cg b s).1.fs.length≤1000000∧(cg b s).1.ls.length≤2000000:=by
 have hmay:iM b s:=Decidable.byContradiction fun h=>he (.inl h)
 have hat:0≤s.s.atom:=by rcases hmay.2 with h | h; exact h.1.1; omega
 have hg:=jq hb he
 have hpl:=nm hb.toBkOk hmay
 have hfl:=hb.flen
 have hal:=hb.len
 have hro:=na hb.toBkFull s.s
 have hr1:=jD hb.toBkFull s.s hat
 have hpf:∀f∈s.pend,0≤f.h:=fun f hf=>hb.fh f (lA _ _ hmay.1 f hf)
 have htl:=(pV (body:=(bB b s.s).body) s.pend 0 (Int.le_refl _) (by omega) hpf).1
 refine ⟨?_,?_,?_⟩
 ·have h1:((hdK b.nodes b.w (bB b s.s).heads).1).length≤1000000:=by rw [zG]; exact hro.len
  unfold cg
  split
  ·exact h1
  ·split
   ·exact h1
   ·show (dX b (dt b s)).hs.length≤_
    rw [(kg b (dt b s)).1]
    exact h1
 ·rcases hg.kd with k | k
  ·obtain ⟨hm,h1, -,hc⟩:=hg.cut k
   have ha:=hm.1
   cases hc with
   | more q1 q2 q3 q4 q5=>omega
   | whole c r y q1 q2 q3 q4 q5 q6 q7 q8 q9=>omega
  ·rw [hg.no' k]; simp
 ·have h0:(dt b s).ls.length≤1000000:=by
   show ([]++(dV (bB b s.s).body s.pend 0).1.map (nt (bB b s.s).high)).length≤_
   rw [List.nil_append,List.length_map]; omega
  unfold cg
  split
  ·show ([]++(b.fls.takeWhile (qk _)).map (nt _)).length≤_
   rw [List.nil_append,List.length_map]
   have:=(List.takeWhile_sublist (l:=b.fls) (qk (bW b s.s .aM).body)).length_le
   omega
  ·split
   ·exact Nat.le_trans h0 (by omega)
   ·show (dX b (dt b s)).ls.length≤_
    unfold dX
    split
    ·show ((dt b s).ls++((dM b.atoms b.fls _ _ _ _ _).1).map _).length≤_
     rw [List.length_append,List.length_map]
     have:=mn (b:=b) (s:=({ dt b s with kind:=1 }:Wx).s) (to:=((uR b (dt b s)).toNat:Int)) (kept:=du b (dt b s)) (shift:=({ dt b s with kind:=1 }:Wx).shift) (body:=({ dt b s with kind:=1 }:Wx).body)
     exact Nat.le_trans (Nat.add_le_add h0 (Nat.le_trans mn hfl)) (by omega)
    ·show ((dt b s).ls++((dM b.atoms b.fls _ _ _ _ _).1).map _).length≤_
     rw [List.length_append,List.length_map]
     exact Nat.le_trans (Nat.add_le_add h0 (Nat.le_trans mn hfl)) (by omega)
theorem IB (b:Bk) (hb:fD b) (s:Sta) (he:¬eD b s):aT prog 12 [aI b.nodes, .rp (bw b),bf s,vI b.atoms.length,vI b.h] (.bool true):=fun σ=>by
 refine e12.r (by simp [c12]) ?_
 have hs:=aa.refl σ
 have hmay:iM b s:=Decidable.byContradiction fun h=>he (.inl h)
 have hat:0≤s.s.atom:=by rcases hmay.2 with h | h; exact h.1.1; omega
 have hpl:=nm hb.toBkOk hmay
 have hg:=jq hb he
 obtain ⟨l1,l2,l3⟩:=B5 hb he
 have hpg:=uN b hb.toBkFull hb.fh s hpl
 rw [if_neg he] at hpg
 have hro:=na hb.toBkFull s.s
 have hrl:=rF hb.toBkFull s.s hat
 have hsc:∀x:Sta,(bf x).cells=[vI x.s.atom,vI x.s.done, .bool x.s.free,aF x.pend]:=fun _=>rfl
 have hss:∀x:Sta,(bf x).stays=true:=fun _=>rfl
 have hpc:∀p:Pag,(fF p).cells=[vI p.no,vI p.kind,bN p.hs,bN p.fs,bN p.ls]:=fun _=>rfl
 have hpp:∀p:Pag,(fF p).stays=true:=fun _=>rfl
 have hgc:(mA b).cells=[bt b.atoms,aF b.fls,vI b.height]:=rfl
 have hfc:∀l:List Frg,(bN l).cells=[bN l]:=fun _=>rfl
 have hfs:∀l:List Frg,(bN l).stays=true:=fun _=>rfl
 have hla:=gv b.atoms
 have hh0:=hb.h1
 have hh2:=hb.h2
 generalize cg b s=X at *
 obtain ⟨p,t⟩:=X
 simp only at hg l1 l2 l3 hpg
 have hlf:=ng p.fs
 have hh:∀f∈p.hs,0≤f.h∧f.h≤1099511627776:=fun f hf=>by have:=hg.hd f hf; have:=hro.high; omega
 have q0:((0:Int)≠0)=False:=eq_false (fun h=>h rfl)
 have hbb:∀x:Bool,(x == x)=true:=fun x=>by cases x <;> rfl
 have q1:(p.no≠0)=False:=eq_false (fun h=>h hg.no)
 refine ad.mix 18 ?_
 apply sR;simp only [go_sem,seval,c12,hsc,hss]
 refine ae fun i7 σ7 s7 a7 f7=>?_
 have z7:=hs.none f7
 replace hs:=hs.trans s7
 simp only [go_sem,seval,a7,hsc]
 refine ad.av rfl rfl rfl (hpg _) ?_
 apply sR;simp only [go_sem,seval]
 refine ae fun i11 σ11 s11 a11 f11=>?_
 have n711:=ao a7 f11
 replace a7:=s11 _ _ a7
 have z11:=hs.none f11
 replace hs:=hs.trans s11
 simp only [go_sem,seval]
 refine ae fun i12 σ12 s12 a12 f12=>?_
 have n1112:=ao a11 f12
 replace a11:=s12 _ _ a11
 have n712:=ao a7 f12
 replace a7:=s12 _ _ a7
 have z12:=hs.none f12
 replace hs:=hs.trans s12
 simp only [go_sem,seval,a11,a12,hpc,hpp,hsc,hss,hfc,hfs,aL,aN,ab n1112.symm,ab n711,ab n1112,ab n712]
 generalize hq11:upd _ i11 _=τ11
 replace a11:=(congrFun hq11 i11).symm.trans ag
 replace a12:=((congrFun hq11 i12).symm.trans (ab n1112.symm)).trans a12
 replace a7:=((congrFun hq11 i7).symm.trans (ab n711)).trans a7
 replace hs:=Eq.subst (motive:=aa _) hq11 (hs.aC z11)
 clear hq11
 generalize hq12:upd _ i12 _=τ12
 replace a12:=(congrFun hq12 i12).symm.trans ag
 replace a11:=((congrFun hq12 i11).symm.trans (ab n1112)).trans a11
 replace a7:=((congrFun hq12 i7).symm.trans (ab n712)).trans a7
 replace hs:=Eq.subst (motive:=aa _) hq12 (hs.aC z12)
 clear hq12
 refine ad.av rfl rfl rfl (vg p l1 hh _) ?_
 rw [hg.sum]
 apply sR;simp only [go_sem,seval,q0,a7,a11,a12,hsc,hss,hpc]
 refine ad.av rfl rfl rfl (Cg s t _ hg.onw _) ?_
 apply sR;simp only [go_sem,seval,q0,a7,a11,a12,hsc,hss,hpc]
 refine ad.av rfl rfl rfl (qV p.hs 0 (bB b s.s).high (by omega) (by omega) (by have:=hro.high; omega) hg.hd _) ?_
 apply sR;simp only [go_sem,seval,q0,a7,a11,a12,hsc,hss,hpc]
 refine ad.av rfl rfl rfl (qV p.fs (bB b s.s).high b.h (by omega) (by have:=hro.high; omega) (by omega) hg.fl _) ?_
 apply sR;simp only [go_sem,seval,q0,a7,a11,a12,hsc,hss,hpc]
 refine ad.av rfl rfl rfl (qV p.ls (bB b s.s).high b.h (by omega) (by have:=hro.high; omega) (by omega) hg.lo _) ?_
 rcases hg.kd with k | k
 ·obtain ⟨hm,c1,c2,c3⟩:=hg.cut k
  have k1:(p.kind=1)=True:=eq_true k
  have k2:(p.kind≠1)=False:=eq_false (fun h=>h k)
  have k3:((p.fs.length:Int) > 0)=True:=eq_true (by omega)
  have k4:(s.s.atom < 0)=False:=eq_false (by omega)
  have k5:(s.s.atom≥b.atoms.length)=False:=eq_false (by have:=hm.1; omega)
  obtain ⟨ka,hka⟩:∃k:Nat,s.s.atom=k:=⟨s.s.atom.toNat,by omega⟩
  have hka2:ka < b.atoms.length:=by have:=hm.1; omega
  have hxe:atG b.atoms s.s.atom=b.atoms[ka]:=by rw [hka,br hka2]
  have hi:∀σ,bF σ 8 (bt b.atoms) (.int .i64 s.s.atom)=some (.rp (cB (atG b.atoms s.s.atom))):=fun σ=>by rw [hxe,hka]; exact fI hka2
  have hrv:pO b.nodes (atG b.atoms s.s.atom).node b.h=bB b s.s:=by
   rw [bB,if_neg (fun h=>by rw [h] at hka2; simp at hka2)]
   congr 2
   congr 1
   omega
  apply sR;simp only [go_sem,seval,q0,q1,hbb,a7,a11,a12,hsc,hss,hpc,hlf,List.length_map,k1,k2,k3]
  refine ad.av rfl rfl rfl (ou b hb.toBkFull _) ?_
  apply sR;simp only [go_sem,seval,mA,hla,a7,k4,k5,hi,gK,hsc]
  refine ad.av rfl rfl rfl (F3 b.nodes hb.pL _ b.h _) ?_
  rw [hrv]
  have k6:((bB b s.s).high=(bB b s.s).high)=True:=eq_true rfl
  apply sR;simp only [go_sem,seval]
  refine ae fun i16 σ16 s16 a16 f16=>?_
  have n1116:=ao a11 f16
  replace a11:=s16 _ _ a11
  have n1216:=ao a12 f16
  replace a12:=s16 _ _ a12
  have n716:=ao a7 f16
  replace a7:=s16 _ _ a7
  have z16:=hs.none f16
  replace hs:=hs.trans s16
  simp only [go_sem,seval,a16,pr,aj,al,a7,a11,a12,k6,hsc,hpc,ab n1116,ab n1216,ab n716]
  generalize hq16:upd _ i16 _=τ16
  replace a16:=(congrFun hq16 i16).symm.trans ag
  replace a11:=((congrFun hq16 i11).symm.trans (ab n1116)).trans a11
  replace a12:=((congrFun hq16 i12).symm.trans (ab n1216)).trans a12
  replace a7:=((congrFun hq16 i7).symm.trans (ab n716)).trans a7
  replace hs:=Eq.subst (motive:=aa _) hq16 (hs.aC z16)
  clear hq16
  refine ad.av rfl rfl rfl (Gp b hb.toBkFull p s.s t.s (bB b s.s).high (bB b s.s).body hm l1 hh hg.sum hro.high (by have:=hro.body; omega) c1 l2 (by rw [hrl.2.2.1]; exact hg.fl) c2 c3 _) ?_
  apply sR;simp only [go_sem,seval]
  exact ar.pure hs rfl
 ·have k1:(p.kind=1)=False:=eq_false (by omega)
  have k2:(p.kind≠1)=True:=eq_true (by omega)
  have k3:((p.fs.length:Int) > 0)=False:=eq_false (by rw [hg.no' k]; simp)
  have k4:(p.kind≠2)=False:=eq_false (fun h=>h k)
  apply sR;simp only [go_sem,seval,q0,q1,hbb,a7,a11,a12,hsc,hss,hpc,hlf,List.length_map,k1,k2,k3,k4]
  exact ar.pure hs rfl
open Go.Proofs Go.Proofs.Tryz
theorem EJ (l:List Nd) (hlen:l.length≤1000000000000) (hw:∀x∈l,x.words.length≤200000000000000) (σ:af) :
 ax prog 6 [aI l] σ fun r σ'=>(∃x,r=.bool x∧(x=false→l.length≤30))∧σ'=σ:=by
 refine e6.r (by simp [c6]) ?_
 have hln:=eg l
 refine ad.mix 5 ?_
 by_cases h30:l.length≤30
 ·have q0:((l.length:Int) > 30)=False:=eq_false (by omega)
  apply sR;simp only [go_sem,seval,c6,hln,q0]
  refine ad.loop (fun m st=>∃(i:Nat) (c:Int),i≤l.length∧m=l.length - i∧st.σ=σ∧st.s 0=aI l∧st.s 3=vI c∧0≤c∧c≤i*200000000000000∧st.s 4=vI i) l.length ?_ ?_
  ·exact ⟨0,0,by omega,by omega,rfl,rfl,rfl,by omega,by omega,rfl⟩
  ·rintro m ⟨S,τ⟩ ⟨i,c,hi,rfl,hσ,t0,t3,hc0,hc1,t4⟩
   simp only at hσ t0 t3 t4
   subst hσ
   refine ad.mix 5 ?_
   by_cases hlt:i < l.length
   ·have q1:((i:Int) < l.length)=True:=eq_true (by omega)
    have hnd:=fun σ=>da (σ:=σ) (l:=l) (a:=i) hlt
    have hwi:=hw _ (List.getElem_mem hlt)
    have hlw:=dy l[i].words
    have r1:inR .i64 ((i:Int)+1):=ak (by omega) (by omega)
    have r2:inR .i64 (c+l[i].words.length):=ak (by omega) (by omega)
    apply sR;simp only [go_sem,seval,t0,t3,t4,hln,q1,hnd,Nd.cells,hlw,r1,r2,sQ]
    exact ⟨_,by omega,i+1,_,by omega,rfl,rfl,by omega,by omega,rfl⟩
   ·have q1:((i:Int) < l.length)=False:=eq_false (by omega)
    by_cases hv:c > 120
    ·have q2:(c > 120)=True:=eq_true hv
     apply sR;simp only [go_sem,seval,t0,t3,t4,hln,q1,q2]
     exact ⟨_,_,aa.refl _,Wk.refl (aa.refl _) _,⟨_,rfl,fun _=>h30⟩,rfl⟩
    ·have q2:(c > 120)=False:=eq_false hv
     apply sR;simp only [go_sem,seval,t0,t3,t4,hln,q1,q2]
     exact ⟨_,_,aa.refl _,Wk.refl (aa.refl _) _,⟨_,rfl,fun _=>h30⟩,rfl⟩
 ·have q0:((l.length:Int) > 30)=True:=eq_true (by omega)
  apply sR;simp only [go_sem,seval,c6,hln,q0]
  exact ⟨_,_,aa.refl _,Wk.refl (aa.refl _) _,⟨_,rfl,fun h=>by cases h⟩,rfl⟩
theorem yC (aw:aT prog 7 [] (.bool true)) (l:List Nd) (hlen:l.length≤1000000000000) (hw:∀x∈l,x.words.length≤200000000000000) (w h:Int) (s:Sta) :
 aT prog 3 [aI l,vI w,vI h,bf s] (.bool true):=fun σ=>by
 refine e3.r (by simp [c3]) ?_
 have hs:=aa.refl σ
 have hsc:∀x:Sta,(bf x).cells=[vI x.s.atom,vI x.s.done, .bool x.s.free,aF x.pend]:=fun _=>rfl
 have hss:∀x:Sta,(bf x).stays=true:=fun _=>rfl
 have hlp:=ey s.pend
 refine ad.mix 14 ?_
 apply sR;simp only [go_sem,seval,c3,hsc,hss]
 refine ae fun i7 σ7 s7 a7 f7=>?_
 have z7:=hs.none f7
 replace hs:=hs.trans s7
 simp only [go_sem,seval,a7,hsc]
 refine ad.call rfl rfl rfl (EJ l hlen hw _) ?_
 rintro r σ' ⟨⟨x,rfl,hx⟩,rfl⟩
 cases x with
 | true =>
   apply sR;simp only [go_sem,seval]
   refine ad.av rfl rfl rfl (aw _) ?_
   apply sR;simp only [go_sem,seval]
   exact ar.pure hs rfl
 | false =>
   have h30:=hx rfl
   have hl:eA l:=⟨by omega,hw⟩
   by_cases hp:s.pend.length > 40
   ·have q0:((s.pend.length:Int) > 40)=True:=eq_true (by omega)
    apply sR;simp only [go_sem,seval,a7,hlp,q0,hsc]
    refine ad.av rfl rfl rfl (aw _) ?_
    apply sR;simp only [go_sem,seval]
    exact ar.pure hs rfl
   ·have q0:((s.pend.length:Int) > 40)=False:=eq_false (by omega)
    apply sR;simp only [go_sem,seval,a7,hlp,q0,hsc]
    refine ad.av rfl rfl rfl (FG l hl w h _) ?_
    by_cases he:jl l w h=0
    ·have hb:=lk hl he
     rw [xJ,if_pos he,he]
     have hgood:∀s,¬eD (fc l w h) s→aT prog 12 [aI l, .rp (bw (fc l w h)),bf s,vI (fc l w h).atoms.length,vI h] (.bool true):=fun s he=>IB _ hb s he
     generalize fc l w h=b at *
     have hgc:(mA b).cells=[bt b.atoms,aF b.fls,vI b.height]:=rfl
     have hla:=gv b.atoms
     have q1:((0:Int)≠0)=False:=eq_false (fun h=>h rfl)
     apply sR;simp only [go_sem,seval,q1]
     refine ad.av rfl rfl rfl (ou b hb.toBkFull _) ?_
     apply sR;simp only [go_sem,seval,mA,hla]
     refine ad.av rfl rfl rfl (lz b hb.toBkFull _) ?_
     apply sR;simp only [go_sem,seval]
     refine ae fun i12 σ12 s12 a12 f12=>?_
     have n712:=ao a7 f12
     replace a7:=s12 _ _ a7
     have z12:=hs.none f12
     replace hs:=hs.trans s12
     simp only [go_sem,seval,a12,hsc,hss,aL,aN]
     generalize hq12:upd _ i12 _=τ12
     replace a12:=(congrFun hq12 i12).symm.trans ag
     replace a7:=((congrFun hq12 i7).symm.trans (ab n712)).trans a7
     replace hs:=Eq.subst (motive:=aa _) hq12 (hs.aC z12)
     clear hq12
     apply sR;simp only [go_sem,seval]
     refine ad.fE (fun st=>aa σ st.σ∧st.σ i7=some ⟨27,4,[bf s]⟩∧st.s 0=aI l∧st.s 2=vI h∧st.s 7=.ptr i7 0 0∧st.s 9=.rp (bw b)∧st.s 11=vI b.atoms.length)
      (fun m st=>∃(j:Nat) (x:Sta),j≤300∧m=300 - j∧aa σ st.σ∧st.σ i7=some ⟨27,4,[bf s]⟩∧x.pend.length≤1000000∧st.σ i12=some ⟨27,4,[bf x]⟩∧st.s 0=aI l∧st.s 2=vI h∧st.s 7=.ptr i7 0 0∧st.s 9=.rp (bw b)∧st.s 11=vI b.atoms.length∧st.s 12=.ptr i12 0 0∧st.s 13=vI j) 300 ?_ ?_ ?_
     ·exact ⟨0,⟨⟨0,0,true⟩,[]⟩,by omega,rfl,hs,a7,by simp,a12,rfl,rfl,rfl,rfl,rfl,rfl,rfl⟩
     ·clear hs a7 a12
      rintro m ⟨S,τ⟩ ⟨j,x,hj,rfl,hs,a7,hpx,a12,t0,t2,t7,t9,t11,t12,t13⟩
      simp only at hs a7 hpx a12 t0 t2 t7 t9 t11 t12 t13
      rw [bf] at a12
      refine ad.mix 14 ?_
      by_cases hj3:j < 300
      ·have q2:((j:Int) < 300)=True:=eq_true (by omega)
       have r1:inR .i64 ((j:Int)+1):=ak (by omega) (by omega)
       apply sR;simp only [go_sem,seval,t9,t12,t13,a12,q2]
       refine ad.av rfl rfl rfl (nb b hb.toBkFull x hpx _) ?_
       by_cases hen:eD b x
       ·rw [decide_eq_true hen]
        apply sR;simp only [go_sem,seval]
        exact ⟨hs,a7,t0,t2,t7,t9,t11⟩
       ·rw [decide_eq_false hen]
        have hpg:=uN b hb.toBkFull hb.fh x hpx
        rw [if_neg hen] at hpg
        have hpn:=nm hb.toBkOk (Dp hb hen)
        apply sR;simp only [go_sem,seval,t0,t2,t9,t11,t12,a12]
        refine ad.av rfl rfl rfl (hgood x hen _) ?_
        apply sR;simp only [go_sem,seval,t9,t12,a12]
        refine ad.av rfl rfl rfl (hpg _) ?_
        generalize cg b x=X at *
        obtain ⟨p,t⟩:=X
        apply sR;simp only [go_sem,seval,t12,t13,a12,r1,hsc,hss,aL,aN]
        exact ⟨_,by omega,j+1,t,by omega,rfl,hs.aC z12,(ab n712).trans a7,hpn,rfl,t0,t2,t7,t9,t11,rfl⟩
      ·have q2:((j:Int) < 300)=False:=eq_false (by omega)
       apply sR;simp only [go_sem,seval,t0,t2,t7,t9,t11,t12,t13,a12,a7,q2]
       exact hs
     ·clear hs a7 a12
      rintro ⟨S,τ⟩ ⟨hs,a7,t0,t2,t7,t9,t11⟩
      simp only at hs a7 t0 t2 t7 t9 t11
      refine ad.mix 14 ?_
      apply sR;simp only [go_sem,seval,t0,t2,t7,a7,t9,t11,hsc]
      refine ad.av rfl rfl rfl (nb b hb.toBkFull s (by omega) _) ?_
      by_cases hen:eD b s
      ·rw [decide_eq_true hen]
       apply sR;simp only [go_sem,seval]
       refine ad.av rfl rfl rfl (aw _) ?_
       apply sR;simp only [go_sem,seval]
       exact ar.pure hs rfl
      ·rw [decide_eq_false hen]
       apply sR;simp only [go_sem,seval,t0,t2,t7,a7,t9,t11,hsc]
       refine ad.av rfl rfl rfl (hgood s hen _) ?_
       apply sR;simp only [go_sem,seval]
       refine ad.av rfl rfl rfl (aw _) ?_
       apply sR;simp only [go_sem,seval]
       exact ar.pure hs rfl
    ·rw [xJ,if_neg he]
     have q1:(jl l w h≠0)=True:=eq_true he
     generalize jl l w h=E at *
     apply sR;simp only [go_sem,seval,q1,tV]
     refine ad.av rfl rfl rfl (aw _) ?_
     apply sR;simp only [go_sem,seval]
     exact ar.pure hs rfl
inductive Tr (α:Type) where
 | e
 | n (l:Tr α) (v:α) (r:Tr α)
def xz:Nat→Nat→List Bool
 | 0,_=>[]
 | _+1,0=>[]
 | f+1,k+1=>Nat.beq (Nat.mod k 2) 0::xz f (Nat.div k 2)
def pathOf (k:Nat):List Bool:=xz (Nat.succ k) k
def Jq {α:Type} (d:α) (f:Nat):List Bool→Tr α→α :=
 @Nat.rec (fun _=>List Bool→Tr α→α) (fun _ _=>d)
  (fun _ ih p t=>@List.casesOn Bool (fun _=>α) p (@Tr.casesOn α (fun _=>α) t d (fun _ v _=>v))
    (fun b p'=>@Tr.casesOn α (fun _=>α) t d (fun l _ r=>ih p' (@Bool.casesOn (fun _=>Tr α) b r l)))) f
def j8 {α:Type} (d:α) (k:Nat) (t:Tr α):α:=Jq d (Nat.succ k) (pathOf k) t
def JZ {α:Type} (d v:α) (f:Nat):List Bool→Tr α→Tr α :=
 @Nat.rec (fun _=>List Bool→Tr α→Tr α) (fun _ t=>t)
  (fun _ ih p t=>@List.casesOn Bool (fun _=>Tr α) p (@Tr.casesOn α (fun _=>Tr α) t (.n .e v .e) (fun l _ r=>.n l v r))
    (fun b p'=>@Tr.casesOn α (fun _=>Tr α) t (@Bool.casesOn (fun _=>Tr α) b (.n .e d (ih p' .e)) (.n (ih p' .e) d .e))
      (fun l u r=>@Bool.casesOn (fun _=>Tr α) b (.n l u (ih p' r)) (.n (ih p' l) u r)))) f
def kW {α:Type} (d v:α) (k:Nat) (t:Tr α):Tr α:=JZ d v (Nat.succ k) (pathOf k) t
structure CS where
 s:Tr V
 σ:Tr (Option Ob)
 nxt:Nat
def CS.sf (cs:CS):Nat→V:=fun i=>j8 (.tup []) i cs.s
def stF (σ:Tr (Option Ob)):af:=fun i=>j8 none i σ
def K7 (cs:CS) (d:Nat) (v:V):CS:=⟨kW (.tup []) v d cs.s,cs.σ,cs.nxt⟩
def CS.put (cs:CS) (d:Option Nat) (v:V):CS:=@Option.casesOn Nat (fun _=>CS) d cs (fun d=>K7 cs d v)
def eqQ:Int→Int→Bool
 | .ofNat m, .ofNat n=>Nat.beq m n
 | .negSucc m, .negSucc n=>Nat.beq m n
 | _,_=>false
def leQ:Int→Int→Bool
 | .ofNat m, .ofNat n=>Nat.ble m n
 | .negSucc _, .ofNat _=>true
 | .negSucc m, .negSucc n=>Nat.ble n m
 | .ofNat _, .negSucc _=>false
def I5:Int→Int→Int
 | .ofNat m, .ofNat n=>.ofNat (Nat.add m n)
 | a,b=>a+b
def Gd:Int→Int→Int
 | .ofNat m, .ofNat n=>@Bool.casesOn (fun _=>Int) (Nat.ble n m) (.negSucc (Nat.sub (Nat.sub n m) 1)) (.ofNat (Nat.sub m n))
 | a,b=>a - b
def IE:Int→Bool
 | .ofNat m=>Nat.ble m 9223372036854775807
 | .negSucc m=>Nat.ble m 9223372036854775807
def IJ (k:IntKind) (n:Int):Bool:=match k with
 | .i64=>IE n
 | k=>decide (k.wrap n=n)
def gI (k:IntKind) (n:Int):Option V:=@Bool.casesOn (fun _=>Option V) (IJ k n) none (some (.int k n))
def eqK (k k':IntKind):Bool:=decide (k=k')
def GO:IntKind→Bool
 | .i64=>true
 | _=>false
structure FI where
 f:IntKind→Int→Int→Option V
def ni (op:BinOp):FI :=
 match op with
 | .add=>⟨fun k a b=>gI k (I5 a b)⟩
 | .sub=>⟨fun k a b=>gI k (Gd a b)⟩
 | .mul=>⟨fun k a b=>gI k (a*b)⟩
 | .quo=>⟨fun k a b=>if b=0 then none else gI k (a.tdiv b)⟩
 | .rem=>⟨fun k a b=>if b=0 then none else some (.int k (a.tmod b))⟩
 | .eql=>⟨fun _ a b=>some (.bool (eqQ a b))⟩
 | .neq=>⟨fun _ a b=>some (.bool (not (eqQ a b)))⟩
 | .lss=>⟨fun _ a b=>some (.bool (not (leQ b a)))⟩
 | .leq=>⟨fun _ a b=>some (.bool (leQ a b))⟩
 | .gtr=>⟨fun _ a b=>some (.bool (not (leQ a b)))⟩
 | .geq=>⟨fun _ a b=>some (.bool (leQ b a))⟩
 | .and=>⟨fun k a b=>cL .and k a b⟩
 | .or=>⟨fun k a b=>cL .or k a b⟩
 | .shl=>⟨fun k a b=>cL .shl k a b⟩
 | .shr=>⟨fun k a b=>cL .shr k a b⟩
 | _=>⟨fun _ _ _=>none⟩
def uf (op:BinOp) (a b:List UInt8):Option V :=
 match op with
 | .add=>@Bool.casesOn (fun _=>Option V) (Nat.ble (a.length+b.length) 9223372036854775807) none (some (.str (a++b)))
 | .eql=>some (.bool (decide (a=b)))
 | .neq=>some (.bool (decide (a≠b)))
 | _=>none
def C3 (k k':IntKind):Bool:=@Bool.casesOn (fun _=>Bool) (GO k) (eqK k k') (GO k')
def I8 (k:IntKind) (a:Int) (g:IntKind→Int→Int→Option V):V→Option V
 | .int k' b=>@Bool.casesOn (fun _=>Option V) (C3 k k') none (g k a b)
 | _=>none
def I7 (op:BinOp) (a:List UInt8):V→Option V
 | .str b=>uf op a b
 | _=>none
def El (op:BinOp) (g:IntKind→Int→Int→Option V) (y:V):V→Option V
 | .int k a=>I8 k a g y
 | .str a=>I7 op a y
 | _=>none
def JV:V→Option V
 | .int k a=>gI k (0 - a)
 | _=>none
def F0 (k:IntKind):V→Option V
 | .int _ a=>gI k a
 | _=>none
def JN:V→Option V
 | .bool b=>some (.bool (!b))
 | _=>none
def FW (a b:V):V→Option V
 | .bool t=>some (@Bool.casesOn (fun _=>V) t b a)
 | _=>none
def wW:Int→Option Nat
 | .ofNat m=>some m
 | _=>none
def Ix (σ:Tr (Option Ob)) (esz:Nat) (x i:V):Option V :=
 match x,i with
 | .own id off len, .int _ j=>match wW j with
   | some m=>match j8 none id σ with
     | some ob=>@Bool.casesOn (fun _=>Option V) (Nat.beq ob.sz esz && Nat.blt m len) none (some (.ptr id (Nat.add off m) 0))
     | none=>none
   | none=>none
 | .sl sz rows, .int _ j=>match wW j with
   | some m=>@Bool.casesOn (fun _=>Option V) (Nat.beq sz esz) none (match rows[m]? with
     | some r=>some (.rp r)
     | none=>none)
   | none=>none
 | _,_=>none
def Dl (σ:Tr (Option Ob)) (agg:Bool) (sz:Nat) (x:V):Option V :=
 match x with
 | .ptr id i k=>match j8 none id σ with
   | some ob=>match ob.rows[i]? with
     | some r=>match agg with
       | true=>@Bool.casesOn (fun _=>Option V) (Nat.beq k 0 && Nat.beq r.cells.length sz)
          (@Bool.casesOn (fun _=>Option V) (Nat.ble (Nat.add k sz) r.cells.length) none (some (.agg ((r.cells.drop k).take sz)))) (some (.agg r.cells))
       | false=>r.cells[k]?
     | none=>none
   | none=>none
 | x=>bM (stF σ) agg sz x
def Cj:V→V→Option V
 | .str s, .int _ j=>match wW j with
   | some m=>match s[m]? with
     | some b=>some (.int .u8 (Int.ofNat b.toNat))
     | none=>none
   | none=>none
 | _,_=>none
structure Mk where
 var:Bool
 len:Nat
 gone:Option Nat
 ob:Ob
def I4 (e sz:Nat) (x:V):Option Mk:=@Bool.casesOn (fun _=>Option Mk) (Nat.beq x.cells.length sz && x.stays) none (some ⟨true,0,none,⟨e,sz,[x]⟩⟩)
def Al (e sz:Nat) (xs:List V):Option Mk:=@Bool.casesOn (fun _=>Option Mk) (xs.all fun x=>Nat.beq x.cells.length sz && x.stays) none (some ⟨false,xs.length,none,⟨e,sz,xs⟩⟩)
def mkQ (e sz bytes:Nat) (z:V):V→Option Mk
 | .int k m=>match k with
   | .i64=>match wW m with
     | some j=>@Bool.casesOn (fun _=>Option Mk) (Nat.ble (j*(bytes+1)) 140737488355328) none (some ⟨false,j,none,⟨e,sz,List.replicate j z⟩⟩)
     | none=>none
   | _=>none
 | _=>none
def Am (σ:Tr (Option Ob)) (e sz bytes:Nat) (a b:V):Option Mk:=match bO (stF σ) e sz a,bH (stF σ) sz b with
 | some (base,idA),some src=>@Bool.casesOn (fun _=>Option Mk) (Nat.ble ((base.length+src.length)*(bytes+1)) 140737488355328) none (some ⟨false,base.length+src.length,idA,⟨e,sz,base++src⟩⟩)
 | _,_=>none
def vi (fl:Nat) (dst:Option Nat) (cs:CS) (m:Mk):Option CS :=
 match m.gone with
 | none=>some (CS.put ⟨cs.s,kW none (some m.ob) cs.nxt cs.σ,Nat.succ cs.nxt⟩ dst (@Bool.casesOn (fun _=>V) m.var (.own cs.nxt 0 m.len) (.ptr cs.nxt 0 0)))
 | some d=>@Bool.casesOn (fun _=>Option CS) (Nat.ble fl d) none
    (some (CS.put ⟨cs.s,kW none (some m.ob) cs.nxt (kW none none d cs.σ),Nat.succ cs.nxt⟩ dst (@Bool.casesOn (fun _=>V) m.var (.own cs.nxt 0 m.len) (.ptr cs.nxt 0 0))))
inductive Out where
 | nx (cs:CS)
 | ex (id:Nat) (cs:CS)
 | rt (cs:CS)
 | bad
structure Rs where
 v:V
 σ:Tr (Option Ob)
 nxt:Nat
def kY:=FuncId→List V→Tr (Option Ob)→Nat→Nat→Option Rs
structure BI where
 f:kY→Nat→CS→Option CS
def iG (dst:Option Nat) (g:CS→Option V):BI:=⟨fun _ _ cs=>match g cs with
 | some v=>some (cs.put dst v)
 | none=>none⟩
def JM (dst:Option Nat) (x:VX):BI:=⟨fun _ _ cs=>some (cs.put dst (x.ev cs.sf))⟩
def y7 (dst:Option Nat) (g:CS→Option Mk):BI:=⟨fun _ fl cs=>match g cs with
 | some m=>vi fl dst cs m
 | none=>none⟩
def y6 (dst:Option Nat) (cs:CS):Option Rs→Option CS
 | some r=>some (CS.put ⟨cs.s,r.σ,r.nxt⟩ dst r.v)
 | none=>none
def ua (dst:Option Nat) (cs:CS):Option Rs→Option CS
 | some r=>@Bool.casesOn (fun _=>Option CS) r.v.dQ none (some (cs.put dst r.v))
 | none=>none
def Cd (draw:Bool) (dst:Option Nat) (fx:VX) (xs:List VX):BI:=match draw with
 | true=>⟨fun call _ cs=>match fx.ev cs.sf with
   | .fn f caps=>ua dst cs (call f (xs.map (·.ev cs.sf)++caps) cs.σ cs.nxt cs.nxt)
   | _=>none⟩
 | false=>⟨fun call fl cs=>match fx.ev cs.sf with
   | .fn f caps=>y6 dst cs (call f (xs.map (·.ev cs.sf)++caps) cs.σ cs.nxt fl)
   | _=>none⟩
def Ak (dst:Option Nat) (fl sz:Nat) (xv:V) (cs:CS):V→Option CS
 | .ptr id i0 c=>@Bool.casesOn (fun _=>Option CS) (Nat.ble fl id) none (match j8 none id cs.σ with
   | some ob=>match ob.rows[i0]? with
     | some r=>match cc r c sz xv with
       | some r'=>some (CS.put ⟨cs.s,kW none (some ⟨ob.elem,ob.sz,ob.rows.set i0 r'⟩) id cs.σ,cs.nxt⟩ dst (.tup []))
       | none=>none
     | none=>none
   | none=>none)
 | _=>none
def yD (dst:Option Nat) (sz:Nat) (xa xv:VX):BI:=⟨fun _ fl cs=>Ak dst fl sz (xv.ev cs.sf) cs (xa.ev cs.sf)⟩
def zp (dst:Option Nat) (fl sz:Nat) (z:V) (cs:CS):V→Option CS
 | .own id off len=>@Bool.casesOn (fun _=>Option CS) (Nat.ble fl id) none (match j8 none id cs.σ with
   | some ob=>@Bool.casesOn (fun _=>Option CS) (Nat.beq ob.sz sz && Nat.ble (off+len) ob.rows.length) none
      (some (CS.put ⟨cs.s,kW none (some ⟨ob.elem,ob.sz,ob.rows.take off++List.replicate len z++ob.rows.drop (off+len)⟩) id cs.σ,cs.nxt⟩ dst (.tup [])))
   | none=>none)
 | _=>none
def zf (draw:Bool) (dst:Option Nat) (sz:Nat) (z:V) (xv:VX):BI:=match draw with
 | true=>⟨fun _ _ _=>none⟩
 | false=>⟨fun _ fl cs=>zp dst fl sz z cs (xv.ev cs.sf)⟩
def iU (draw:Bool) (dst:Option Nat) (op:VOp):BI:=match op with
 | .mov x=>JM dst x
 | .pick c a b=>iG dst fun cs=>FW (a.ev cs.sf) (b.ev cs.sf) (c.ev cs.sf)
 | .bin op x y=>@FI.casesOn (fun _=>BI) (ni op) fun g=>iG dst fun cs=>El op g (y.ev cs.sf) (x.ev cs.sf)
 | .not x=>iG dst fun cs=>JN (x.ev cs.sf)
 | .neg x=>iG dst fun cs=>JV (x.ev cs.sf)
 | .convI k x=>iG dst fun cs=>F0 k (x.ev cs.sf)
 | .idxA esz x i=>iG dst fun cs=>Ix cs.σ esz (x.ev cs.sf) (i.ev cs.sf)
 | .idxS x i=>iG dst fun cs=>Cj (x.ev cs.sf) (i.ev cs.sf)
 | .load agg sz x=>iG dst fun cs=>Dl cs.σ agg sz (x.ev cs.sf)
 | .box e sz x=>y7 dst fun cs=>I4 e sz (x.ev cs.sf)
 | .alloc e sz z=>y7 dst fun _=>some ⟨true,0,none,⟨e,sz,[z]⟩⟩
 | .bb e sz xs=>y7 dst fun cs=>Al e sz (xs.map (·.ev cs.sf))
 | .mk e sz bytes z x=>y7 dst fun cs=>mkQ e sz bytes z (x.ev cs.sf)
 | .append e sz bytes a b=>y7 dst fun cs=>Am cs.σ e sz bytes (a.ev cs.sf) (b.ev cs.sf)
 | .call f xs=>Cd draw dst f xs
 | .store sz a x=>yD dst sz a x
 | .clear sz z x=>zf draw dst sz z x
 | op=>iG dst fun cs=>aD (stF cs.σ) cs.sf op
def C9 (dst:Option Nat) (b:Bool) (B:BI) (call:kY) (fl:Nat) (cs:CS):V→Option CS
 | .bool c=>@Bool.casesOn (fun _=>Option CS) (Bool.xor c b) (B.f call fl cs) (some (cs.put dst (.tup [])))
 | .tup []=>some (cs.put dst (.tup []))
 | .int _ _=>some (cs.put dst (.tup []))
 | _=>none
def pC (draw:Bool) (i:aE):BI:=match i.g with
 | none=>iU draw i.dst i.op
 | some (x,b)=>⟨fun call fl cs=>C9 i.dst b (iU draw i.dst i.op) call fl cs (x.ev cs.sf)⟩
def kA (draw:Bool) (call:kY) (fl m:Nat):List aE→CS→Out :=
 @Nat.rec (fun _=>List aE→CS→Out) (fun _ _=>.bad)
  (fun _ ih l cs=>@List.casesOn aE (fun _=>Out) l (.nx cs)
    (fun i l'=>@BI.casesOn (fun _=>Out) (pC draw i) fun f=>@Option.casesOn CS (fun _=>Out) (f call fl cs) .bad (ih l'))) m
def Ce (draw:Bool) (call:kY) (fl:Nat) (l:List aE) (cs:CS):Out:=kA draw call fl 1000 l cs
def Tr.ofL:List V→Nat→Tr V→Tr V
 | [],_,t=>t
 | v::l,k,t=>Tr.ofL l (Nat.succ k) (kW (.tup []) v k t)
def EA (res:List VR) (cs:CS):Option Rs:=match lO ⟨cs.sf,stF cs.σ⟩ res with
 | some v=>some ⟨v,cs.σ,cs.nxt⟩
 | none=>none
def J0 (res:List VR):Out→Option Rs
 | .nx cs=>EA res cs
 | .rt cs=>EA res cs
 | _=>none
def evF (run:Nat→bx→CS→Out) (code:FuncId→Option VFn):kY:=fun f args σ nxt fl=>match code f with
 | none=>none
 | some vf=>@Bool.casesOn (fun _=>Option Rs) (Nat.ble args.length vf.n) none (J0 vf.res (run fl vf.code ⟨Tr.ofL args 0 .e,σ,nxt⟩))
def Bs (o:Out) (k:CS→Out):Out:=@Out.casesOn (fun _=>Out) o k (fun id cs=>.ex id cs) (fun cs=>.rt cs) .bad
def H7 (id:Nat) (o:Out):Out:=@Out.casesOn (fun _=>Out) o (fun cs=>.nx cs) (fun j cs=>@Bool.casesOn (fun _=>Out) (Nat.beq j id) (.ex j cs) (.nx cs)) (fun cs=>.rt cs) .bad
def onB (v:V) (a b:Out):Out:=match v with
 | .bool c=>@Bool.casesOn (fun _=>Out) c b a
 | _=>.bad
def evL (code:FuncId→Option VFn) (fuel:Nat):Nat→bx→CS→Out :=
 @Nat.rec (fun _=>Nat→bx→CS→Out) (fun _ _ _=>.bad)
  (fun _ ih fl c cs=>match c with
    | .skip=>.nx cs
    | .reg draw l=>Ce draw (evF ih code) fl l cs
    | .seq a b=>Bs (ih fl a cs) fun cs'=>ih fl b cs'
    | .cond c a b=>onB (c.ev cs.sf) (ih fl a cs) (ih fl b cs)
    | .block id a=>H7 id (ih fl a cs)
    | .loop a=>Bs (ih fl a cs) fun cs'=>ih fl (.loop a) cs'
    | .exit id=>.ex id cs
    | .ret=>.rt cs
    | .cE ..=>.bad
    | .regA ..=>.bad
    | .nN ..=>.bad
    | .bad=>.bad) fuel
def gL {α:Type} (d:α):List Bool→Tr α→α
 | _, .e=>d
 | [], .n _ v _=>v
 | b::p, .n l _ r=>gL d p (if b then l else r)
def sL {α:Type} (d v:α):List Bool→Tr α→Tr α
 | [], .e=>.n .e v .e
 | [], .n l _ r=>.n l v r
 | b::p, .e=>if b then .n (sL d v p .e) d .e else .n .e d (sL d v p .e)
 | b::p, .n l u r=>if b then .n (sL d v p l) u r else .n l u (sL d v p r)
theorem qc {α:Type} (d:α):∀(f:Nat) (p:List Bool) (t:Tr α),p.length < f→Jq d f p t=gL d p t
 | 0,_,_,h=>by omega
 | f+1,[],t,_=>by cases t <;> rfl
 | f+1,b::p,t,h=>by
   cases t with
   | e=>rfl
   | n l u r =>
     have ih:=qc d f p (if b then l else r) (by simpa using h)
     cases b <;> exact ih
theorem ud {α:Type} (d v:α):∀(f:Nat) (p:List Bool) (t:Tr α),p.length < f→JZ d v f p t=sL d v p t
 | 0,_,_,h=>by omega
 | f+1,[],t,_=>by cases t <;> rfl
 | f+1,b::p,t,h=>by
   have h':p.length < f:=by simpa using h
   cases t with
   | e=>cases b <;> simp only [sL,Bool.false_eq_true,if_false,if_true] <;> rw [←ud d v f p _ h'] <;> rfl
   | n l u r=>cases b <;> simp only [sL,Bool.false_eq_true,if_false,if_true] <;> rw [←ud d v f p _ h'] <;> rfl
theorem Hq {α:Type} (d:α) (p:List Bool):gL d p .e=d:=by cases p <;> rfl
theorem zr {α:Type} (d v:α):∀(p q:List Bool) (t:Tr α),gL d q (sL d v p t)=if q=p then v else gL d q t
 | [],[],t=>by cases t <;> simp [sL,gL]
 | [],b::q,t=>by cases t <;> simp [sL,gL,Hq]
 | a::p,[],t=>by cases t <;> cases a <;> simp [sL,gL]
 | a::p,b::q,t=>by
   cases t with
   | e =>
     have ih:=zr d v p q .e
     cases a <;> cases b <;> simp [sL,gL,Hq,ih]
   | n l u r =>
     have ihl:=zr d v p q l
     have ihr:=zr d v p q r
     cases a <;> cases b <;> simp [sL,gL,ihl,ihr]
def uK:List Bool→Nat
 | []=>0
 | b::p=>2*uK p+(if b then 1 else 2)
theorem ly:∀(f k:Nat),k < f→uK (xz f k)=k
 | 0,_,h=>by omega
 | f+1,0,_=>rfl
 | f+1,k+1,h=>by
   have ih:=ly f (k / 2) (by omega)
   have ih':uK (xz f (k.div 2))=k / 2:=ih
   simp only [xz,uK,ih']
   have h1:Nat.mod k 2=k % 2:=rfl
   by_cases hk:k % 2=0
   ·have:Nat.beq (Nat.mod k 2) 0=true:=by rw [h1,hk]; rfl
    simp only [this,if_true]; omega
   ·have hk1:k % 2=1:=by omega
    have:Nat.beq (Nat.mod k 2) 0=false:=by rw [h1,hk1]; rfl
    simp only [this,Bool.false_eq_true,if_false]; omega
theorem JF:∀p:List Bool,p.length≤uK p
 | []=>Nat.le_refl _
 | b::p=>by have:=JF p; simp only [List.length_cons,uK]; split <;> omega
theorem jZ (k:Nat):(pathOf k).length < k.succ:=by
 have h1:=JF (pathOf k)
 have h2:uK (pathOf k)=k:=ly (k+1) k (by omega)
 omega
theorem y3 {i k:Nat} (h:pathOf i=pathOf k):i=k:=by
 have h1:uK (pathOf i)=i:=ly (i+1) i (by omega)
 have h2:uK (pathOf k)=k:=ly (k+1) k (by omega)
 rw [←h1,←h2,h]
theorem mY {α:Type} (d v:α) (i k:Nat) (t:Tr α):j8 d i (kW d v k t)=if i=k then v else j8 d i t:=by
 unfold j8 kW
 rw [qc _ _ _ _ (jZ i),qc _ _ _ _ (jZ i),ud _ _ _ _ _ (jZ k),zr]
 by_cases h:i=k
 ·simp [h]
 ·rw [if_neg h,if_neg (fun e=>h (y3 e))]
theorem Hf {α:Type} (d:α) (i:Nat):j8 d i .e=d:=by
 unfold j8
 rw [qc _ _ _ _ (jZ i),Hq]
theorem Ir (cs:CS) (d:Option Nat) (v:V):(cs.put d v).sf=aU cs.sf d v:=by
 funext i
 cases d with
 | none=>rfl
 | some d=>show j8 _ i (kW _ v d cs.s)=_; rw [mY]; rfl
theorem BU (cs:CS) (d:Option Nat) (v:V):(cs.put d v).σ=cs.σ∧(cs.put d v).nxt=cs.nxt:=by cases d <;> exact ⟨rfl,rfl⟩
theorem pZ (σ:Tr (Option Ob)) (k:Nat) (o:Ob):stF (kW none (some o) k σ)=upd (stF σ) k o:=by
 funext i; show j8 none i _=_; rw [mY]; rfl
theorem Er (σ:Tr (Option Ob)) (k:Nat):stF (kW none none k σ)=del (stF σ) k:=by
 funext i; show j8 none i _=_; rw [mY]; rfl
mutual
def aA (R:Nat→Nat→Prop):V→V→Prop
 | .own id off len,u=>∃id',u=.own id' off len∧R id id'
 | .ptr id i k,u=>∃id',u=.ptr id' i k∧R id id'
 | .sl sz rows,u=>∃rows',u=.sl sz rows'∧aO R rows rows'
 | .rp v,u=>∃v',u=.rp v'∧aA R v v'
 | .fn f caps,u=>∃caps',u=.fn f caps'∧aO R caps caps'
 | .bm f caps,u=>∃caps',u=.bm f caps'∧aO R caps caps'
 | .iface t v,u=>∃v',u=.iface t v'∧aA R v v'
 | .agg c,u=>∃c',u=.agg c'∧aO R c c'
 | .tup c,u=>∃c',u=.tup c'∧aO R c c'
 | .undef,u=>u=.undef
 | .int k n,u=>u=.int k n
 | .bool b,u=>u=.bool b
 | .str s,u=>u=.str s
 | .aM,u=>u=.aM
 | .nilp,u=>u=.nilp
 | .nilfn,u=>u=.nilfn
 | .niliface,u=>u=.niliface
 | .raw v,u=>u=.raw v
 | .obj v,u=>u=.obj v
 | .gp v,u=>u=.gp v
 | .yl v,u=>∃id',u=.yl id'∧R v id'
 | .mp v,u=>u=.mp v
def aO (R:Nat→Nat→Prop):List V→List V→Prop
 | [],l=>l=[]
 | v::vs,l=>∃u us,l=u::us∧aA R v u∧aO R vs us
end
section
variable {R R':Nat→Nat→Prop}
mutual
theorem aA.mono (h:∀a b,R a b→R' a b):∀(v u:V),aA R v u→aA R' v u
 | .own id off len,u,g=>by simp only [aA] at g ⊢; obtain ⟨i,e,r⟩:=g; exact ⟨i,e,h _ _ r⟩
 | .ptr id i k,u,g=>by simp only [aA] at g ⊢; obtain ⟨i,e,r⟩:=g; exact ⟨i,e,h _ _ r⟩
 | .sl sz rows,u,g=>by simp only [aA] at g ⊢; obtain ⟨i,e,r⟩:=g; exact ⟨i,e,aO.mono h _ _ r⟩
 | .rp v,u,g=>by simp only [aA] at g ⊢; obtain ⟨i,e,r⟩:=g; exact ⟨i,e,aA.mono h _ _ r⟩
 | .fn f caps,u,g=>by simp only [aA] at g ⊢; obtain ⟨i,e,r⟩:=g; exact ⟨i,e,aO.mono h _ _ r⟩
 | .bm f caps,u,g=>by simp only [aA] at g ⊢; obtain ⟨i,e,r⟩:=g; exact ⟨i,e,aO.mono h _ _ r⟩
 | .iface t v,u,g=>by simp only [aA] at g ⊢; obtain ⟨i,e,r⟩:=g; exact ⟨i,e,aA.mono h _ _ r⟩
 | .agg c,u,g=>by simp only [aA] at g ⊢; obtain ⟨i,e,r⟩:=g; exact ⟨i,e,aO.mono h _ _ r⟩
 | .tup c,u,g=>by simp only [aA] at g ⊢; obtain ⟨i,e,r⟩:=g; exact ⟨i,e,aO.mono h _ _ r⟩
 | .undef,u,g=>by simpa [aA] using g
 | .int k n,u,g=>by simpa [aA] using g
 | .bool b,u,g=>by simpa [aA] using g
 | .str s,u,g=>by simpa [aA] using g
 | .aM,u,g=>by simpa [aA] using g
 | .nilp,u,g=>by simpa [aA] using g
 | .nilfn,u,g=>by simpa [aA] using g
 | .niliface,u,g=>by simpa [aA] using g
 | .raw v,u,g=>by simpa [aA] using g
 | .obj v,u,g=>by simpa [aA] using g
 | .gp v,u,g=>by simpa [aA] using g
 | .yl v,u,g=>by simp only [aA] at g ⊢; obtain ⟨i,e,r⟩:=g; exact ⟨i,e,h _ _ r⟩
 | .mp v,u,g=>by simpa [aA] using g
theorem aO.mono (h:∀a b,R a b→R' a b):∀(v u:List V),aO R v u→aO R' v u
 | [],u,g=>by simpa [aO] using g
 | v::vs,u,g=>by
   simp only [aO] at g ⊢
   obtain ⟨a,as1,e,r,rs⟩:=g
   exact ⟨a,as1,e,aA.mono h _ _ r,aO.mono h _ _ rs⟩
end
mutual
theorem dT:∀(v:V),v.dQ=true→aA R v v
 | .own ..,g=>by simp [V.dQ] at g
 | .ptr ..,g=>by simp [V.dQ] at g
 | .sl sz rows,g=>by simp only [V.dQ] at g; simp only [aA]; exact ⟨rows,rfl,eZ rows g⟩
 | .rp v,g=>by simp only [V.dQ] at g; simp only [aA]; exact ⟨v,rfl,dT v g⟩
 | .fn f caps,g=>by simp only [V.dQ] at g; simp only [aA]; exact ⟨caps,rfl,eZ caps g⟩
 | .bm f caps,g=>by simp only [V.dQ] at g; simp only [aA]; exact ⟨caps,rfl,eZ caps g⟩
 | .iface t v,g=>by simp only [V.dQ] at g; simp only [aA]; exact ⟨v,rfl,dT v g⟩
 | .agg c,g=>by simp only [V.dQ] at g; simp only [aA]; exact ⟨c,rfl,eZ c g⟩
 | .tup c,g=>by simp only [V.dQ] at g; simp only [aA]; exact ⟨c,rfl,eZ c g⟩
 | .undef,_=>by simp [aA]
 | .int k n,_=>by simp [aA]
 | .bool b,_=>by simp [aA]
 | .str s,_=>by simp [aA]
 | .aM,_=>by simp [aA]
 | .nilp,_=>by simp [aA]
 | .nilfn,_=>by simp [aA]
 | .niliface,_=>by simp [aA]
 | .raw v,_=>by simp [aA]
 | .obj v,_=>by simp [aA]
 | .gp v,_=>by simp [aA]
 | .yl v,g=>by simp [V.dQ] at g
 | .mp v,_=>by simp [aA]
theorem eZ:∀(l:List V),fT l=true→aO R l l
 | [],_=>by simp [aO]
 | v::vs,g=>by
   simp only [fT,Ba] at g
   simp only [aO]
   exact ⟨v,vs,rfl,dT v g.1,eZ vs g.2⟩
end
mutual
theorem mQ:∀(v u:V),v.dQ=true→aA R v u→u=v
 | .own ..,_,g,_=>by simp [V.dQ] at g
 | .ptr ..,_,g,_=>by simp [V.dQ] at g
 | .sl sz rows,u,g,h=>by simp only [V.dQ] at g; simp only [aA] at h; obtain ⟨r,rfl,h⟩:=h; rw [jH rows r g h]
 | .rp v,u,g,h=>by simp only [V.dQ] at g; simp only [aA] at h; obtain ⟨r,rfl,h⟩:=h; rw [mQ v r g h]
 | .fn f caps,u,g,h=>by simp only [V.dQ] at g; simp only [aA] at h; obtain ⟨r,rfl,h⟩:=h; rw [jH caps r g h]
 | .bm f caps,u,g,h=>by simp only [V.dQ] at g; simp only [aA] at h; obtain ⟨r,rfl,h⟩:=h; rw [jH caps r g h]
 | .iface t v,u,g,h=>by simp only [V.dQ] at g; simp only [aA] at h; obtain ⟨r,rfl,h⟩:=h; rw [mQ v r g h]
 | .agg c,u,g,h=>by simp only [V.dQ] at g; simp only [aA] at h; obtain ⟨r,rfl,h⟩:=h; rw [jH c r g h]
 | .tup c,u,g,h=>by simp only [V.dQ] at g; simp only [aA] at h; obtain ⟨r,rfl,h⟩:=h; rw [jH c r g h]
 | .undef,u,_,h=>by simpa [aA] using h
 | .int k n,u,_,h=>by simpa [aA] using h
 | .bool b,u,_,h=>by simpa [aA] using h
 | .str s,u,_,h=>by simpa [aA] using h
 | .aM,u,_,h=>by simpa [aA] using h
 | .nilp,u,_,h=>by simpa [aA] using h
 | .nilfn,u,_,h=>by simpa [aA] using h
 | .niliface,u,_,h=>by simpa [aA] using h
 | .raw v,u,_,h=>by simpa [aA] using h
 | .obj v,u,_,h=>by simpa [aA] using h
 | .gp v,u,_,h=>by simpa [aA] using h
 | .yl v,_,g,_=>by simp [V.dQ] at g
 | .mp v,u,_,h=>by simpa [aA] using h
theorem jH:∀(l m:List V),fT l=true→aO R l m→m=l
 | [],m,_,h=>by simpa [aO] using h
 | v::vs,m,g,h=>by
   simp only [fT,Ba] at g
   simp only [aO] at h
   obtain ⟨u,us,rfl,h1,h2⟩:=h
   rw [mQ v u g.1 h1,jH vs us g.2 h2]
end
theorem aO.gz {l:List V}:aO R [] l↔l=[]:=by simp [aO]
theorem aO.bU {v:V} {vs l:List V}:aO R (v::vs) l↔∃u us,l=u::us∧aA R v u∧aO R vs us:=by simp [aO]
theorem aO.length:∀ {l m:List V},aO R l m→m.length=l.length
 | [],_,h=>by rw [aO.gz] at h; simp [h]
 | v::vs,_,h=>by obtain ⟨u,us,rfl,_,h2⟩:=aO.bU.1 h; simp [h2.length]
theorem aO.get:∀ {l m:List V},aO R l m→∀ {i:Nat} {v:V},l[i]?=some v→∃u,m[i]?=some u∧aA R v u
 | [],_,_,i,v,hv=>by simp at hv
 | v::vs,_,h,i,x,hv=>by
   obtain ⟨u,us,rfl,h1,h2⟩:=aO.bU.1 h
   cases i with
   | zero=>simp at hv; subst hv; exact ⟨u,by simp,h1⟩
   | succ i=>simp at hv; simpa using h2.get hv
theorem aO.append:∀ {l m l' m':List V},aO R l m→aO R l' m'→aO R (l++l') (m++m')
 | [],_,_,_,h,h'=>by rw [aO.gz] at h; subst h; simpa using h'
 | v::vs,_,_,_,h,h'=>by
   obtain ⟨u,us,rfl,h1,h2⟩:=aO.bU.1 h
   exact aO.bU.2 ⟨u,us++_,by simp,h1,h2.append h'⟩
theorem aO.take:∀ {l m:List V},aO R l m→∀i,aO R (l.take i) (m.take i)
 | [],_,h,i=>by rw [aO.gz] at h; subst h; simp [aO]
 | v::vs,_,h,i=>by
   obtain ⟨u,us,rfl,h1,h2⟩:=aO.bU.1 h
   cases i with
   | zero=>simp [aO]
   | succ i=>exact aO.bU.2 ⟨u,us.take i,by simp,h1,h2.take i⟩
theorem aO.drop:∀ {l m:List V},aO R l m→∀i,aO R (l.drop i) (m.drop i)
 | [],_,h,i=>by rw [aO.gz] at h; subst h; simp [aO]
 | v::vs,_,h,i=>by
   obtain ⟨u,us,rfl,h1,h2⟩:=aO.bU.1 h
   cases i with
   | zero=>exact aO.bU.2 ⟨u,us,by simp,h1,h2⟩
   | succ i=>simpa using h2.drop i
theorem aO.set:∀ {l m:List V},aO R l m→∀(i:Nat) {v u:V},aA R v u→aO R (l.set i v) (m.set i u)
 | [],_,h,i,_,_,_=>by rw [aO.gz] at h; subst h; simp [aO]
 | v::vs,_,h,i,x,y,hx=>by
   obtain ⟨u,us,rfl,h1,h2⟩:=aO.bU.1 h
   cases i with
   | zero=>exact aO.bU.2 ⟨y,us,by simp,hx,h2⟩
   | succ i=>exact aO.bU.2 ⟨u,us.set i y,by simp,h1,h2.set i hx⟩
theorem aO.replicate {v u:V} (h:aA R v u):∀n,aO R (List.replicate n v) (List.replicate n u)
 | 0=>by simp [aO]
 | n+1=>aO.bU.2 ⟨u,List.replicate n u,by simp [List.replicate_succ],h,aO.replicate h n⟩
theorem aO.one {v u:V} (h:aA R v u):aO R [v] [u]:=aO.bU.2 ⟨u,[],rfl,h,by simp [aO]⟩
theorem aA.iN {k:IntKind} {n:Int} {u:V}:aA R (.int k n) u↔u=.int k n:=by simp [aA]
theorem aA.kK {b:Bool} {u:V}:aA R (.bool b) u↔u=.bool b:=by simp [aA]
theorem aA.qe {b:List UInt8} {u:V}:aA R (.str b) u↔u=.str b:=by simp [aA]
theorem aA.nz {b:List V} {u:V}:aA R (.agg b) u↔∃c,u=.agg c∧aO R b c:=by simp [aA]
theorem aA.agg {l m:List V} (h:aO R l m):aA R (.agg l) (.agg m):=aA.nz.2 ⟨m,rfl,h⟩
theorem aA.rp {l m:V} (h:aA R l m):aA R (.rp l) (.rp m):=by simp only [aA]; exact ⟨m,rfl,h⟩
theorem aA.cells {v u:V} (h:aA R v u):aO R v.cells u.cells:=by
 cases v <;> simp only [aA] at h
 case agg c=>obtain ⟨c',rfl,h⟩:=h; simpa [V.cells] using h
 all_goals first
  | (subst h; exact aO.one (by simp [aA]))
  | (obtain ⟨c,rfl,h⟩:=h; exact aO.one (by simp only [aA]; exact ⟨_,rfl,h⟩))
theorem aA.stays {v u:V} (h:aA R v u):u.stays=v.stays:=by
 cases v <;> simp only [aA] at h <;> first
  | (subst h; rfl)
  | (obtain ⟨c,rfl,h⟩:=h; rfl)
end
end Go.Vc

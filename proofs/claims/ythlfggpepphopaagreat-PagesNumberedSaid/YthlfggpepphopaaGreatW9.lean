/- Part 9 of the library of this proof. -/
import Derived.Test.YthlfggpepphopaaGreatW8
set_option linter.all false
set_option maxHeartbeats 4000000
set_option maxRecDepth 100000
namespace Go.Vc
open Go.Proofs Go.Proofs.Tryz
theorem vq {b:Bk} (hb:BkOk b) {s:Stt} (h:dt b.atoms s):0≤s.done∧s.done≤18014398509481984:=by
 obtain ⟨⟨h0,h1⟩,h2,h3⟩:=h;obtain ⟨k,hk⟩:∃k:Nat,s.atom=k:=⟨s.atom.toNat,by omega⟩
 have hkl:k < b.atoms.length:=by omega
 have:=hb.tight _ (List.getElem_mem hkl);rw [hk,bn hkl] at h3;omega
theorem uo {b:Bk} (hb:BkOk b) (k:Int):-18014398509481984≤gz b.atoms k∧gz b.atoms k≤36028797018963968:=by
 unfold gz;split
 ·rename_i h;obtain ⟨n,rfl⟩:∃n:Nat,k=n:=⟨k.toNat,by omega⟩
  have hn:n < b.atoms.length:=by omega
  have:=hb.tight _ (List.getElem_mem hn);rw [bn hn]; omega
 ·omega
theorem Dh {b:Bk} (hb:BkOk b) (s:Stt) (area:Int):-1152921504606846976≤nV b.atoms s area∧nV b.atoms s area≤2305843009213693952:=by
 unfold nV mC;split
 ·split
  ·rename_i h;have h1:=uo hb (s.atom - 1);obtain ⟨n,hn⟩:∃n:Nat,s.atom=n:=⟨s.atom.toNat,by omega⟩
   have hnl:n < b.atoms.length:=by omega
   have:=hb.tight _ (List.getElem_mem hnl);rw [hn] at h1 ⊢;rw [bn hnl]; omega
  ·omega
 ·omega
theorem l6 {l:List Atm} {s:Stt} {kept shift body:Int}:ld l s kept shift body≤l.length:=by
 unfold ld;split
 ·rename_i h;have:=BP (eV l s kept shift body) (l.length - s.atom.toNat);have:=h.1;omega
 ·omega
theorem Dj (ah:Fd→Fd→Bool→Bool):∀(xs:List Fd) (d:Fd),(eX ah xs d).1=d∨(eX ah xs d).1∈xs:=by
 have key:∀(xs:List Fd) (p:Fd×Bool),(xs.foldl (fK ah) p).1=p.1∨(xs.foldl (fK ah) p).1∈xs:=by
  intro xs
  induction xs with
  | nil=>intro p; exact .inl rfl
  | cons x xs ih =>
    intro p;rw [List.foldl_cons];rcases ih (fK ah p x) with h | h
    ·rw [h];unfold fK;split
     ·exact .inr (by simp)
     ·exact .inl rfl
    ·exact .inr (by simp [h])
 exact fun xs d=>key xs (d,false)
theorem CN {xs:List Fd} (h:xs≠[]) (d:Fd):(eX iF xs d).1∈xs:=by
 obtain ⟨x,xs,rfl⟩:∃x l,xs=x::l:=by cases xs with
  | nil=>exact absurd rfl h
  | cons x l=>exact ⟨x,l,rfl⟩
 unfold eX;rw [List.foldl_cons];have:fK iF (d,false) x=(x,true):=by simp [fK,iF]
 rw [this];have key:∀(xs:List Fd) (p:Fd×Bool),(xs.foldl (fK iF) p).1=p.1∨(xs.foldl (fK iF) p).1∈xs:=by
  intro xs
  induction xs with
  | nil=>intro p; exact .inl rfl
  | cons x xs ih =>
    intro p;rw [List.foldl_cons];rcases ih (fK iF p x) with h | h
    ·rw [h]; unfold fK;split
     ·exact .inr (by simp)
     ·exact .inl rfl
    ·exact .inr (by simp [h])
 rcases key xs (x,true) with h | h
 ·rw [h]; simp
 ·simp [h]
theorem nZ {b:List Brk} {i fit:Int} (h:eW b i fit) (hf:fit≤(b.length:Int) - 1):∃c:Nat,uh b i fit=c∧i < c∧(c:Int)≤fit:=by
 obtain ⟨_,h1,h2,h3⟩:=h;have mem:∀x∈(btw b (i+1) fit).map (lH b),∃c:Nat,x.i=c∧i < c∧(c:Int)≤fit:=fun x hx=>by
  obtain ⟨k,hk,rfl⟩:=List.mem_map.1 hx;unfold btw ur at hk;rw [List.mem_range'_1] at hk;exact ⟨k,rfl,by omega,by omega⟩
 unfold uh;split
 ·refine mem _ (CN ?_ _);intro e;have:=congrArg List.length e;simp [btw,ur] at this;omega
 ·rename_i hn;rcases Dj gn ((btw b (i+1) fit).map (lH b)) yP with h | h
  ·exact absurd (show kF b (i+1) fit < 0 by unfold kF; rw [h]; decide) hn
  ·exact mem _ h
theorem WxJ.set {b:Bk} {K:af} {ix:Nat} {x:Wx} {σ:af} {vh vf vl:V} (h:WxJ b K ix x σ vh vf vl) (x':Wx) (h1:x'.hs=x.hs) (h2:x'.fs=x.fs) (h3:x'.ls=x.ls):WxJ b K ix x' (upd σ ix (cQ b x' vh vf vl)) vh vf vl:=by
 have k2:aZ K ix ix≠none:=fun h=>(aF.1 h).1 rfl;exact ⟨Vc.ag,h1 ▸ h.oh.ab k2,h2 ▸ h.of.ab k2,h3 ▸ h.ol.ab k2,h.hf,h.hl,h.fl,h.sub.aB h.no,h.no⟩
def dH (b:Bk) (x:Wx):Int:=nV b.atoms x.s (x.body - x.shift)
def dP (b:Bk) (x:Wx):Int:=ld b.atoms x.s (dH b x) x.shift x.body
def tY (b:Bk) (x:Wx):Int:=uh b.brks x.s.atom (dP b x)
def sW (b:Bk) (x:Wx) (kept:Int) (cut:Nat):Wx:=(x.add (bZ b x kept (cut - x.s.atom.toNat))).put (dr b.atoms b.fls x.s cut kept x.shift x.body).1
def AP (b:Bk) (x:Wx) (kept:Int) (cut:Nat):Sta:=⟨⟨cut,0,decide ((b.brks.getD cut ⟨0,0,0⟩).forced≠0)⟩,(dr b.atoms b.fls x.s cut kept x.shift x.body).2⟩
def dB (b:Bk) (x:Wx):Wx:=if eW b.brks x.s.atom (dP b x) then sW b { x with kind:=1 } (dH b x) (tY b x).toNat else tD b { x with kind:=1 }
def ek (b:Bk) (x:Wx):Sta:=if eW b.brks x.s.atom (dP b x) then AP b { x with kind:=1 } (dH b x) (tY b x).toNat else uw b { x with kind:=1 }
theorem Hv (b:Bk) (hb:BkOk b) (x:Wx) (hm:dt b.atoms x.s) (hx:x.fs.length≤1000000) (hxl:x.ls.length≤1000000) (hh:0≤x.high∧x.high≤1125899906842624) (hbd:0≤x.body∧x.body≤1125899906842624)
 (hsh:0≤x.shift∧x.shift≤1125899906842624) {K σ:af} {i1:Nat} {vh vf vl:V} (hJ:WxJ b K i1 x σ vh vf vl) :
 az prog 45 [.ptr i1 0 0] σ fun r σ'=>∃vf' vl',r=cO (ek b x)∧WxJ b K i1 (dB b x) σ' vh vf' vl':=by
 refine e45.r (by simp [c45]) ?_;have hs:=aa.refl σ;have hbk:bL b=.agg [aI b.nodes,vI b.w,vI b.h,bu b.atoms,aJ b.fls,vI b.height,bF b.brks]:=rfl;have a1:=hJ.row;rw [cQ] at a1;obtain ⟨ch,sh⟩:=hJ.oh.vc;obtain ⟨cf,sf⟩:=hJ.of.vc;obtain ⟨cl,sl⟩:=hJ.ol.vc;have hd:=vq hb hm;have hk:=Dh hb x.s (x.body - x.shift);have hlen:=hb.len;have hbl:=hb.brk;have hKc:=Hy b.atoms hb.at' x.s (x.body - x.shift);have hRc:=FG b.atoms hb.at' x.s (by omega) (dH b x) x.shift x.body hk ⟨by omega,by omega⟩;have hCc:=KO b.brks (by omega) x.s.atom (dP b x);have hrl:dP b x≤b.atoms.length:=l6;have hcr:eW b.brks x.s.atom (dP b x)→∃c:Nat,tY b x=c∧x.s.atom < c∧(c:Int)≤dP b x:=fun h=>nZ h (by omega);have hXk:dH b x=nV b.atoms x.s (x.body - x.shift):=rfl;rw [←hXk] at hKc hk;have hXr:dP b x=ld b.atoms x.s (dH b x) x.shift x.body:=rfl;rw [←hXr] at hRc;have hXc:tY b x=uh b.brks x.s.atom (dP b x):=rfl;rw [←hXc] at hCc;have r1:inR .i64 (x.body - x.shift):=ak (by omega) (by omega);rw [br] at hKc hRc;unfold dB ek;generalize dH b x=kept at *;generalize dP b x=reach at *;generalize tY b x=cut at *;refine ad.mix 8 ?_;apply sR;simp only [go_sem,seval,c45];refine ae fun i2 σ2 s2 a2 f2=>?_;have n12:=ao a1 f2;replace a1:=s2 _ _ a1;have z2:=hs.none f2;replace hs:=hs.trans s2;have k2:K i2=none:=hJ.sub.none f2;have hJ2:=hJ.mT s2 f2 a2;simp only [go_sem,seval,a1,hbk,fI,r1];refine Go.cp rfl rfl rfl hKc ?_;apply sG;simp only [go_sem,seval,a1,hbk,Fx];refine Go.cp rfl rfl rfl hRc ?_;apply sG;simp only [go_sem,seval];refine Go.cp rfl rfl rfl hCc ?_;have hJs:=hJ2.set { x with kind:=1 } rfl rfl rfl;rw [cQ] at hJs;by_cases hok:eW b.brks x.s.atom reach
 ·obtain ⟨c,rfl,h1,h2⟩:=hcr hok;rw [decide_eq_true hok,if_pos hok,if_pos hok,if_pos hok,Int.toNat_natCast];apply sG;simp only [go_sem,seval,a1];generalize hq1:upd σ2 i1 _=τ1 at *;have hw:az prog 72 [.ptr i1 0 0,vI kept,vI c] τ1 fun r σ'=>∃vf' vl',r=cO (AP b { x with kind:=1 } kept c)∧WxJ b (upd K i2 ⟨27,4,[.agg [vI 0,vI 0, .bool false, .aD]]⟩) i1 (sW b { x with kind:=1 } kept c) σ' vh vf' vl':=EC b hb { x with kind:=1 } hm (by show x.s.done≤_; omega) hx hxl (by show 0≤x.high∧x.high≤_; omega) kept hk (by show 0≤x.shift∧x.shift≤_; omega) c (by show x.s.atom≤_; omega) (by omega) hJs;generalize AP b { x with kind:=1 } kept c=Z at *;generalize sW b { x with kind:=1 } kept c=Y at *;refine ad.j9 rfl rfl rfl hw ?_;rintro r σ' ⟨vf',vl',rfl,hJ'⟩;have c2:=hJ'.sub _ _ ag;apply sR;simp only [go_sem,seval,c2,cO,aQ,aS];exact ⟨_,_,aa.refl _,Wk.refl (aa.refl _) _,vf',vl',rfl,hJ'.drop k2 _⟩
 ·rw [decide_eq_false hok,if_neg hok,if_neg hok,if_neg hok];apply sG;simp only [go_sem,seval,a1];generalize hq1:upd σ2 i1 _=τ1 at *;have hw:az prog 71 [.ptr i1 0 0,vI kept,vI 0] τ1 fun r σ'=>∃vf' vl',r=cO (uw b { x with kind:=1 })∧WxJ b (upd K i2 ⟨27,4,[.agg [vI 0,vI 0, .bool false, .aD]]⟩) i1 (tD b { x with kind:=1 }) σ' vh vf' vl':=Hl b hb { x with kind:=1 } hm (by show x.s.done≤_; omega) hx hxl (by show 0≤x.high∧x.high≤_; omega) kept 0 hJs;generalize uw b { x with kind:=1 }=Z at *;generalize tD b { x with kind:=1 }=Y at *;refine ad.j9 rfl rfl rfl hw ?_;rintro r σ' ⟨vf',vl',rfl,hJ'⟩;have c2:=hJ'.sub _ _ ag;apply sR;simp only [go_sem,seval,c2,cO,aQ,aS];exact ⟨_,_,aa.refl _,Wk.refl (aa.refl _) _,vf',vl',rfl,hJ'.drop k2 _⟩
open Go.Proofs Go.Proofs.Tryz
def jo (body:Int) (f:Flo):Bool:=decide (f.y+f.h≤body)
def u5 (b:Bk) (x:Wx):Wx:={ (x.put (b.fls.takeWhile (jo x.body))) with kind:=2 }
def jA (b:Bk) (x:Wx):Sta:=⟨⟨0,0,false⟩,b.fls.dropWhile (jo x.body)⟩
theorem yL {P:List Flo} {j:Nat} (h:j≤P.length):∀σ,cy σ 7 (aJ P) none (some (.int .i64 j)) none=some (aJ (P.take j)):=fun σ=>by
 have h1:(j:Int)≤P.length:=by omega
 simp only [aJ,cy,bx,List.length_map];rw [if_pos ⟨Int.le_refl _,by omega,h1,Int.le_refl _,trivial⟩];simp [List.map_take]
theorem wE {α:Type} {p:α→Bool}:∀ {l:List α} {j:Nat},(∀x∈l.take j,p x=true)→(∀x,l[j]?=some x→p x=false)→j≤l.length→l.takeWhile p=l.take j∧l.dropWhile p=l.drop j
 | [],j,_,_,h=>by simp
 | x::l,0,_,h2,_=>by
   have:=h2 x rfl;simp [List.takeWhile_cons,List.dropWhile_cons,this]
 | x::l,j+1,h1,h2,h=>by
   have hx:=h1 x (by simp);have ih:=wE (p:=p) (l:=l) (j:=j) (fun y hy=>h1 y (by simp [hy])) (fun y hy=>h2 y (by simpa using hy)) (by simpa using h);simp [List.takeWhile_cons,List.dropWhile_cons,hx,ih.1,ih.2]
theorem FZ (b:Bk) (hb:BkOk b) (x:Wx) (hxl:x.ls.length≤1000000) (hh:0≤x.high∧x.high≤1125899906842624) {K σ:af} {i1:Nat} {vh vf vl:V} (hJ:WxJ b K i1 x σ vh vf vl) :
 az prog 41 [.ptr i1 0 0] σ fun r σ'=>∃vl',r=cO (jA b x)∧WxJ b K i1 (u5 b x) σ' vh vf vl':=by
 refine e41.r (by simp [c41]) ?_;have hs:=aa.refl σ;have hbk:bL b=.agg [aI b.nodes,vI b.w,vI b.h,bu b.atoms,aJ b.fls,vI b.height,bF b.brks]:=rfl;have a1:=hJ.row;rw [cQ] at a1;obtain ⟨ch,sh⟩:=hJ.oh.vc;obtain ⟨cf,sf⟩:=hJ.of.vc;obtain ⟨cl,sl⟩:=hJ.ol.vc;have hfn:=hb.flen;have hlp:=fF b.fls;unfold u5 jA;refine ad.mix 5 ?_;apply sR;simp only [go_sem,seval,c41];refine ae fun i2 σ2 s2 a2 f2=>?_;have n12:=ao a1 f2;replace a1:=s2 _ _ a1;have z2:=hs.none f2;replace hs:=hs.trans s2;have k2:K i2=none:=hJ.sub.none f2;have hJ2:=hJ.mT s2 f2 a2;simp only [go_sem,seval,a1,hbk,B8];refine ad.eS (fun st=>∃j:Nat,j≤b.fls.length∧b.fls.takeWhile (jo x.body)=b.fls.take j∧b.fls.dropWhile (jo x.body)=b.fls.drop j∧st.σ=σ2∧st.s 0=.ptr i1 0 0∧st.s 2=.ptr i2 0 0∧st.s 3=vI j∧st.s 4=aJ b.fls)
  (fun m st=>∃j:Nat,j≤b.fls.length∧m=b.fls.length - j∧(∀f∈b.fls.take j,jo x.body f=true)∧st.σ=σ2∧st.s 0=.ptr i1 0 0∧st.s 2=.ptr i2 0 0∧st.s 3=vI j∧st.s 4=aJ b.fls) b.fls.length ?_ ?_ ?_
 ·exact ⟨0,by omega,rfl,by simp,rfl,rfl,rfl,rfl,rfl⟩
 ·rintro m ⟨S,τ⟩ ⟨j,hj,rfl,hall,hσ,t0,t2,t3,t4⟩;simp only at hσ t0 t2 t3 t4;subst hσ;refine ad.mix 5 ?_;by_cases hlt:j < b.fls.length
  ·have q:((j:Int) < b.fls.length)=True:=eq_true (by omega);have hidx:=fun σ=>jK (σ:=σ) hlt;have hfl:aO b.fls[j]=.agg [vI b.fls[j].node,vI b.fls[j].side,vI b.fls[j].anchor,vI b.fls[j].x,vI b.fls[j].y,vI b.fls[j].w,vI b.fls[j].h]:=rfl;obtain ⟨_,⟨o1,o2⟩,_,o3,o4⟩:=hb.flo _ (List.getElem_mem hlt);have htk:b.fls.take (j+1)=b.fls.take j++[b.fls[j]]:=List.take_succ_eq_append_getElem hlt;have hget:b.fls[j]?=some b.fls[j]:=List.getElem?_eq_getElem hlt;generalize b.fls[j]=f at *;have r1:inR .i64 (f.y+f.h):=ak (by omega) (by omega);have r2:inR .i64 ((j:Int)+1):=ak (by omega) (by omega);by_cases hle:f.y+f.h≤x.body
   ·have q1:(f.y+f.h≤x.body)=True:=eq_true hle;apply sR;simp only [go_sem,seval,t0,t2,t3,t4,hlp,q,hidx,hfl,a1,r1,q1,r2];refine ⟨_,?_,j+1,by omega,rfl,?_,by simp [t0,t2,t4]⟩
    ·omega
    ·rw [htk];intro g hg;rcases List.mem_append.1 hg with hg | hg
     ·exact hall g hg
     ·simp at hg; subst hg; exact decide_eq_true hle
   ·have q1:(f.y+f.h≤x.body)=False:=eq_false hle;apply sR;simp only [go_sem,seval,t0,t2,t3,t4,hlp,q,hidx,hfl,a1,r1,q1];obtain ⟨e1,e2⟩:=wE hall (fun g hg=>by rw [hget] at hg; cases hg; exact decide_eq_false hle) hj;exact ⟨j,hj,e1,e2,by simp [t0,t2,t3,t4]⟩
  ·have q:((j:Int) < b.fls.length)=False:=eq_false (by omega);apply sR;simp only [go_sem,seval,t0,t2,t3,t4,hlp,q,a1];obtain ⟨e1,e2⟩:=wE hall (fun g hg=>by rw [List.getElem?_eq_none (by omega)] at hg; cases hg) hj;exact ⟨j,hj,e1,e2,by simp [t0,t2,t3,t4]⟩
 ·rintro ⟨S,τ⟩ ⟨j,hj,e1,e2,hσ,t0,t2,t3,t4⟩;simp only at hσ t0 t2 t3 t4;subst hσ;rw [e1,e2];have hsl:=yL hj;have hsl2:=pc hj;refine ad.mix 5 ?_;apply sR;simp only [BB,seval,←decide_not,bp,eQ,aE,cG,eG,ed,eF,dQ,cd,kv,gr,bE,fL,dM,eB,cK,bx,ir,de,cI,cc,eff,kc,da,bS,jS,dT,cj,dO,cU,kP,binBV,bT,dq,V.cells,V.stays,Orc.nothing,t0,t2,t3,t4,hsl];refine ad.call rfl rfl rfl (l9 b (b.fls.take j) (by rw [List.length_take]; omega) x hxl (fun f hf=>by
   obtain ⟨_,⟨o1,o2⟩,_,o3,o4⟩:=hb.flo f (List.mem_of_mem_take hf);exact ak (by omega) (by omega)) hJ2) ?_
  rintro r σ' ⟨vl',hJ'⟩;have c2:=hJ'.sub _ _ ag;have b1:=hJ'.row;have n12':i1≠i2:=n12;rw [cQ] at b1;generalize x.put (b.fls.take j)=y at *;have hJs:=hJ'.set { y with kind:=2 } rfl rfl rfl;rw [cQ] at hJs;apply sR;simp only [BB,seval,←decide_not,bp,eQ,aE,cG,eG,ed,eF,dQ,cd,kv,gr,bE,fL,dM,eB,cK,bx,ir,de,cI,cc,eff,kc,da,bS,jS,dT,cj,dO,cU,kP,binBV,bT,dq,V.cells,V.stays,Orc.nothing,t0,t2,t3,t4,b1,hsl2];generalize hq1:upd σ' i1 _=τ1 at *;replace c2:=hJs.sub _ _ ag;refine ad.ay rfl rfl rfl (xc (b.fls.drop j) (by rw [List.length_drop]; omega) _) ?_;apply sR;simp only [go_sem,seval,c2,t2,aQ,aS];exact ⟨_,_,aa.refl _,Wk.refl (aa.refl _) _,vl',rfl,hJs.drop k2 _⟩
open Go.Proofs Go.Proofs.Tryz
def bB.lt:bB→bB
 | .seq a _=>a
 | c=>c
def bB.bd:bB→bB
 | .block _ a=>a
 | c=>c
structure BkFull (b:Bk):Prop extends BkOk b where
 rC:dE b.nodes
 isb:isB b.nodes=true
 h1:1≤b.h
 h2:b.h≤1099511627776
 nod:∀a∈b.atoms,0≤a.node∧a.node < b.nodes.length
def bw (b:Bk) (s:Stt):Kp:=if b.atoms=[] then ⟨[],0,b.h⟩ else qJ b.nodes (atG b.atoms (min s.atom ((b.atoms.length:Int) - 1))).node b.h
def hdS (l:List Nd) (w:Int) (p:List Frg×Int) (a:Int):List Frg×Int:=(p.1++[⟨a, -1,0,0,p.2,w,(stA l a).head⟩],p.2+(stA l a).head)
def hdK (l:List Nd) (w:Int) (L:List Int):List Frg×Int:=L.foldl (hdS l w) ([],0)
theorem x4 (l:List Nd) (w:Int) (L:List Int) (a:Int):hdK l w (L++[a])=hdS l w (hdK l w L) a:=by
 unfold hdK; rw [List.foldl_append]; rfl
theorem Bv (l:List Nd) (w:Int):∀(L:List Int),(hdK l w L).1.length=L.length:=by
 have key:∀(L:List Int) (p:List Frg×Int),(L.foldl (hdS l w) p).1.length=p.1.length+L.length:=by
  intro L
  induction L with
  | nil=>intro p; rfl
  | cons a L ih=>intro p; rw [List.foldl_cons,ih]; simp [hdS]; omega
 intro L;have:=key L ([],0);simpa [hdK] using this
theorem B6 (l:List Nd) (w:Int) (L:List Int) (h:∀a∈L,0≤(stA l a).head) (j:Nat):0≤(hdK l w (L.take j)).2∧(hdK l w (L.take j)).2≤(hdK l w L).2:=by
 have key:∀(L:List Int),(∀a∈L,0≤(stA l a).head)→∀(p:List Frg×Int),p.2≤(L.foldl (hdS l w) p).2:=by
  intro L
  induction L with
  | nil=>intro _ p; exact Int.le_refl _
  | cons a L ih =>
    intro h p;rw [List.foldl_cons];have h1:=ih (fun x hx=>h x (by simp [hx])) (hdS l w p a);have h2:=h a (by simp);simp only [hdS] at h1 ⊢;omega
 refine ⟨key (L.take j) (fun a ha=>h a (List.mem_of_mem_take ha)) ([],0),?_⟩;have e:hdK l w L=(L.drop j).foldl (hdS l w) (hdK l w (L.take j)):=by
  rw [hdK,hdK,←List.foldl_append,List.take_append_drop]
 rw [e];exact key _ (fun a ha=>h a (List.mem_of_mem_drop ha)) _
theorem tN {l:List Nd} {L:List Int} {h:Int}:∀m,m≤L.length→∀a∈(fQ l L h m).heads,a∈L
 | 0,_,a,ha=>by simp [fQ] at ha
 | m+1,hm,a,ha=>by
   rw [fQ,iI] at ha;split at ha
   ·exact tN m (by omega) a ha
   ·simp only [List.mem_append,List.mem_singleton] at ha;rcases ha with ha | ha
    ·exact tN m (by omega) a ha
    ·rw [ha];have hlt:L.length - 1 - m < L.length:=by omega
     have hg:L.getD (L.length - 1 - m) 0=L[L.length - 1 - m]:=by simp [hlt]
     rw [hg]; exact List.getElem_mem hlt
theorem o7 {l:List Nd} {L:List Int} {h w:Int}:∀m,(hdK l w (fQ l L h m).heads).2=(fQ l L h m).high
 | 0=>rfl
 | m+1=>by
   rw [fQ,iI];split
   ·exact o7 m
   ·simp only [x4,hdS];rw [o7 m]
structure Oh (b:Bk) (k:Kp):Prop where
 len:k.heads.length≤1000000
 mem:∀a∈k.heads,∃n:Nat,a=n∧n < b.nodes.length
 sum:(hdK b.nodes b.w k.heads).2=k.high
 high:0≤k.high∧k.high≤1099511627776
 body:0≤k.body∧k.body≤1099511627776
theorem ry {b:Bk} (hb:BkFull b) (s:Stt):Oh b (bw b s):=by
 have h1:=hb.h1;have h2:=hb.h2;have hn:b.nodes.length≤100000:=by have:=hb.rC.1; omega
 unfold bw;split
 ·exact ⟨by simp,by simp,rfl,by simp,by simp; omega⟩
 ·unfold qJ;split
  ·rename_i hc;obtain ⟨_,h3,h4⟩:=hc;generalize (atG b.atoms (min s.atom ((b.atoms.length:Int) - 1))).node=a at *;have ha:a.toNat < b.nodes.length:=by omega
   have hrg:∀x∈abv b.nodes a.toNat,∃n:Nat,x=n∧n < b.nodes.length:=fun x hx=>by
    obtain ⟨n,h1,h2⟩:=oq ha x hx;exact ⟨n,h1,by omega⟩
   have hi:=n9 hb.isb hrg (by omega:0≤b.h) (abv b.nodes a.toNat).length (Nat.le_refl _);have hl:(abv b.nodes a.toNat).length≤b.nodes.length+1:=im _ _ _;unfold vP;exact ⟨by omega,fun x hx=>hrg x (tN _ (Nat.le_refl _) x hx),o7 _,by omega,by omega⟩
  ·exact ⟨by simp,by simp,rfl,by simp,by simp⟩
def bH (b:Bk) (s:Stt) (hv:V):Wx:=⟨hv,(bw b s).high,(bw b s).body,s,0,(hdK b.nodes b.w (bw b s).heads).1,[],[],0⟩
theorem DQ (b:Bk) (hb:BkFull b) (s:Stt) (hs0:0≤s.atom) (σ:af) :
 az prog 40 [.rp (bL b),br s] σ fun r σ'=>∃i1 vh hv,r=.ptr i1 0 0∧WxJ b σ i1 (bH b s hv) σ' vh .aD .aD:=by
 refine e40.r (by simp [c40]) ?_;have hs:=aa.refl σ;have hbk:bL b=.agg [aI b.nodes,vI b.w,vI b.h,bu b.atoms,aJ b.fls,vI b.height,bF b.brks]:=rfl;have hsc:(br s).cells=[vI s.atom,vI s.done, .bool s.free]:=rfl;have hss:(br s).stays=true:=rfl;have hln:=iB b.atoms;have hlen:=hb.len;refine ad.mix 11 ?_;apply sR;simp only [go_sem,seval,c40,hsc,hss];refine ae fun i3 σ3 s3 a3 f3=>?_;have z3:=hs.none f3;replace hs:=hs.trans s3;rw [br] at a3;simp only [go_sem,seval,a3,hbk];refine bC fun i19 σ19 s19 a19 f19=>?_;have n319:=ao a3 f19;replace a3:=s19 _ _ a3;have z19:=hs.none f19;replace hs:=hs.trans s19;have hr:=ry hb s;unfold bH;have hJ0:∀(hv:V) (k:Kp) (τ:af),τ i19=some (cQ b ⟨hv,k.high,k.body,s,0,[],[],[],0⟩ .aD .aD .aD)→aa σ τ→WxJ b σ i19 ⟨hv,k.high,k.body,s,0,[],[],[],0⟩ τ .aD .aD .aD:=fun hv k τ h h2 =>
  ⟨h,aM.start,aM.start,aM.start,du.aD _,du.aD _,du.aD _,h2,z19⟩
 have fin:∀(S:Nat→V) (τ:af) (hv:V),dD false hv=some (.int .i64 (bw b s).heads.length)→(∀(j:Nat) (h:j < (bw b s).heads.length) (σ:af),bD σ 1 hv (.int .i64 j)=some (.rp (vI (bw b s).heads[j]))) →
  τ i19=some (cQ b ⟨hv,(bw b s).high,(bw b s).body,s,0,[],[],[],0⟩ .aD .aD .aD)→aa σ τ→S 0=.rp (bL b)→S 5=.ptr i19 0 0→S 7=vI 0→S 57=hv→S 58=vI (bw b s).heads.length→S 59=vI 0 →
  ad prog 96 [It.code c40.code.rt.rt.rt.rt.lt.rt.bd,It.inBlock 0,It.code c40.code.rt.rt.rt.rt.rt] ⟨S,τ⟩ fun st=>Ret [.tmp (.t 4)] st fun r σ'=>∃i1 vh hv,r=.ptr i1 0 0∧WxJ b σ i1 ⟨hv,(bw b s).high,(bw b s).body,s,0,(hdK b.nodes b.w (bw b s).heads).1,[],[],0⟩ σ' vh .aD .aD:=by
  intro S τ hv hlL hix h19 hsτ t0 t5 t7 t57 t58 t59;have hJ:=hJ0 _ _ _ h19 hsτ;clear hJ0 h19 hsτ hs a3 a19;generalize bw b s=k at *;obtain ⟨L,high,body⟩:=k;obtain ⟨r1,r2,r3,⟨r4,r5⟩,_⟩:=hr;simp only at r1 r2 r3 r4 r5 hJ hlL hix t58 ⊢;have hh0:∀a∈L,0≤(stA b.nodes a).head:=fun a ha=>by
   obtain ⟨n,rfl,hn⟩:=r2 a ha;rw [iP hn]; exact (fM hb.isb hn).st.head.1
  have a19:=hJ.row;rw [cQ] at a19;refine ad.mix 60 ?_;simp only [c40,bB.rt,bB.lt,bB.bd];refine ad.loop (fun m st=>∃(j:Nat) (vh:V),j≤L.length∧m=L.length - j∧WxJ b σ i19 ⟨hv,high,body,s,0,(hdK b.nodes b.w (L.take j)).1,[],[],0⟩ st.σ vh .aD .aD∧st.s 0=.rp (bL b)∧st.s 5=.ptr i19 0 0∧st.s 7=vI (hdK b.nodes b.w (L.take j)).2∧st.s 57=hv∧st.s 58=vI L.length∧st.s 59=vI j) L.length ?_ ?_
  ·exact ⟨0, .aD,by omega,rfl,hJ,t0,t5,t7,t57,t58,t59⟩
  ·clear hJ a19 t0 t5 t7 t57 t58 t59;rintro m ⟨S,τ⟩ ⟨j,vh,hj,rfl,hJ,t0,t5,t7,t57,t58,t59⟩;simp only at hJ t0 t5 t7 t57 t58 t59;refine ad.mix 60 ?_;by_cases hlt:j < L.length
   ·have q:((j:Int) < L.length)=True:=eq_true (by omega);obtain ⟨n,hn,hnl⟩:=r2 _ (List.getElem_mem hlt);have hidx:=hix j hlt;have hnd:=fun σ=>iO b.nodes hnl σ;have iC:=B6 b.nodes b.w L hh0 j;have hsum1:=B6 b.nodes b.w L hh0 (j+1);have hlk:=Bv b.nodes b.w (L.take j);have hlt2:(L.take j).length=j:=by rw [List.length_take]; omega
    have htk:L.take (j+1)=L.take j++[(n:Int)]:=by rw [List.take_succ_eq_append_getElem hlt,hn]
    have hstep:hdK b.nodes b.w (L.take (j+1))=hdS b.nodes b.w (hdK b.nodes b.w (L.take j)) n:=by rw [htk,x4]
    rw [r3] at iC hsum1;rw [hstep] at hsum1;rw [hn] at hidx;generalize hdK b.nodes b.w (L.take j)=X at *;obtain ⟨F,y⟩:=X;simp only [hdS,iP hnl] at iC hsum1 hlk hJ t7 hstep;have q1:inR .i64 (y+b.nodes[n].st.head):=ak (by omega) (by omega);have q2:inR .i64 ((j:Int)+1):=ak (by omega) (by omega);have a19:=hJ.row;rw [cQ] at a19;obtain ⟨cv,sv⟩:=hJ.oh.vc;generalize b.nodes[n]=nd at *;have hs:=aa.refl τ;apply sR;simp only [go_sem,seval,t0,t5,t7,t57,t58,t59,q,hidx,hnd,Nd.cells,a19,hbk,L3,cv,sv];refine bC fun i86 σ86 s86 a86 f86=>?_;have hJ5:=hJ.mono s86;obtain ⟨idA,hda,hgr⟩:=xK hJ5.sub hJ5.no hJ5.row hJ5.oh;have hfl:(F.map aW).length≤1000000:=by rw [List.length_map]; omega
    generalize hrw:F.map aW=rows at *;have hb2:(rows.length+1)*57≤140737488355328:=by omega
    simp only [go_sem,seval,hda,dk a86,hb2];refine jr fun i87 σ87 s87 a87 f87=>?_;obtain ⟨b1,hg⟩:=hgr σ87 i87 _ s87 a87 f87;rw [cQ] at b1;obtain ⟨g1,g2,g3⟩:=hg (cQ b ⟨hv,high,body,s,0,F++[⟨n, -1,0,0,y,b.w,nd.st.head⟩],[],[],0⟩ (.own i87 0 (rows.length+1)) .aD .aD);simp only [go_sem,seval,b1,t0,t5,t7,t57,t58,t59,cv,sv,q1,q2];refine ⟨_,?_,j+1, .own i87 0 (rows.length+1),by omega,rfl,?_,rfl,?_,rfl⟩
    ·omega
    ·rw [hstep];rw [List.length_append] at g2;refine ⟨ag,?_,aM.start,aM.start,(du.aD _).symm,(du.aD _).symm,du.aD _,g1,hJ.no⟩;show aM _ _ _ _ _ ((F++[_]).map aW);rw [List.map_append,hrw];exact g2
    ·rw [hstep]
   ·have q:((j:Int) < L.length)=False:=eq_false (by omega);have hje:j=L.length:=by omega
    rw [hje,List.take_length] at hJ;apply sR;simp only [go_sem,seval,t0,t5,t7,t57,t58,t59,q];exact ⟨_,_,aa.refl _,Wk.refl (aa.refl _) _,i19,vh,hv,rfl,hJ⟩
 by_cases he:b.atoms=[]
 ·have q:((b.atoms.length:Int) > 0)=False:=by rw [he]; simp
  have hre:bw b s=⟨[],0,b.h⟩:=if_pos he;simp only [go_sem,seval,a19,a3,fI,hln,hbk,q];rw [hre] at fin ⊢;rw [←hbk] at a19;refine fin _ _ .aD rfl (fun j h=>by simp at h) a19 hs ?_ ?_ ?_ ?_ ?_ ?_ <;> rfl
 ·have hl0:0 < b.atoms.length:=List.length_pos_iff.2 he;have q:((b.atoms.length:Int) > 0)=True:=eq_true (by omega);have r1:inR .i64 ((b.atoms.length:Int) - 1):=ak (by omega) (by omega);obtain ⟨k,hk⟩:∃k:Nat,min s.atom ((b.atoms.length:Int) - 1)=k:=⟨(min s.atom ((b.atoms.length:Int) - 1)).toNat,by omega⟩
  have hkl:k < b.atoms.length:=by omega
  have hidx:=fun σ=>gV (σ:=σ) hkl;have hre:bw b s=qJ b.nodes b.atoms[k].node b.h:=by rw [bw,if_neg he,hk,bn hkl]
  have hc:=Mp b.nodes hb.rC b.atoms[k].node b.h;rw [←hre] at hc;simp only [go_sem,seval,a19,a3,fI,hln,hbk,q,dc];refine ad.qS (by kernel_rfl) [0,1,2,3,4,5,6,7,8,9,10,11,12,13,14,15,16,17,18,19,20,21,22,23,24,25] [[],[],[1],[1,2],[1,2,3],[],[5],[5,6],[5,6,7],[5,6,7,8],[],[10],[],[12],[10,11,12,13],[5,6,7,8,9,10,11,12,13,14],[5,6,7,8,9,10,11,12,13,14,15],[5,6,7,8,9,10,11,12,13,14,15,16],[],[18],[18,19],[18,19,20],[1,2,3,4,5,6,7,8,9,10,11,12,13,14,15,16,17,18,19,20,21],[0,1,2,3,4,5,6,7,8,9,10,11,12,13,14,15,16,17,18,19,20,21,22],[0,1,2,3,4,5,6,7,8,9,10,11,12,13,14,15,16,17,18,19,20,21,22,23],[0,1,2,3,4,5,6,7,8,9,10,11,12,13,14,15,16,17,18,19,20,21,22,23,24]] [0,2,4,6,8,10,12,14,16,18,20,22,24,26,28,30,32,34,36,38,40,42,44,46,48,50] (by kernel_rfl) (by kernel_rfl) ?_;refine RE.seg (n:=0) [44,46,48,50] [0,2,4,6,8,10,12,14,16,18,20,22,24,26,28,30,32,34,36,38,40,42] [⟨(.some 28),(.mov (.t 5)),.none⟩,⟨(.some 29),(.mov (.t 0)),.none⟩,⟨(.some 30),(.nilCheck (.t 29)),.none⟩,⟨(.some 31),(.fldA .false 0 1 (.t 30)),.none⟩,⟨(.some 32),(.load .false 1 (.t 31)),.none⟩,⟨(.some 33),(.mov (.t 0)),.none⟩,⟨(.some 34),(.nilCheck (.t 33)),.none⟩,⟨(.some 35),(.fldA .true 3 3 (.t 34)),.none⟩,⟨(.some 36),(.fldA .false 0 1 (.t 35)),.none⟩,⟨(.some 37),(.load .false 1 (.t 36)),.none⟩,⟨(.some 38),(.fldA .false 0 1 (.t 3)),.none⟩,⟨(.some 39),(.load .false 1 (.t 38)),.none⟩,⟨(.some 40),(.mov (.t 6)),.none⟩,⟨(.some 41),(.bin .sub (.t 40) (.c (.int .i64 1))),.none⟩,⟨(.some 42),(.minmax .false (.t 39) (.t 41)),.none⟩,⟨(.some 43),(.idxA 8 (.t 37) (.t 42)),.none⟩,⟨(.some 44),(.fldA .false 1 1 (.t 43)),.none⟩,⟨(.some 45),(.load .false 1 (.t 44)),.none⟩,⟨(.some 46),(.mov (.t 0)),.none⟩,⟨(.some 47),(.nilCheck (.t 46)),.none⟩,⟨(.some 48),(.fldA .false 2 1 (.t 47)),.none⟩,⟨(.some 49),(.load .false 1 (.t 48)),.none⟩] rfl rfl ?_;apply sG;simp only [go_sem,seval,a19,a3,hbk,fI,L3,r1,eI,hk,hidx,dd];rw [sP] at hc;refine RE.ay rfl rfl rfl rfl rfl (hc _) ?_;refine RE.seg (n:=0) [] [46,48,50] [⟨(.some 51),(.nilCheck (.t 28)),.none⟩,⟨(.some 52),(.fldA .true 0 3 (.t 51)),.none⟩,⟨.none,(.store 3 (.t 52) (.t 50)),.none⟩] rfl rfl ?_;apply sG;simp only [go_sem,seval,a19,aj,al];have hlL:=eY (bw b s).heads;apply sR;simp only [go_sem,seval,hlL];rw [←hbk];refine fin _ _ (bj (bw b s).heads) hlL (fun j h σ=>gF h) ag (hs.aB z19) ?_ ?_ ?_ ?_ ?_ ?_ <;> rfl
open Go.Proofs Go.Proofs.Tryz
theorem bkE (b:Bk):bL b=.agg [aI b.nodes,vI b.w,vI b.h,bu b.atoms,aJ b.fls,vI b.height,bF b.brks]:=rfl
theorem rk (b:Bk) (hb:1≤b.h):aU prog 31 [.rp (bL b)] (.bool false):=fun σ=>by
 refine e31.r (by simp [c31]) ?_;have q:(b.h=0)=False:=eq_false (by omega);refine ad.mix 3 ?_;apply sR;simp only [go_sem,seval,c31,bkE,q,Bz];exact ar.same rfl
theorem CG (b:Bk) (hb:BkFull b) (σ:af):az prog 65 [.rp (bL b)] σ fun r σ'=>aa σ σ'∧aM σ σ' 67 3 r (b.brks.map eL):=by
 refine e65.r (by simp [c65]) ?_;have h1:=hb.brk;have h2:=hb.len;refine ad.mix 3 ?_;apply sR;simp only [go_sem,seval,c65];refine ad.ay rfl rfl rfl (rk b hb.h1 _) ?_;apply sR;simp only [go_sem,seval,bkE,Fx];refine ad.call rfl rfl rfl (sM func97 (e97.b.trans rfl) e97.c (b.brks.map eL) (by simp; omega) _) ?_;rintro r σ' ⟨hs,ho⟩;apply sR;simp only [go_sem,seval];exact ⟨_,_,aa.refl _,Wk.refl (aa.refl _) _,hs,ho⟩
def sC (b:Bk):V:=.agg [bu b.atoms,aJ b.fls,vI b.height]
theorem CT (b:Bk) (hb:BkFull b):aU prog 9 [.rp (bL b)] (sC b):=fun σ=>by
 refine e9.r (by simp [c9]) ?_;have hs:=aa.refl σ;have h2:=hb.len;have h3:=hb.flen;refine ad.mix 4 ?_;apply sR;simp only [go_sem,seval,c9];refine ae fun i2 σ2 s2 a2 f2=>?_;have z2:=hs.none f2;replace hs:=hs.trans s2;simp only [go_sem,seval];refine ad.ay rfl rfl rfl (rk b hb.h1 _) ?_;apply sR;simp only [go_sem,seval,bkE];refine ae fun i3 σ3 s3 a3 f3=>?_;have n23:=ao a2 f3;replace a2:=s3 _ _ a2;have z3:=hs.none f3;replace hs:=hs.trans s3;simp only [go_sem,seval,a3,av,aQ,ax,aS];generalize hq3:upd _ i3 _=τ3;replace a3:=(congrFun hq3 i3).symm.trans ag;replace a2:=((congrFun hq3 i2).symm.trans (ab n23)).trans a2;replace hs:=Eq.subst (motive:=aa _) hq3 (hs.aB z3);clear hq3;refine Go.cp rfl rfl rfl (EA b.atoms (by omega)) ?_;apply sG;simp only [go_sem,seval,a3];refine Go.cp rfl rfl rfl (xc b.fls (by omega)) ?_;apply sG;simp only [go_sem,seval,a3,a2,av,aQ,ax,aS,ab n23,ab n23];exact ar.pure ((hs.aB z3).aB z2) rfl
theorem Dz (b:Bk) (hb:BkFull b):aU prog 10 [.rp (bL b)] (cO ⟨⟨0,0,true⟩,[]⟩):=fun σ=>by
 refine e10.r (by simp [c10]) ?_;have hs:=aa.refl σ;refine ad.mix 4 ?_;apply sR;simp only [go_sem,seval,c10];refine ae fun i2 σ2 s2 a2 f2=>?_;have z2:=hs.none f2;replace hs:=hs.trans s2;simp only [go_sem,seval];refine ad.ay rfl rfl rfl (rk b hb.h1 _) ?_;apply sR;simp only [go_sem,seval,a2];refine ⟨_,σ,hs.aB z2,Wk.agg (vs':=[vI 0,vI 0, .bool true,aJ []]) ⟨Wk.refl (hs.aB z2) _,Wk.refl (hs.aB z2) _,Wk.refl (hs.aB z2) _,Wk.aD 7,trivial⟩,rfl,rfl⟩
theorem ou (a:Flo):∀(p:List Flo) (i:Nat),kg a p i = -1∨∃k:Nat,kg a p i=((i+k:Nat):Int)∧k < p.length
 | [],_=>.inl rfl
 | q::r,i=>by
   rw [kg];split
   ·exact .inr ⟨0,rfl,by simp⟩
   ·rcases ou a r (i+1) with h | ⟨k,h1,h2⟩
    ·exact .inl h
    ·exact .inr ⟨k+1,by rw [h1]; congr 1; omega,by simp; omega⟩
def kM (fls:List Flo):List Flo→Nat→Bool
 | [],_=>true
 | x::r,at'=>if kg x (fls.drop at') 0 < 0 then false else kM fls r (at'+(kg x (fls.drop at') 0).toNat+1)
def gM (b:Bk) (s:Sta):Prop:=kM b.fls s.bJ 0=true∧(dt b.atoms s.s∨s.s.atom=b.atoms.length∧s.s.done=0)
instance (b:Bk) (s:Sta):Decidable (gM b s):=by unfold gM; infer_instance
theorem GX (b:Bk) (hb:BkFull b) (s:Sta) (hp:s.bJ.length≤1000000):aU prog 34 [.rp (bL b),cO s] (.bool (decide (gM b s))):=fun σ=>by
 refine e34.r (by simp [c34]) ?_;have hs:=aa.refl σ;have h2:=hb.len;have h3:=hb.flen;have hlp:=fF s.bJ;have hla:=iB b.atoms;refine ad.mix 13 ?_;apply sR;simp only [go_sem,seval,c34,cO,aQ,aS];refine ae fun i3 σ3 s3 a3 f3=>?_;have z3:=hs.none f3;replace hs:=hs.trans s3;simp only [go_sem,seval,a3,hlp];refine ad.loop (fun m st=>∃(j at':Nat),j≤s.bJ.length∧m=s.bJ.length - j∧at'≤b.fls.length∧kM b.fls s.bJ 0=kM b.fls (s.bJ.drop j) at'∧aa σ st.σ∧st.σ i3=some ⟨27,4,[.agg [vI s.s.atom,vI s.s.done, .bool s.s.free,aJ s.bJ]]⟩∧st.s 0=.rp (bL b)∧st.s 3=.ptr i3 0 0∧st.s 5=vI at'∧st.s 10=aJ s.bJ∧st.s 11=vI s.bJ.length∧st.s 12=vI j) s.bJ.length ?_ ?_
 ·exact ⟨0,0,by omega,rfl,by omega,rfl,hs,a3,rfl,rfl,rfl,rfl,rfl,rfl⟩
 ·clear hs a3;rintro m ⟨S,τ⟩ ⟨j,at',hj,rfl,hat,heq,hs,a3,t0,t3,t5,t10,t11,t12⟩;simp only at hs a3 t0 t3 t5 t10 t11 t12;refine ad.mix 13 ?_;by_cases hlt:j < s.bJ.length
  ·have q:((j:Int) < s.bJ.length)=True:=eq_true (by omega);have hidx:=fun σ=>jK (σ:=σ) hlt;have hfl:aO s.bJ[j]=.agg [vI s.bJ[j].node,vI s.bJ[j].side,vI s.bJ[j].anchor,vI s.bJ[j].x,vI s.bJ[j].y,vI s.bJ[j].w,vI s.bJ[j].h]:=rfl;have hd:s.bJ.drop j=s.bJ[j]::s.bJ.drop (j+1):=List.drop_eq_getElem_cons hlt;rw [hd,kM] at heq;have hsl:=pc hat;generalize s.bJ[j]=f at *;have hic:=F1 (b.fls.drop at') (by rw [List.length_drop]; omega) f;rw [hfl] at hic;have r1:inR .i64 ((j:Int)+1):=ak (by omega) (by omega);apply sR;simp only [go_sem,seval,t0,t3,t5,t10,t11,t12,q,hidx,hfl];refine ae fun i7 σ7 s7 a7 f7=>?_;have n37:=ao a3 f7;replace a3:=s7 _ _ a3;have z7:=hs.none f7;replace hs:=hs.trans s7;simp only [BB,seval,←decide_not,bp,eQ,aE,cG,eG,ed,eF,dQ,cd,kv,gr,bE,fL,dM,eB,cK,bx,ir,de,cI,cc,eff,kc,da,bS,jS,dT,cj,dO,cU,kP,binBV,bT,dq,V.cells,V.stays,a7,bkE,B8,t0,t3,t5,t10,t11,t12,hsl];generalize hq7:upd _ i7 _=τ7;replace a7:=(congrFun hq7 i7).symm.trans ag;replace a3:=((congrFun hq7 i3).symm.trans (ab n37)).trans a3;replace hs:=Eq.subst (motive:=aa _) hq7 (hs.aB z7);clear hq7;refine Go.cp rfl rfl rfl hic ?_;have hln:(b.fls.drop at').length=b.fls.length - at':=List.length_drop;rcases ou f (b.fls.drop at') 0 with h | ⟨k,h,hk⟩
   ·rw [h] at heq ⊢;rw [if_pos (by omega)] at heq;have hf:decide (gM b s)=false:=decide_eq_false fun hm=>by rw [gM,heq] at hm; cases hm.1
    apply sG;simp only [go_sem,seval,t0,t3,t5,t10,t11,t12];rw [hf];exact ar.pure hs rfl
   ·rw [h,Nat.zero_add] at heq ⊢;rw [if_neg (by omega),Int.toNat_natCast] at heq;have q1:((k:Int) < 0)=False:=eq_false (by omega);have r2:inR .i64 ((k:Int)+1):=ak (by omega) (by omega);have r3:inR .i64 ((at':Int)+(k+1)):=ak (by omega) (by omega);apply sG;simp only [go_sem,seval,t0,t3,t5,t10,t11,t12,q1,r1,r2,r3];refine ⟨_,?_,j+1,at'+k+1,by omega,rfl,by omega,heq,hs,a3,rfl,?_,rfl⟩
    ·omega
    ·show V.int _ _=V.int _ _;congr 1
  ·have q:((j:Int) < s.bJ.length)=False:=eq_false (by omega);have hje:j=s.bJ.length:=by omega
   rw [hje,List.drop_length,kM] at heq;have hmc:=pD b.atoms s.s;rw [br] at hmc;apply sR;simp only [go_sem,seval,t0,t3,t5,t10,t11,t12,q,a3,bkE,fI];refine Go.cp rfl rfl rfl hmc ?_;have fin:∀v:Bool,decide (gM b s)=v→ar (.bool v) τ fun r σ'=>r=.bool (decide (gM b s))∧σ'=σ:=fun v h=>by rw [h]; exact ar.pure hs rfl
   by_cases hm:dt b.atoms s.s
   ·have f:=fin true (decide_eq_true ⟨heq, .inl hm⟩);rw [decide_eq_true hm];generalize decide (gM b s)=B at *;apply sG;simp only [go_sem,seval];exact f
   rw [decide_eq_false hm];by_cases ha:s.s.atom=b.atoms.length
   ·by_cases hd:s.s.done=0
    ·have f:=fin true (decide_eq_true ⟨heq, .inr ⟨ha,hd⟩⟩);generalize decide (gM b s)=B at *;have q1:(s.s.atom=(b.atoms.length:Int))=True:=eq_true ha;have q2:(s.s.done=0)=True:=eq_true hd;apply sG;simp only [go_sem,seval,t0,t3,a3,bkE,fI,hla,q1,q2];exact f
    ·have f:=fin false (decide_eq_false fun h=>by rcases h.2 with h | h; exact hm h; exact hd h.2)
     generalize decide (gM b s)=B at *;have q1:(s.s.atom=(b.atoms.length:Int))=True:=eq_true ha;have q2:(s.s.done=0)=False:=eq_false hd;apply sG;simp only [go_sem,seval,t0,t3,a3,bkE,fI,hla,q1,q2];exact f
   ·have f:=fin false (decide_eq_false fun h=>by rcases h.2 with h | h; exact hm h; exact ha h.1)
    generalize decide (gM b s)=B at *;have q1:(s.s.atom=(b.atoms.length:Int))=False:=eq_false ha;apply sG;simp only [go_sem,seval,t0,t3,a3,bkE,fI,hla,q1];exact f
def ej (b:Bk) (s:Sta):Prop:=¬gM b s∨s.s.atom=b.atoms.length∧s.s.free=false∧s.bJ=[]
instance (b:Bk) (s:Sta):Decidable (ej b s):=by unfold ej; infer_instance
theorem BF (b:Bk) (hb:BkFull b) (s:Sta) (hp:s.bJ.length≤1000000):aU prog 11 [.rp (bL b),cO s] (.bool (decide (ej b s))):=fun σ=>by
 refine e11.r (by simp [c11]) ?_;have hs:=aa.refl σ;have h2:=hb.len;have hlp:=fF s.bJ;have hla:=iB b.atoms;have hmc:=GX b hb s hp;rw [cO] at hmc;refine ad.mix 5 ?_;apply sR;simp only [go_sem,seval,c11,cO,aQ,aS];refine ae fun i3 σ3 s3 a3 f3=>?_;have z3:=hs.none f3;replace hs:=hs.trans s3;simp only [go_sem,seval];refine ad.ay rfl rfl rfl (rk b hb.h1 _) ?_;apply sR;simp only [go_sem,seval,a3];refine ad.ay rfl rfl rfl (hmc _) ?_;have fin:∀v:Bool,decide (ej b s)=v→ar (.bool v) σ3 fun r σ'=>r=.bool (decide (ej b s))∧σ'=σ:=fun v h=>by rw [h]; exact ar.pure hs rfl
 by_cases hm:gM b s
 ·rw [decide_eq_true hm];by_cases ha:s.s.atom=b.atoms.length
  ·have q1:(s.s.atom=(b.atoms.length:Int))=True:=eq_true ha;by_cases hf:s.s.free=true
   ·have f:=fin false (decide_eq_false fun h=>by rcases h with h | h; exact h hm; rw [hf] at h; cases h.2.1)
    generalize decide (ej b s)=B at *;rw [hf] at a3;apply sR;simp only [go_sem,seval,a3,bkE,fI,hla,q1];exact f
   ·have hf':s.s.free=false:=by simpa using hf
    by_cases hn:s.bJ=[]
    ·have f:=fin true (decide_eq_true (.inr ⟨ha,hf',hn⟩));generalize decide (ej b s)=B at *;have q2:((s.bJ.length:Int)=0)=True:=eq_true (by rw [hn]; rfl);rw [hf'] at a3;apply sR;simp only [go_sem,seval,a3,bkE,fI,hla,q1,hlp,q2];exact f
    ·have f:=fin false (decide_eq_false fun h=>by rcases h with h | h; exact h hm; exact hn h.2.2)
     generalize decide (ej b s)=B at *;have q2:((s.bJ.length:Int)=0)=False:=eq_false (by have:=List.length_pos_iff.2 hn; omega);rw [hf'] at a3;apply sR;simp only [go_sem,seval,a3,bkE,fI,hla,q1,hlp,q2];exact f
  ·have f:=fin false (decide_eq_false fun h=>by rcases h with h | h; exact h hm; exact ha h.1)
   generalize decide (ej b s)=B at *;have q1:(s.s.atom=(b.atoms.length:Int))=False:=eq_false ha;apply sR;simp only [go_sem,seval,a3,bkE,fI,hla,q1];exact f
 ·rw [decide_eq_false hm];have f:=fin true (decide_eq_true (.inl hm));generalize decide (ej b s)=B at *;apply sR;simp only [go_sem,seval];exact f
open Go.Proofs Go.Proofs.Tryz
structure Pag where
 (no kind:Int)
 (hs fs ls:List Frg)
def aT (l:List Frg):V:=.sl 7 (l.map aW)
def bI (p:Pag):V:=.agg [vI p.no,vI p.kind,aT p.hs,aT p.fs,aT p.ls]
theorem qT {s:Nat→V} {σ:af} {a1 a2:Bool} {n1 n2 d e t:Nat} {Post:V→af→Prop} :
 Ret [.cell a1 n1 (.t d), .cell a2 n2 (.t e), .tmp (.t t)] ⟨s,σ⟩ Post=dz (bN σ a1 n1 (s d)) fun v=>dz (bN σ a2 n2 (s e)) fun w=>ar (.tup [v,w,s t]) σ Post:=by
 unfold Ret ar mD;simp only [et,fY,VX.ev];cases bN σ a1 n1 (s d) <;> cases bN σ a2 n2 (s e) <;> simp [dz]
theorem rf {body:Int}:∀(l:List Flo) (sh:Int),0≤sh→sh≤body→(∀f∈l,0≤f.h)→(cB body l sh).1.length≤l.length∧(∀m∈(cB body l sh).1,0≤m.y∧m.y≤body)∧0≤(cB body l sh).2.2∧(cB body l sh).2.2≤body
 | [],sh,h0,h1,_=>by simp [cB]; omega
 | f::r,sh,h0,h1,hh=>by
   rw [cB];have hf:=hh f (by simp);split
   ·simp; omega
   ·rename_i hc;obtain ⟨g1,g2,g3,g4⟩:=rf (body:=body) r (sh+min f.h body) (by omega) (by omega) (fun g hg=>hh g (by simp [hg]));refine ⟨by simp; omega,fun m hm=>?_,g3,g4⟩;rcases List.mem_cons.1 hm with rfl | hm
    ·simp only; omega
    ·exact g2 m hm
theorem Af {l:List Nd} {x:Kp} {a:Int} (h:1≤x.body):1≤(iI l x a).body:=by
 unfold iI;split
 ·exact h
 ·simp only; omega
theorem pg {l:List Nd} {L:List Int} {h:Int} (hh:1≤h):∀m,1≤(fQ l L h m).body
 | 0=>hh
 | m+1=>Af (pg hh m)
theorem gg {b:Bk} (hb:BkFull b) (s:Stt) (h0:0≤s.atom):1≤(bw b s).body:=by
 have h1:=hb.h1;unfold bw;split
 ·exact h1
 ·rename_i he;have hl0:0 < b.atoms.length:=List.length_pos_iff.2 he;obtain ⟨k,hk⟩:∃k:Nat,min s.atom ((b.atoms.length:Int) - 1)=k:=⟨(min s.atom ((b.atoms.length:Int) - 1)).toNat,by omega⟩
  have hkl:k < b.atoms.length:=by omega
  have hn:=hb.nod _ (List.getElem_mem hkl);rw [hk,bn hkl];have hm:iG b.nodes b.h=true:=by simp [iG,hb.isb,hb.h1,hb.h2]
  unfold qJ;rw [if_pos ⟨hm,hn⟩];exact pg h1 _
theorem mi {fls:List Flo}:∀(p:List Flo) (at':Nat),kM fls p at'=true→∀f∈p,f∈fls
 | [],_,_,f,hf=>by cases hf
 | x::r,at',h,f,hf=>by
   rw [kM] at h;split at h
   ·cases h
   ·rename_i hk;rcases List.mem_cons.1 hf with rfl | hf
    ·have key:∀(l:List Flo) (i:Nat),¬kg f l i < 0→f∈l:=by
      intro l
      induction l with
      | nil=>intro i h; simp [kg] at h
      | cons q l ih =>
        intro i h;rw [kg] at h;split at h
        ·rename_i e; simp [e]
        ·exact List.mem_cons_of_mem _ (ih _ h)
     exact List.mem_of_mem_drop (key _ _ hk)
    ·exact mi r _ h f hf
def kO (x:Wx):Pag:=⟨0,x.kind,x.hs,x.fs,x.ls⟩
def bX (b:Bk) (s:Sta):Wx:={ (({ bH b s.s .aD with shift:=(cB (bw b s.s).body s.bJ 0).2.2 }:Wx).put (cB (bw b s.s).body s.bJ 0).1) with kind:=0 }
def mJ (b:Bk) (s:Sta):Prop:=s.s.atom=b.atoms.length∨(cB (bw b s.s).body s.bJ 0).2.1≠[]∨(cB (bw b s.s).body s.bJ 0).2.2 > 0∧ia b.atoms s.s > (bw b s.s).body - (cB (bw b s.s).body s.bJ 0).2.2
instance (b:Bk) (s:Sta):Decidable (mJ b s):=by unfold mJ; infer_instance
def bc (b:Bk) (s:Sta):Pag×Sta :=
 if b.atoms=[]∧s.s.free=true then (kO (u5 b (bH b s.s .aD)),jA b (bH b s.s .aD))
 else if mJ b s then (kO { bX b s with kind:=2 },⟨⟨s.s.atom,s.s.done,s.s.free && decide (s.s.atom < b.atoms.length)⟩,(cB (bw b s.s).body s.bJ 0).2.1⟩)
 else (kO (dB b (bX b s)),ek b (bX b s))
theorem pZ (b:Bk) (x:Wx) (h:V):kO (dB b { x with heads:=h })=kO (dB b x)∧ek b { x with heads:=h }=ek b x:=by
 unfold dB ek;by_cases hc:eW b.brks x.s.atom (dP b x)
 ·rw [if_pos (show eW b.brks ({ x with heads:=h }:Wx).s.atom (dP b { x with heads:=h }) from hc),if_pos (show eW b.brks ({ x with heads:=h }:Wx).s.atom (dP b { x with heads:=h }) from hc),if_pos hc,if_pos hc];exact ⟨rfl,rfl⟩
 ·rw [if_neg (show ¬eW b.brks ({ x with heads:=h }:Wx).s.atom (dP b { x with heads:=h }) from hc),if_neg (show ¬eW b.brks ({ x with heads:=h }:Wx).s.atom (dP b { x with heads:=h }) from hc),if_neg hc,if_neg hc];exact ⟨rfl,rfl⟩
theorem WxJ.aB {b:Bk} {K:af} {ix:Nat} {x:Wx} {σ:af} {vh vf vl:V} (h:WxJ b K ix x σ vh vf vl) {i:Nat} {o:Ob} (hi:K i=some o) (o':Ob):WxJ b (upd K i o') ix x (upd σ i o') vh vf vl:=by
 have hn:ix≠i:=fun e=>by have:=h.no; subst e; rw [this] at hi; cases hi
 have key:∀ {v rows},aM (aZ K ix) σ 57 7 v rows→aM (aZ (upd K i o') ix) (upd σ i o') 57 7 v rows:=fun hv=>by
  rcases hv with h | ⟨a,e,h3,h4⟩
  ·exact .inl h
  ·have hk:=(aF.1 h4).2;have ha:a≠i:=fun e=>by subst e; rw [hk] at hi; cases hi
   exact .inr ⟨a,e,(Vc.ab ha).trans h3,aF.2 ⟨(aF.1 h4).1,(Vc.ab ha).trans hk⟩⟩
 refine ⟨(Vc.ab hn).trans h.row,key h.oh,key h.of,key h.ol,h.hf,h.hl,h.fl,fun a q ha=>?_,(Vc.ab hn).trans h.no⟩;by_cases e:a=i
 ·subst e; rw [Vc.ag] at ha ⊢; exact ha
 ·rw [Vc.ab e] at ha ⊢; exact h.sub _ _ ha
theorem WxJ.ret {b:Bk} {K σ0:af} {ix:Nat} {x:Wx} {σ:af} {vh vf vl:V} (h:WxJ b K ix x σ vh vf vl) (h0:aa σ0 K) (S:V) (e:Int) :
 ar (.tup [.agg [vI 0,vI x.kind,vh,vf,vl],S,vI e]) σ fun r σ'=>r=.tup [bI (kO x),S,vI e]∧σ'=σ0:=by
 have hs:=h0.trans h.sub;have hK:aa σ0 (aZ K ix):=fun i o hh=>by
  rw [aZ,if_neg (fun e=>by rw [e] at hh; have:=h0 _ _ hh; rw [h.no] at this; cases this)]; exact h0 _ _ hh
 exact ⟨_,σ0,hs,Wk.tup (vs':=[bI (kO x),S,vI e]) ⟨Wk.agg (vs':=[vI 0,vI x.kind,aT x.hs,aT x.fs,aT x.ls]) ⟨Wk.refl hs _,Wk.refl hs _,h.oh.wk hK hs,h.of.wk hK hs,h.ol.wk hK hs,trivial⟩,Wk.refl hs _,Wk.refl hs _,trivial⟩,rfl,rfl⟩
theorem Hn (b:Bk) (hb:BkFull b) (hfh:∀f∈b.fls,0≤f.h) (s:Sta) (hp:s.bJ.length≤1000000) :
 aU prog 13 [.rp (bL b),cO s] (if ej b s then .tup [bI ⟨0,0,[],[],[]⟩,cO ⟨⟨0,0,false⟩,[]⟩,vI 4] else .tup [bI (bc b s).1,cO (bc b s).2,vI 0]):=fun σ=>by
 refine e13.r (by simp [c13]) ?_;have hs:=aa.refl σ;have h2:=hb.len;have hlp:=fF s.bJ;have hla:=iB b.atoms;have hec:=BF b hb s hp;rw [cO] at hec;refine ad.mix 12 ?_;apply sR;simp only [go_sem,seval,c13,cO,aQ,aS];refine ae fun i3 σ3 s3 a3 f3=>?_;have z3:=hs.none f3;replace hs:=hs.trans s3;simp only [go_sem,seval];refine ae fun i4 σ4 s4 a4 f4=>?_;have n34:=ao a3 f4;replace a3:=s4 _ _ a3;have z4:=hs.none f4;replace hs:=hs.trans s4;simp only [go_sem,seval];refine ae fun i5 σ5 s5 a5 f5=>?_;have n35:=ao a3 f5;replace a3:=s5 _ _ a3;have n45:=ao a4 f5;replace a4:=s5 _ _ a4;have z5:=hs.none f5;replace hs:=hs.trans s5;simp only [go_sem,seval,a3];refine ad.ay rfl rfl rfl (hec _) ?_;by_cases hm:ej b s
 ·rw [if_pos hm,decide_eq_true hm];have n54:=n45.symm;apply sR;simp only [go_sem,seval,a4,a5,ab n45,ab n54,qT];have hs':=(hs.aB (o:=⟨43,5,[.agg [vI 0,vI 0, .aD, .aD, .aD]]⟩) z4).aB (o:=⟨27,4,[.agg [vI 0,vI 0, .bool false, .aD]]⟩) z5;exact ⟨_,σ,hs',Wk.tup (vs':=[bI ⟨0,0,[],[],[]⟩,cO ⟨⟨0,0,false⟩,[]⟩,vI 4]) ⟨Wk.agg (vs':=[vI 0,vI 0,aT [],aT [],aT []]) ⟨Wk.refl hs' _,Wk.refl hs' _,Wk.aD 7,Wk.aD 7,Wk.aD 7,trivial⟩,Wk.agg (vs':=[vI 0,vI 0, .bool false,aJ []]) ⟨Wk.refl hs' _,Wk.refl hs' _,Wk.refl hs' _,Wk.aD 7,trivial⟩,Wk.refl hs' _,trivial⟩,rfl,rfl⟩
 ·rw [if_neg hm,decide_eq_false hm];have hmay:gM b s:=Decidable.byContradiction fun h=>hm (.inl h);have hnot:¬(s.s.atom=b.atoms.length∧s.s.free=false∧s.bJ=[]):=fun h=>hm (.inr h);have hat:0≤s.s.atom:=by rcases hmay.2 with h | h; exact h.1.1; omega
  have hph:∀f∈s.bJ,0≤f.h:=fun f hf=>hfh f (mi _ _ hmay.1 f hf);have hro:=ry hb s.s;have hr1:=gg hb s.s hat;have hbc:=DQ b hb s.s hat σ5;rw [br] at hbc;apply sR;simp only [go_sem,seval,a3,bkE,fI];refine ad.call rfl rfl rfl hbc ?_;rintro r σ6 ⟨i1,vh,hv,rfl,hJ⟩;have c3:=hJ.sub _ _ a3;have xs:(bH b s.s hv).s=s.s:=rfl;have xb:(bH b s.s hv).body=(bw b s.s).body:=rfl;have xh:(bH b s.s hv).high=(bw b s.s).high:=rfl;have xl:(bH b s.s hv).ls=[]:=rfl;have xf:(bH b s.s hv).fs=[]:=rfl;have xk:(bH b s.s hv).kind=0:=rfl;have hs5:aa σ σ5:=hs;by_cases h0:b.atoms=[]∧s.s.free=true
  ·obtain ⟨h01,h02⟩:=h0;have q1:((b.atoms.length:Int)=0)=True:=eq_true (by rw [h01]; rfl);rw [bc,if_pos ⟨h01,h02⟩];have hlc:=FZ b hb.toBkOk (bH b s.s hv) (by rw [xl]; simp) (by rw [xh]; have:=hro.high; omega) hJ;have e1:kO (u5 b (bH b s.s .aD))=kO (u5 b (bH b s.s hv)):=rfl;have e2:jA b (bH b s.s .aD)=jA b (bH b s.s hv):=rfl;rw [e1,e2];generalize u5 b (bH b s.s hv)=X at *;generalize jA b (bH b s.s hv)=Z at *;rw [h02] at c3;apply sR;simp only [go_sem,seval,q1,hla,c3,bkE,fI];refine ad.call rfl rfl rfl hlc ?_;rintro r σ7 ⟨vl',rfl,hJ7⟩;have d5:=hJ7.sub _ _ a5;apply sR;simp only [go_sem,seval,d5,cO,aQ,aS,dc];have hJ8:=hJ7.aB a5 ⟨27,4,[.agg [vI Z.s.atom,vI Z.s.done, .bool Z.s.free,aJ Z.bJ]]⟩;generalize hq8:upd σ7 i5 _=τ8 at *;have b1:=hJ8.row;rw [cQ] at b1;have b5:=hJ8.sub _ _ ag;have b4:=hJ8.sub i4 _ ((ab n45).trans a4);obtain ⟨ch,sh⟩:=hJ8.oh.vc;obtain ⟨cf,sf⟩:=hJ8.of.vc;obtain ⟨cl,sl⟩:=hJ8.ol.vc;have n54:=n45.symm;refine ad.qS (by kernel_rfl) [0,1,2,3,4,5,6,7] [[],[0],[0,1],[0,1,2],[],[0,1,2,3],[0,1,2,3,4,5],[0,1,2,3,4,5,6]] [0,2,4,6,8,10,9,12,14] (by kernel_rfl) (by kernel_rfl) ?_;refine RE.seg (n:=0) [9,12,14] [0,2,4,6,8,10] [⟨(.some 36),(.mov (.t 8)),.none⟩,⟨(.some 37),(.nilCheck (.t 36)),.none⟩,⟨(.some 38),(.fldA .true 7 5 (.t 37)),.none⟩,⟨(.some 39),(.load .true 5 (.t 38)),.none⟩,⟨(.some 40),(.load .true 4 (.t 5)),.none⟩,⟨.none,(.store 5 (.t 4) (.t 39)),.none⟩] rfl rfl ?_;apply sG;simp only [go_sem,seval,b1,b4,b5,ch,sh,cf,sf,cl,sl,aQ,aS,ab n54,ab n45];refine RE.chk rfl rfl rfl rfl rfl trivial (by simp only [go_sem,seval,b1,b4,b5,ab n54,ab n45]) ?_;refine RE.seg (n:=0) [] [12,14] [⟨.none,(.store 4 (.t 5) (.t 40)),.none⟩,⟨(.some 6),(.mov (.c (.int .i64 0))),.none⟩] rfl rfl ?_;apply sG;simp only [go_sem,seval,b1,b4,b5,ch,sh,cf,sf,cl,sl,aQ,aS,ab n54,ab n45];apply sR;simp only [go_sem,seval,b1,b4,b5,qT,ab n54,ab n45];exact ((hJ8.aB ((ab n45).trans a4) _).aB ((ab n54).trans ag) _).ret (((hs5.aB z5).aB z4).aB z5) _ _
  ·have hpr:bc b s=if mJ b s then (kO { bX b s with kind:=2 },⟨⟨s.s.atom,s.s.done,s.s.free && decide (s.s.atom < b.atoms.length)⟩,(cB (bw b s.s).body s.bJ 0).2.1⟩) else (kO (dB b (bX b s)),ek b (bX b s)):=by rw [bc,if_neg h0]
   have htc:=IJ s.bJ hp (bw b s.s).body hr1 (by have:=hro.body; omega) hph;obtain ⟨g1,g2,g3,g4⟩:=rf (body:=(bw b s.s).body) s.bJ 0 (Int.le_refl _) (by omega) hph;have hlc:=GQ b.atoms hb.at' s.s (by
    rcases hmay.2 with h | h
    ·have:=vq hb.toBkOk h; omega
    ·omega)
   rw [br] at hlc;have b1:=hJ.row;simp only [cQ,bH] at b1;have hfw:=Hv b hb.toBkOk;have hX:∀x:Wx,x=({ bH b s.s hv with shift:=(cB (bw b s.s).body s.bJ 0).2.2 }:Wx).put (cB (bw b s.s).body s.bJ 0).1→kO { x with kind:=2 }=kO { bX b s with kind:=2 }∧kO (dB b x)=kO (dB b (bX b s))∧ek b x=ek b (bX b s):=fun x hx=>by
    subst hx;exact ⟨rfl,(pZ b (bX b s) hv).1,(pZ b (bX b s) hv).2⟩
   have hp1:mJ b s→bc b s=_:=fun h=>hpr.trans (if_pos h);have hp2:¬mJ b s→bc b s=_:=fun h=>hpr.trans (if_neg h);clear hpr;unfold mJ at hp1 hp2;generalize bX b s=TX at *;generalize cB (bw b s.s).body s.bJ 0=T at *;obtain ⟨put,left,sh'⟩:=T;simp only at htc g1 g2 g3 g4 hX hp1 hp2;have hll:=fF left;have hq:(((b.atoms.length:Int)=0)=True∧s.s.free=false)∨(((b.atoms.length:Int)=0)=False∧True):=by
    by_cases he:b.atoms=[]
    ·exact .inl ⟨eq_true (by rw [he]; rfl),by
      cases hfr:s.s.free
      ·rfl
      ·exact absurd ⟨he,hfr⟩ h0⟩
    ·exact .inr ⟨eq_false (by have:=List.length_pos_iff.2 he; omega),trivial⟩
   rcases hq with ⟨q,hf⟩ | ⟨q,hf⟩
   all_goals
    apply sR;simp only [go_sem,seval,q,hf,hla,c3,b1,bkE,fI];refine Go.cp rfl rfl rfl htc ?_;apply sG;simp only [go_sem,seval,b1];generalize hq7:upd σ6 i1 _=τ7;have hJ7:WxJ b σ5 i1 { bH b s.s hv with shift:=sh' } τ7 vh .aD .aD:=by
     rw [←hq7]; exact hJ.set _ rfl rfl rfl
    refine ad.call rfl rfl rfl (l9 b put (by omega) { bH b s.s hv with shift:=sh' } (by simp [bH]) (fun f hf=>by
     have:=g2 f hf;have:=hro.high;have:=hro.body;exact ak (by show _≤f.y+(bw b s.s).high; omega) (by show f.y+(bw b s.s).high≤_; omega)) hJ7) ?_
    rintro - σ8 ⟨vl',hJ8⟩;obtain ⟨x1,x2,x3⟩:=hX _ rfl;have c3:=hJ8.sub _ _ a3;have d5:=hJ8.sub _ _ a5;have b1:=hJ8.row;have ys:(Wx.put { bH b s.s hv with shift:=sh' } put).s=s.s:=rfl;have yb:(Wx.put { bH b s.s hv with shift:=sh' } put).body=(bw b s.s).body:=rfl;have yh:(Wx.put { bH b s.s hv with shift:=sh' } put).high=(bw b s.s).high:=rfl;have yw:(Wx.put { bH b s.s hv with shift:=sh' } put).shift=sh':=rfl;have yf:(Wx.put { bH b s.s hv with shift:=sh' } put).fs.length≤1000000:=by simp [Wx.put,bH]
    have yl:(Wx.put { bH b s.s hv with shift:=sh' } put).ls.length≤1000000:=by simp [Wx.put,bH]; omega
    generalize Wx.put { bH b s.s hv with shift:=sh' } put=Y at *;rw [cQ] at b1;have n15:i1≠i5:=fun e=>by have:=hJ8.no; rw [e,a5] at this; cases this
    have n51:=n15.symm;have n54:=n45.symm;have r1:inR .i64 ((bw b s.s).body - sh'):=ak (by omega) (by have:=hro.body; omega);rw [←yb] at r1 hp1 hp2;by_cases hfull:s.s.atom=b.atoms.length∨left≠[]∨sh' > 0∧ia b.atoms s.s > Y.body - sh'
    ·rw [hp1 hfull,←x1];have hw:((s.s.atom=(b.atoms.length:Int))=True∧True∧True∧True)∨((s.s.atom=(b.atoms.length:Int))=False∧((left.length:Int) > 0)=True∧True∧True) ∨
      ((s.s.atom=(b.atoms.length:Int))=False∧((left.length:Int) > 0)=False∧(sh' > 0)=True∧(ia b.atoms s.s > Y.body - sh')=True):=by
      by_cases hA:s.s.atom=b.atoms.length
      ·exact .inl ⟨eq_true hA,trivial,trivial,trivial⟩
      by_cases hB:left=[]
      ·obtain ⟨hC,hD⟩:=(hfull.resolve_left hA).resolve_left (fun h=>h hB);exact .inr (.inr ⟨eq_false hA,eq_false (by rw [hB]; simp),eq_true hC,eq_true hD⟩)
      ·exact .inr (.inl ⟨eq_false hA,eq_true (by have:=List.length_pos_iff.2 hB; omega),trivial,trivial⟩)
     obtain ⟨VAL,hV⟩:∃VAL:Bool,VAL=(s.s.free && decide (s.s.atom < b.atoms.length)):=⟨_,rfl⟩
     have n13:i3≠i1:=fun e=>by have:=hJ8.no; rw [←e,a3] at this; cases this
     cases hfr:s.s.free
     all_goals
      simp only [hfr,Bool.false_and,Bool.true_and] at hV;rw [hfr] at hlc;rcases hw with ⟨qA,qB,qC,qD⟩ | ⟨qA,qB,qC,qD⟩ | ⟨qA,qB,qC,qD⟩
      all_goals
       apply sR;simp only [go_sem,seval,c3,d5,b1,hla,hll,qA,qB,qC,bkE,fI,hfr,ab n15,ab n51,ab n13,ab n35,dc,aQ,aS]
       try
        refine Go.cp rfl rfl rfl hlc ?_;apply sG;simp only [go_sem,seval,c3,d5,b1,r1,qD,hla,hll,bkE,fI,hfr,ab n15,ab n51,ab n13,ab n35,dc,aQ,aS]
       generalize hq8:upd (upd σ8 i1 _) i5 _=τ8;have hJ8:WxJ b (upd σ5 i5 ⟨27,4,[.agg [vI s.s.atom,vI s.s.done, .bool VAL,aJ left]]⟩) i1 { Y with kind:=2 } τ8 vh .aD vl':=by
        rw [←hq8,hV]; exact (hJ8.set { Y with kind:=2 } rfl rfl rfl).aB a5 _
       clear hq8;have b1:=hJ8.row;rw [cQ] at b1;have b5:=hJ8.sub _ _ ag;rw [hV] at b5;have b4:=hJ8.sub i4 _ ((ab n45).trans a4);obtain ⟨ch,sh⟩:=hJ8.oh.vc;obtain ⟨cf,sf⟩:=hJ8.of.vc;obtain ⟨cl,sl⟩:=hJ8.ol.vc;refine ad.qS (by kernel_rfl) [0,1,2,3,4,5,6,7] [[],[0],[0,1],[0,1,2],[],[0,1,2,3],[0,1,2,3,4,5],[0,1,2,3,4,5,6]] [0,2,4,6,8,10,9,12,14] (by kernel_rfl) (by kernel_rfl) ?_;refine RE.seg (n:=0) [9,12,14] [0,2,4,6,8,10] [⟨(.some 110),(.mov (.t 8)),.none⟩,⟨(.some 111),(.nilCheck (.t 110)),.none⟩,⟨(.some 112),(.fldA .true 7 5 (.t 111)),.none⟩,⟨(.some 113),(.load .true 5 (.t 112)),.none⟩,⟨(.some 114),(.load .true 4 (.t 5)),.none⟩,⟨.none,(.store 5 (.t 4) (.t 113)),.none⟩] rfl rfl ?_;apply sG;simp only [go_sem,seval,b1,b4,b5,ch,sh,cf,sf,cl,sl,aQ,aS,ab n54,ab n45];refine RE.chk rfl rfl rfl rfl rfl trivial (by simp only [go_sem,seval,b1,b4,b5,ab n54,ab n45]) ?_;refine RE.seg (n:=0) [] [12,14] [⟨.none,(.store 4 (.t 5) (.t 114)),.none⟩,⟨(.some 6),(.mov (.c (.int .i64 0))),.none⟩] rfl rfl ?_;apply sG;simp only [go_sem,seval,b1,b4,b5,ch,sh,cf,sf,cl,sl,aQ,aS,ab n54,ab n45];apply sR;simp only [go_sem,seval,b1,b4,b5,qT,ab n54,ab n45];exact ((hJ8.aB ((ab n45).trans a4) _).aB ((ab n54).trans ag) _).ret (((hs5.aB z5).aB z4).aB z5) _ _
    ·rw [hp2 hfull,←x2,←x3];have hA:¬s.s.atom=b.atoms.length:=fun h=>hfull (.inl h);have hm':dt b.atoms s.s:=hmay.2.resolve_right fun h=>hA h.1;have hw:((s.s.atom=(b.atoms.length:Int))=False∧((left.length:Int) > 0)=False∧(sh' > 0)=False∧True)∨((s.s.atom=(b.atoms.length:Int))=False∧((left.length:Int) > 0)=False∧(sh' > 0)=True∧(ia b.atoms s.s > Y.body - sh')=False):=by
      have hB:left=[]:=Decidable.byContradiction fun h=>hfull (.inr (.inl h));have hB':((left.length:Int) > 0)=False:=eq_false (by rw [hB]; simp);by_cases hC:sh' > 0
      ·exact .inr ⟨eq_false hA,hB',eq_true hC,eq_false fun h=>hfull (.inr (.inr ⟨hC,h⟩))⟩
      ·exact .inl ⟨eq_false hA,hB',eq_false hC,trivial⟩
     have hwf:=hfw Y (by rw [ys]; exact hm') yf yl (by rw [yh]; have:=hro.high; omega) (by rw [yb]; have:=hro.body; omega) (by rw [yw]; have:=hro.body; omega) hJ8;generalize dB b Y=X at *;generalize ek b Y=Z at *;rcases hw with ⟨qA,qB,qC,qD⟩ | ⟨qA,qB,qC,qD⟩
     all_goals
      apply sR;simp only [go_sem,seval,c3,hla,qA,hll,qB,qC,bkE,fI]
      try
       refine Go.cp rfl rfl rfl hlc ?_;apply sG;simp only [go_sem,seval,b1,r1,qD]
      refine ad.call rfl rfl rfl hwf ?_;rintro - σ9 ⟨vf',vl'',rfl,hJ9⟩;have e5:=hJ9.sub _ _ a5;apply sR;simp only [go_sem,seval,e5,cO,aQ,aS,dc];have hJ8:=hJ9.aB a5 ⟨27,4,[.agg [vI Z.s.atom,vI Z.s.done, .bool Z.s.free,aJ Z.bJ]]⟩;generalize hq8:upd σ9 i5 _=τ8 at *;have b1:=hJ8.row;rw [cQ] at b1;have b5:=hJ8.sub _ _ ag;have b4:=hJ8.sub i4 _ ((ab n45).trans a4);obtain ⟨ch,sh⟩:=hJ8.oh.vc;obtain ⟨cf,sf⟩:=hJ8.of.vc;obtain ⟨cl,sl⟩:=hJ8.ol.vc;refine ad.qS (by kernel_rfl) [0,1,2,3,4,5,6,7] [[],[0],[0,1],[0,1,2],[],[0,1,2,3],[0,1,2,3,4,5],[0,1,2,3,4,5,6]] [0,2,4,6,8,10,9,12,14] (by kernel_rfl) (by kernel_rfl) ?_;refine RE.seg (n:=0) [9,12,14] [0,2,4,6,8,10] [⟨(.some 117),(.mov (.t 8)),.none⟩,⟨(.some 118),(.nilCheck (.t 117)),.none⟩,⟨(.some 119),(.fldA .true 7 5 (.t 118)),.none⟩,⟨(.some 120),(.load .true 5 (.t 119)),.none⟩,⟨(.some 121),(.load .true 4 (.t 5)),.none⟩,⟨.none,(.store 5 (.t 4) (.t 120)),.none⟩] rfl rfl ?_;apply sG;simp only [go_sem,seval,b1,b4,b5,ch,sh,cf,sf,cl,sl,aQ,aS,ab n54,ab n45];refine RE.chk rfl rfl rfl rfl rfl trivial (by simp only [go_sem,seval,b1,b4,b5,ab n54,ab n45]) ?_;refine RE.seg (n:=0) [] [12,14] [⟨.none,(.store 4 (.t 5) (.t 121)),.none⟩,⟨(.some 6),(.mov (.c (.int .i64 0))),.none⟩] rfl rfl ?_;apply sG;simp only [go_sem,seval,b1,b4,b5,ch,sh,cf,sf,cl,sl,aQ,aS,ab n54,ab n45];apply sR;simp only [go_sem,seval,b1,b4,b5,qT,ab n54,ab n45];exact ((hJ8.aB ((ab n45).trans a4) _).aB ((ab n54).trans ag) _).ret (((hs5.aB z5).aB z4).aB z5) _ _
def blk (cnt:Nat→Nat) (a n:Nat):List Int:=(List.range' a n).flatMap fun i=>List.replicate (cnt i) (i:Int)
theorem jm (cnt:Nat→Nat) (a:Nat):blk cnt a 0=[]:=rfl
theorem gu (cnt:Nat→Nat) (a n:Nat):blk cnt a (n+1)=List.replicate (cnt a) (a:Int)++blk cnt (a+1) n:=by
 simp [blk,List.range'_succ]
theorem mq {f g:Nat→Nat}:∀(n a:Nat),(∀i,a≤i→i < a+n→f i=g i)→blk f a n=blk g a n
 | 0,_,_=>rfl
 | n+1,a,h=>by
   rw [gu,gu,h a (Nat.le_refl a) (by omega),mq n (a+1) (fun i h1 h2=>h i (by omega) (by omega))]
theorem yc (cnt:Nat→Nat):∀(n a m:Nat),blk cnt a (n+m)=blk cnt a n++blk cnt (a+n) m
 | 0,a,m=>by simp [jm]
 | n+1,a,m=>by
   rw [show n+1+m=(n+m)+1 by omega,gu,gu,yc cnt n (a+1) m,List.append_assoc,show a+1+n=a+(n+1) by omega]
theorem He (f g:Nat→Nat) (a n m:Nat):blk f a n++blk g (a+n) m=blk (fun i=>if i < a+n then f i else g i) a (n+m):=by
 rw [yc];congr 1
 ·exact mq n a fun i h1 h2=>by simp [h2]
 ·exact mq m (a+n) fun i h1 h2=>by simp [show ¬i < a+n by omega]
structure AtI (C:Int) (x:Atm):Prop where
 y0:0≤x.y
 y1:x.y≤C
 h0:1≤x.h
 h1:x.h≤1099511627776
theorem AtI.mono {B C:Int} {x:Atm} (h:AtI B x) (hB:B≤C):AtI C x:=⟨h.y0,Int.le_trans h.y1 hB,h.h0,h.h1⟩
theorem lA (a:Nat) (h:Int):∀(L:List Ln) (s:WS),(gv a h s L).atoms=s.atoms++L.map (eE a h)
 | [],s=>by simp [gv]
 | x::L,s=>by
   have:=lA a h L (s.put (eE a h x));simp only [gv,List.foldl_cons] at this ⊢;rw [this];simp [WS.put]
theorem Hc (a:Nat) (h:Int) (L:List Ln):(L.map (eE a h)).map (·.node)=List.replicate L.length (a:Int):=by
 rw [List.map_map]
 induction L with
 | nil=>rfl
 | cons x L ih=>rw [List.map_cons,ih]; rfl
theorem CR {l:List Nd} {a e:Nat} (he:e≤l.length) (h:bV l a e=true) (hae:a < e) (hk:(ndA l a).kind≠1):szI l a≤1:=by
 have ha:a < l.length:=by omega
 rw [iE ha] at hk;rw [bV,dif_pos hae] at h;simp only [List.getElem?_eq_getElem ha] at h;split at h
 ·simp only [Ba,Bool.or_eq_true,decide_eq_true_eq] at h;have:=h.1.1.resolve_left hk;simp only [szI,List.getElem?_eq_getElem ha,Option.map_some,Option.getD_some];omega
 ·cases h
structure yq (l:List Nd) (s t:WS) (a e C:Nat):Prop where
 at':∀x∈t.atoms,AtI (1099511627776*(C:Int)) x
 nodes:∃cnt,t.atoms.map (·.node)=s.atoms.map (·.node)++blk cnt a (e - a)∧∀i,a≤i→i < e→okN (ndA l i) (cnt i)=true
theorem yq.join {l:List Nd} {s t u:WS} {a m e C D:Nat} (h1:a≤m) (h2:m≤e) (hA:yq l s t a m C) (hB:yq l t u m e D):yq l s u a e D:=by
 obtain ⟨_,f,hf,hfo⟩:=hA;obtain ⟨hat,g,hg,hgo⟩:=hB;refine ⟨hat,fun i=>if i < m then f i else g i,?_,fun i h3 h4=>?_⟩
 ·rw [hg,hf,List.append_assoc];congr 1;obtain ⟨n,rfl⟩:∃n,m=a+n:=⟨m - a,by omega⟩
  obtain ⟨k,rfl⟩:∃k,e=a+n+k:=⟨e - (a+n),by omega⟩
  rw [show a+n - a=n by omega,show a+n+k - (a+n)=k by omega,show a+n+k - a=n+k by omega,He]
 ·simp only;split
  ·exact hfo i h3 (by omega)
  ·exact hgo i (by omega) h4
theorem qV {l:List Nd} {rs:List Rm} (hD:DOk l rs):∀(k a e:Nat) (s:WS) (C:Nat),e - a≤k→a≤e→e≤l.length→bV l a e=true→fp s C→(∀x∈s.atoms,AtI (1099511627776*(C:Int)) x)→yq l s (df l rs k a e s) a e (C+cst l a e)
 | 0,a,e,s,C,hk,hae,_,_,h,hx=>by
   obtain rfl:a=e:=by omega
   refine ⟨fun x hx'=>(hx x hx').mono (by omega),fun _=>0,by simp [df,jm],fun i h1 h2=>by omega⟩
 | k+1,a,e,s,C,hk,hae,he,hr,h,hx=>by
   rw [df];by_cases hlt:a < e
   ·rw [if_pos hlt];obtain ⟨h1,h2⟩:=cM he hr (Nat.le_refl a) hlt;obtain ⟨h3,h4⟩:=dL he hr hlt;have hno:NOk (ndA l a):=by rw [iE (by omega)]; exact fM hD.isb (by omega)
    have hc1:cst l a e=cst l a (a+(szI l a).toNat)+cst l (a+(szI l a).toNat) e:=ku (by omega) (by omega) he;have hc2:cst l a (a+(szI l a).toNat)=4+(ndA l a).words.length+cst l (a+1) (a+(szI l a).toNat):=tC (by omega) (by omega);have step:∀t,fp t (C+cst l a (a+(szI l a).toNat))→yq l s t a (a+(szI l a).toNat) (C+cst l a (a+(szI l a).toNat))→yq l s (df l rs k (a+(szI l a).toNat) e t) a e (C+cst l a e):=fun t ht hA=>by
     rw [hc1,←Nat.add_assoc];exact hA.join (by omega) (by omega) (qV hD k _ e t _ (by omega) (by omega) he h3 ht hA.at')
    have one:∀(t:WS) (n:Nat),okN (ndA l a) n=true→(szI l a).toNat=1→t.atoms.map (·.node)=s.atoms.map (·.node)++List.replicate n (a:Int)→(∀x∈t.atoms,AtI (1099511627776*((C+cst l a (a+(szI l a).toNat):Nat):Int)) x)→yq l s t a (a+(szI l a).toNat) (C+cst l a (a+(szI l a).toNat)):=fun t n hn hs1 hm hat=>by
     refine ⟨hat,fun _=>n,?_,fun i h5 h6=>?_⟩
     ·rw [hm,hs1,show a+1 - a=1 by omega,gu,jm,List.append_nil]
     ·obtain rfl:i=a:=by omega
      exact hn
    obtain ⟨⟨hf,p1,p2,p3,p4⟩,p5,p6⟩:=h;have hI:fp s C:=⟨⟨hf,p1,p2,p3,p4⟩,p5,p6⟩
    by_cases k1:(ndA l a).kind=1
    ·rw [if_pos k1];have hI2:=fS hD k (a+1) (a+(szI l a).toNat) _ _ (by omega) (by omega) (by omega) h4 (eH hI hno.st);have hA2:=qV hD k (a+1) (a+(szI l a).toNat) (s.enter (ndA l a).st) (C+2) (by omega) (by omega) (by omega) h4 (eH hI hno.st) (fun x hx'=>(hx x hx').mono (by omega));refine step _ ((jc hI2 hno.st).more (by omega)) ?_;obtain ⟨hat,cnt,hc,hco⟩:=hA2;refine ⟨fun x hx'=>(hat x hx').mono (by omega),fun i=>if i=a then 0 else cnt i,?_,fun i h5 h6=>?_⟩
     ·have e1:(s.enter (ndA l a).st).atoms=s.atoms:=rfl;rw [e1] at hc;show (df l rs k (a+1) (a+(szI l a).toNat) (s.enter (ndA l a).st)).atoms.map (·.node)=_;rw [hc];congr 1;obtain ⟨m,hm⟩:∃m,(szI l a).toNat=m+1:=⟨(szI l a).toNat - 1,by omega⟩
      rw [hm,show a+(m+1) - (a+1)=m by omega,show a+(m+1) - a=m+1 by omega,gu];simp only [if_true,List.replicate_zero,List.nil_append];exact mq m (a+1) fun i h5 h6=>by simp [show i≠a by omega]
     ·simp only;split
      ·rename_i e; subst e;simp [okN,k1]
      ·exact hco i (by omega) h6
    ·rw [if_neg k1];have hs1:(szI l a).toNat=1:=by
      have:=CR he hr hlt k1;omega
     by_cases k2:(ndA l a).kind=2
     ·rw [if_pos k2];refine step _ ((jZ hI hno a).more (by omega)) ?_;have hl:=hno.line;obtain ⟨hw0,hl1⟩:=hno.text k2;have hLl:=jj s.floats (ndA l a).words (ndA l a).space (ndA l a).line (dX rs a) (ndA l a).words.length 0 (s.pen.y+s.pen.m);have hLb:=iQ (ws:=(ndA l a).words) (space:=(ndA l a).space) (s:=dX rs a) (fun f hf'=>(hf f hf').yB) hl.1 (ndA l a).words.length 0 (s.pen.y+s.pen.m);have hLn:cX s.floats (ndA l a).words (ndA l a).space (ndA l a).line (dX rs a) (ndA l a).words.length 0 (s.pen.y+s.pen.m)≠[]:=by
       obtain ⟨m,hm⟩:∃m,(ndA l a).words.length=m+1:=⟨(ndA l a).words.length - 1,by omega⟩
       rw [hm,cX,if_pos (by omega)];simp
      have hte:(s.text rs a (ndA l a)).atoms=s.atoms++(cX s.floats (ndA l a).words (ndA l a).space (ndA l a).line (dX rs a) (ndA l a).words.length 0 (s.pen.y+s.pen.m)).map (eE a (ndA l a).line):=lA a _ _ s;generalize cX s.floats (ndA l a).words (ndA l a).space (ndA l a).line (dX rs a) (ndA l a).words.length 0 (s.pen.y+s.pen.m)=L at *;have hL0:=List.length_pos_iff.2 hLn;have hmul:(ndA l a).line*((ndA l a).words.length:Int)≤1099511627776*((ndA l a).words.length:Int):=Int.mul_le_mul_of_nonneg_right hl.2 (by omega);refine one _ L.length (by simp only [okN,k2,if_true,decide_eq_true_eq]; omega) hs1 (by rw [hte,List.map_append,Hc]) (fun x hx'=>?_);rw [hte] at hx';rcases List.mem_append.1 hx' with hx' | hx'
      ·exact (hx x hx').mono (by omega)
      ·obtain ⟨y,hy,rfl⟩:=List.mem_map.1 hx';have:=hLb y hy;refine ⟨?_,?_,hl1,hl.2⟩ <;> simp only [eE] <;> omega
     ·rw [if_neg k2];by_cases k3:(ndA l a).kind=3
      ·rw [if_pos k3];refine step _ ((j6 hI hno a).more (by omega)) ?_;have hyr:=fi (w:=(ndA l a).w) (high:=(ndA l a).h) (y:=s.pen.y+s.pen.m) (s:=dX rs a) (fun f hf'=>(hf f hf').yB);have hbx:=hno.box (.inl k3);have hh:=hno.h;refine one _ 1 (by simp [okN,k3]) hs1 (by simp [WS.mono,WS.put]) (fun x hx'=>?_);simp only [WS.mono,WS.put] at hx';rcases List.mem_append.1 hx' with hx' | hx'
       ·exact (hx x hx').mono (by omega)
       ·simp only [List.mem_singleton] at hx';subst hx';refine ⟨?_,?_,?_,?_⟩ <;> simp only <;> omega
      ·rw [if_neg k3];have k4:(ndA l a).kind=4:=by rcases hno.kind with h | h | h | h; exact absurd h k1; exact absurd h k2; exact absurd h k3; exact h
       refine step _ ((ja hD hI (by omega) hno k4).more (by omega)) ?_;exact one _ 0 (by simp [okN,k4]) hs1 (by simp [WS.float]) (fun x hx'=>(hx x hx').mono (by omega))
   ·rw [if_neg hlt];obtain rfl:a=e:=by omega
    exact ⟨fun x hx'=>(hx x hx').mono (by omega),fun _=>0,by simp [jm],fun i h1 h2=>by omega⟩
theorem F2 (i:Int) (L:List Int) (h:∀x∈L,x≠i):∀k,tG i (List.replicate k i++L)=k
 | 0=>by
   cases L with
   | nil=>rfl
   | cons x L=>rw [List.replicate_zero,List.nil_append,tG,if_neg (h x (by simp))]
 | k+1=>by rw [List.replicate_succ,List.cons_append,tG,if_pos rfl,F2 i L h k]
theorem wu {cnt:Nat→Nat}:∀ {n a:Nat} {x:Int},x∈blk cnt a n→∃i:Nat,x=i∧a≤i∧i < a+n
 | 0,_,_,h=>by simp [jm] at h
 | n+1,a,x,h=>by
   rw [gu] at h;rcases List.mem_append.1 h with h | h
   ·exact ⟨a,(List.mem_replicate.1 h).2,by omega,by omega⟩
   ·obtain ⟨i,h1,h2,h3⟩:=wu h;exact ⟨i,h1,by omega,by omega⟩
theorem y9 {cnt:Nat→Nat} {of:List Int}:∀(r:List Nd) (i at':Nat),of.drop at'=blk cnt i r.length→at'≤of.length→(∀j (h:j < r.length),okN r[j] (cnt (i+j))=true)→yF of r i at'=true
 | [],i,at',h,hl,_=>by
   have:of.length≤at':=by
    have:=congrArg List.length h;simp [jm] at this; omega
   simp [yF]; omega
 | x::r,i,at',h,hl,ho=>by
   rw [List.length_cons,gu] at h;have ht:kz of at' i=cnt i:=by
    rw [kz,h];exact F2 _ _ (fun y hy=>by obtain ⟨j,h1,h2,_⟩:=wu hy; omega) _
   rw [yF,ht];have h0:=ho 0 (by simp);simp only [List.getElem_cons_zero,Nat.add_zero] at h0;rw [h0,Bool.true_and];have hd:of.drop (at'+cnt i)=blk cnt (i+1) r.length:=by
    rw [←List.drop_drop,h,List.drop_append_of_le_length (by simp)];simp
   refine y9 r (i+1) _ hd ?_ (fun j hj=>?_)
   ·have:=congrArg List.length h;simp at this; omega
   ·have:=ho (j+1) (by simpa using hj);simp only [List.getElem_cons_succ] at this
    rwa [show i+1+j=i+(j+1) by omega]
structure LD (l:List Nd) (w:Int):Prop where
 may:px l ((cm l w).atoms.map (·.node))=true
 nod:∀a∈(cm l w).atoms,0≤a.node∧a.node < l.length
 at':∀x∈(cm l w).atoms,AtI (1099511627776*((cst l 0 l.length:Nat):Int)) x
 len:(cm l w).atoms.length≤cst l 0 l.length
 flen:(cm l w).floats.length≤cst l 0 l.length
 flo:∀f∈(cm l w).floats,FOk (1099511627776*((cst l 0 l.length:Nat):Int)) f
theorem sQ {l:List Nd} (hb:isB l=true) (hn:l.length≤2000) {w:Int} (h1:1≤w) (h2:w≤1099511627776):LD l w:=by
 have hD:=sN hb hn h1 h2;have hr:bV l 0 l.length=true:=by simp only [isB,Ba] at hb; exact hb.2
 have hI:fp ⟨[],[],0,⟨0,0⟩⟩ 0:=⟨⟨by simp,by simp,by simp,by simp,by simp⟩,by simp,by simp⟩
 have hA:=qV hD l.length 0 l.length ⟨[],[],0,⟨0,0⟩⟩ 0 (by omega) (by omega) (Nat.le_refl _) hr hI (by simp);have hJ:=fS hD l.length 0 l.length ⟨[],[],0,⟨0,0⟩⟩ 0 (by omega) (by omega) (Nat.le_refl _) hr hI;rw [Nat.zero_add] at hA hJ;have ha:(cm l w).atoms=(df l (gG l w) l.length 0 l.length ⟨[],[],0,⟨0,0⟩⟩).atoms:=rfl;have hf:(cm l w).floats=(df l (gG l w) l.length 0 l.length ⟨[],[],0,⟨0,0⟩⟩).floats.map (mP (df l (gG l w) l.length 0 l.length ⟨[],[],0,⟨0,0⟩⟩).atoms.length):=rfl;obtain ⟨hat,cnt,hc,hco⟩:=hA;rw [List.map_nil,List.nil_append,Nat.sub_zero] at hc;refine ⟨?_,fun a hm=>?_,by rw [ha]; exact hat,by rw [ha]; exact hJ.at',by rw [hf,List.length_map]; exact hJ.fl,fun f hm=>?_⟩
 ·rw [ha,hc];refine y9 (cnt:=cnt) l 0 0 (by simpa using hc) (Nat.zero_le _) (fun j hj=>?_);have:=hco j (Nat.zero_le _) hj;rw [iE hj] at this
  rwa [Nat.zero_add]
 ·have hm':a.node∈blk cnt 0 l.length:=by rw [←hc,←ha]; exact List.mem_map_of_mem hm
  obtain ⟨i,e,_,hi⟩:=wu hm';omega
 ·rw [hf] at hm;obtain ⟨g,hg,rfl⟩:=List.mem_map.1 hm;have:=hJ.bd.fl g hg;exact ⟨this.1,this.2,this.3,this.4,this.5,this.6,this.7,this.8⟩
theorem tO:∀(l:List Nd),(∀x∈l,NOk x)→((l.map fun n=>4+n.words.length).sum:Nat)≤4*(l.length:Int)+jR l∧∀x∈l,(x.words.length:Int)≤jR l
 | [],_=>by simp [jR]
 | x::l,h=>by
   obtain ⟨h1,h2⟩:=tO l (fun y hy=>h y (by simp [hy]));have hx:=h x (by simp);have hp:(x.words.length:Int)≤pof x∧0≤pof x:=by
    unfold pof;by_cases k1:x.kind=1
    ·have:=hx.nowords (by omega); simp [k1,this]
    ·by_cases k2:x.kind=2
     ·simp [k2]
     ·have:=hx.nowords k2; simp [k1,k2,this]
   have hp0:0≤jR l:=by
    have:∀l:List Nd,0≤jR l:=by
     intro l
     induction l with
     | nil=>simp [jR]
     | cons y l ih =>
       have:0≤pof y:=by unfold pof; split; omega; split; omega; omega
       simp only [jR]; omega
    exact this l
   refine ⟨by simp only [List.map_cons,List.sum_cons,List.length_cons,jR]; omega,fun y hy=>?_⟩;rcases List.mem_cons.1 hy with rfl | hy
   ·simp only [jR]; omega
   ·have:=h2 y hy; simp only [jR]; omega
structure Mx (l:List Nd):Prop where
 isb:isB l=true
 len:l.length≤2000
 words:∀x∈l,x.words.length≤2000
 cst:cst l 0 l.length≤10000
theorem mY {l:List Nd} (h:eU l=0):Mx l:=by
 unfold eU at h;split at h
 ·rename_i hb;split at h
  ·cases h
  ·rename_i hc;have hall:l.all Nd.ok=true:=by simp only [isB,Ba] at hb; exact hb.1
   rw [ig,if_pos hb,rI l hall l.length (Nat.le_refl _),List.take_length] at hc;simp only [not_or] at hc;obtain ⟨h1,h2⟩:=tO l (fun x hx=>by obtain ⟨i,hi,rfl⟩:=List.getElem_of_mem hx; exact fM hb hi);refine ⟨hb,by omega,fun x hx=>by have:=h2 x hx; omega,?_⟩;have:Vc.cst l 0 l.length=(l.map fun n=>4+n.words.length).sum:=by unfold Vc.cst; rw [List.take_length,List.drop_zero]
   omega
 ·cases h
open Go.Proofs Go.Proofs.Tryz
theorem ad.BS {P:Program} {n:Nat} {Q:St→Prop} {s:Nat→V} {σ K:af} {todo:List It} (l ds:List Nat) {e sz:Nat} {v:V} {rows:List V} (hK:aa K σ) (ho:aM K σ e sz v rows)
 (hs:∀d∈ds,s d=v) (hr:ad P n todo ⟨fun i=>if ds.contains i then .sl sz rows else zd l s i,K⟩ Q):ad P n todo ⟨s,σ⟩ Q:=by
 refine ad.weaken ⟨hK,fun i=>?_⟩ hr;show Wk σ K (s i) _;by_cases hi:ds.contains i=true
 ·simp only [if_pos hi];rw [hs i (by simpa using hi)];exact ho.wk (aa.refl K) hK
 ·simp only [if_neg hi];unfold zd;split
  ·exact Wk.refl hK _
  ·exact Wk.undef _
def ofR (l:List Nd) (w:Int):List Int:=(cm l w).atoms.map (·.node)
def bQ (l:List Nd) (w h:Int):Bk:=⟨l,w,h,(cm l w).atoms,(cm l w).floats,(cm l w).height,nD l (ofR l w)⟩
def wa (n:Int):Prop:=1≤n∧n≤1099511627776
instance (n:Int):Decidable (wa n):=by unfold wa; infer_instance
def gl (l:List Nd) (w h:Int):Int:=if ¬(wa w∧wa h) then 3 else if eU l≠0 then eU l else if (ig l).1.heights > mulR (gw l h) 32768 then 2 else 0
def CK (l:List Nd) (w h:Int):V:=if gl l w h=0 then .rp (bL (bQ l w h)) else .nilp
theorem fo.DV {K σ:af} {id:Nat} {o:Ob} (hK:K id≠none):∀ {l:List Nd} {rows:List V},fo K σ l rows→fo K (upd σ id o) l rows
 | [],[],_=>trivial
 | _::_,_::_,⟨⟨w,h1,h2⟩,h⟩=>⟨⟨w,h1,h2.ab hK⟩,fo.DV hK h⟩
 | [],_::_,h=>h.elim
 | _::_,[],h=>h.elim
theorem xO.DV {K σ:af} {id:Nat} {o:Ob} (hK:K id≠none) {v:V} {l:List Nd} (h:xO K σ v l):xO K (upd σ id o) v l:=by
 obtain ⟨rows,ho,hr⟩:=h;exact ⟨rows,ho.ab hK,hr.DV hK⟩
theorem kU {α:Type} {f:α→V} (h:∀a,(f a).ee=true):∀l:List α,fG (l.map f)=true
 | []=>rfl
 | a::l=>by simp only [List.map_cons,fG,h a,kU h l,Bool.and_self]
theorem Nh (l:List Int) (σ:af):bN σ false 1 (.rp (bj l))=some (bj l):=rfl
def tu (vn:V) (w h:Int) (va vf:V) (ht:Int) (vb:V):Ob:=⟨88,7,[.agg [vn,vI w,vI h,va,vf,vI ht,vb]]⟩
theorem DJ {σ τ:af} {ib:Nat} {b:Bk} {vn:V} (hs:aa σ τ) (z:σ ib=none) (hr:τ ib=some (tu vn b.w b.h (bu b.atoms) (aJ b.fls) b.height (bF b.brks))) (ho:xO (aZ σ ib) τ vn b.nodes) :
 ar (.tup [.ptr ib 0 0,vI 0]) τ fun r σ'=>r=.tup [.rp (bL b),vI 0]∧σ'=σ:=by
 have hN:∀id,aZ σ ib id=none→σ id=none:=fun id h=>(aF.1 h).2;have n1:fG [bu b.atoms,aJ b.fls,vI b.height,bF b.brks]=true:=by
  have a1:(bu b.atoms).ee=true:=kU (f:=dd) (fun _=>rfl) b.atoms;have a2:(aJ b.fls).ee=true:=kU (f:=aO) (fun _=>rfl) b.fls;have a3:(bF b.brks).ee=true:=kU (f:=eL) (fun _=>rfl) b.brks;simp only [fG,a1,a2,a3]; rfl
 have hf:Fz τ (fun id=>σ id=none) (.tup [.ptr ib 0 0,vI 0]) (.tup [.rp (bL b),vI 0]):=by
  refine .tup _ _ (.cons _ _ _ _ (.ptr ib 0 _ _ _ hr z rfl (.agg _ _ ?_)) (FzL.same [vI 0] rfl));exact .cons _ _ _ _ (ho.fz hN) (.cons _ _ _ _ (.same _ rfl) (.cons _ _ _ _ (.same _ rfl) (FzL.same _ n1)))
 exact ⟨_,σ,hs,hf.wk hs (fun _ h=>h),rfl,rfl⟩
theorem Mm (l:List Nd) (hl:dE l) (w h:Int):aU prog 8 [aI l,vI w,vI h] (.tup [CK l w h,vI (gl l w h)]):=fun σ=>by
 refine e8.r (by simp [c8]) ?_;have hs:=aa.refl σ;have bad:∀n:Int,gl l w h=n→n≠0→(CK l w h=.nilp∧gl l w h=n):=fun n hn h0=>⟨by rw [CK,if_neg (by rw [hn]; exact h0)],hn⟩
 refine ad.mix 16 ?_;by_cases hw:wa w
 ·have mw:=lW w;rw [show decide (1≤w∧w≤1099511627776)=true from decide_eq_true hw] at mw;apply sR;simp only [go_sem,seval,c8];refine ad.ay rfl rfl rfl (mw _) ?_;apply sR;simp only [go_sem,seval];by_cases hh:wa h
  ·have mh:=lW h;rw [show decide (1≤h∧h≤1099511627776)=true from decide_eq_true hh] at mh;refine ad.ay rfl rfl rfl (mh _) ?_;apply sR;simp only [go_sem,seval];refine ad.ay rfl rfl rfl (k0 l hl _) ?_;by_cases hc:eU l=0
   ·have q:(eU l≠0)=False:=eq_false (fun h=>h hc);have hck:=k0 l hl;rw [hc] at hck q ⊢;apply sR;simp only [go_sem,seval,q];refine ad.ay rfl rfl rfl (yi l hl _) ?_;apply sR;simp only [go_sem,seval,Sm.cells];refine ae fun i9 σ9 s9 a9 f9=>?_;have z9:=hs.none f9;replace hs:=hs.trans s9;simp only [go_sem,seval,a9];generalize hq9:upd _ i9 _=τ9;replace a9:=(congrFun hq9 i9).symm.trans ag;replace hs:=Eq.subst (motive:=aa _) hq9 (hs.aB z9);clear hq9;refine Go.cp rfl rfl rfl (Gk l hl h) ?_;apply sG;simp only [go_sem,seval];refine Go.cp rfl rfl rfl (MG (gw l h) 32768) ?_;have hE:gl l w h=if (ig l).1.heights > mulR (gw l h) 32768 then 2 else 0:=by rw [gl,if_neg (fun h=>h ⟨hw,hh⟩),if_neg (fun h=>h hc)]
    by_cases hlim:(ig l).1.heights > mulR (gw l h) 32768
    ·have q1:((ig l).1.heights > mulR (gw l h) 32768)=True:=eq_true hlim;obtain ⟨e1,e2⟩:=bad 2 (by rw [hE,if_pos hlim]) (by decide);rw [e1,e2];apply sG;simp only [go_sem,seval,a9,q1];exact ar.pure hs rfl
    have q1:((ig l).1.heights > mulR (gw l h) 32768)=False:=eq_false hlim;have e2:gl l w h=0:=by rw [hE,if_neg hlim]
    have e1:CK l w h=.rp (bL (bQ l w h)):=by rw [CK,if_pos e2]
    rw [e1,e2];obtain ⟨hisb,hn2,hwo,hcs⟩:=mY hc;have hG:=sQ hisb hn2 hw.1 hw.2;have hfl:=zL l hl hisb hn2 (fun x hx=>by have:=hwo x hx; omega) (by omega) hck w hw.1 hw.2;apply sG;simp only [go_sem,seval,a9,q1];refine ad.call rfl rfl rfl (GO l hl.1 _) ?_;rintro vn σ10 ⟨hs10,ho10⟩;replace ho10:=ho10.LP hs;replace hs:=hs.trans hs10;obtain ⟨cn,sn⟩:=ho10.vc;have hnl:=ho10.len;rw [List.length_map] at hnl;apply sR;simp only [go_sem,seval,cn,sn];refine ae fun i46 σ46 s46 a46 f46=>?_;have z46:=hs.none f46;replace hs:=hs.trans s46;have ho46:aM (aZ σ i46) σ46 73 20 vn (l.map gN):=by
     rcases ho10 with h | ⟨id,h3,h4,h5⟩
     ·exact .inl h
     ·exact .inr ⟨id,h3,s46 _ _ h4,aF.2 ⟨fun e=>(by rw [e,f46] at h4; cases h4),h5⟩⟩
    have k46:aZ σ i46 i46≠none:=fun h=>(aF.1 h).1 rfl;simp only [go_sem,seval,a46,hnl];refine ad.eS (fun st=>aa σ st.σ∧xO (aZ σ i46) st.σ vn l∧st.σ i46=some (tu vn w h .aD .aD 0 .aD)∧st.s 0=aI l∧st.s 1=vI w∧st.s 11=.ptr i46 0 0)
     (fun m st=>∃(i:Nat) (rows:List V),i≤l.length∧m=l.length - i∧aa σ st.σ∧aM (aZ σ i46) st.σ 73 20 vn rows∧rows.length=l.length∧fo (aZ σ i46) st.σ (l.take i) (rows.take i)∧rows.drop i=(l.drop i).map gN∧st.σ i46=some (tu vn w h .aD .aD 0 .aD) ∧
       st.s 0=aI l∧st.s 1=vI w∧st.s 11=.ptr i46 0 0∧st.s 51=vI l.length∧st.s 52=vI i) l.length ?_ ?_ ?_
    ·exact ⟨0,l.map gN,by omega,rfl,hs,ho46,by simp,trivial,by simp,a46,rfl,rfl,rfl,rfl,rfl⟩
    ·clear hs ho46 a46 ho10 a9;rintro m ⟨S,τ⟩ ⟨i,rows,hi,rfl,hs,ho,hn,hr,hd,hb,t0,t1,t11,t51,t52⟩;simp only at hs ho hr hb t0 t1 t11 t51 t52;refine ad.mix 60 ?_;by_cases hlt:i < l.length
     ·have q:((i:Int) < l.length)=True:=eq_true (by omega);obtain ⟨id,rfl,hid,hkid⟩:∃id,vn=.own id 0 rows.length∧τ id=some ⟨73,20,rows⟩∧aZ σ i46 id=none:=by
       rcases ho with ⟨_,h0⟩ | h
       ·rw [h0] at hn; simp at hn; omega
       ·exact h
      have hdc:(l.drop i)=l[i]::l.drop (i+1):=List.drop_eq_getElem_cons hlt;have hw':=hwo _ (List.getElem_mem hlt);have htk:l.take (i+1)=l.take i++[l[i]]:=List.take_succ_eq_append_getElem hlt;have hnd:=fun σ=>iO l hlt σ;generalize hxe:l[i]=x at *;have hrow':rows[i]?=some (.agg x.cells):=by
       have:(rows.drop i)[0]?=some (gN x):=by rw [hd,hdc]; rfl
       rw [List.getElem?_drop] at this;exact this
      have hne:id≠i46:=(aF.1 hkid).1;have hio:∀τ':af,τ' id=some ⟨73,20,rows⟩→bD τ' 20 (.own id 0 rows.length) (.int .i64 i)=some (.ptr id i 0):=fun τ' h=>jH h (by omega);have r1:inR .i64 ((i:Int)+1):=ak (by omega) (by omega);rw [tu] at hb;apply sR;simp only [go_sem,seval,t0,t1,t11,t51,t52,q,dc];refine ad.qS (by kernel_rfl) [0,1,2,3,4,5,6,7,8,9,10,11,12,13] [[],[0],[0,1],[0,1,2],[],[],[],[5,6],[5,6,7],[5,6,7,8],[5,6,7,8,9],[0,1,2,3,4,5,6,7,8,9,10],[0,1,2,3,4,5,6,7,8,9,10,11],[0,1,2,3,4,5,6,7,8,9,10,11,12]] [0,2,4,6,8,10,12,14,16,18,20,7,22,24,26] (by kernel_rfl) (by kernel_rfl) ?_;refine RE.seg (n:=0) [20,7,22,24,26] [0,2,4,6,8,10,12,14,16,18] [⟨(.some 55),(.mov (.t 11)),.none⟩,⟨(.some 56),(.nilCheck (.t 55)),.none⟩,⟨(.some 57),(.fldA .false 0 1 (.t 56)),.none⟩,⟨(.some 58),(.load .false 1 (.t 57)),.none⟩,⟨(.some 59),(.mov (.t 12)),.none⟩,⟨(.some 60),(.mov (.t 0)),.none⟩,⟨(.some 61),(.mov (.t 12)),.none⟩,⟨(.some 62),(.idxA 20 (.t 60) (.t 61)),.none⟩,⟨(.some 63),(.fldA .false 16 1 (.t 62)),.none⟩,⟨(.some 64),(.load .false 1 (.t 63)),.none⟩] rfl rfl ?_;apply sG;simp only [go_sem,seval,t0,t11,hb,hnd,Nd.cells,Nh];refine RE.call rfl rfl rfl rfl rfl (DU x.words (by omega) _) ?_;rintro wv σ2 ⟨hs2,hw2⟩;simp only at hs2 hw2;have hid2:=hs2 _ _ hid;have hb2:=hs2 _ _ hb;obtain ⟨cw,sw⟩:=hw2.vc;have hio2:=hio _ hid2;refine RE.chk rfl rfl rfl rfl rfl trivial (by simp only [go_sem,seval,t0,t11,hb2]) ?_;refine RE.seg (n:=0) [] [22,24,26] [⟨(.some 66),(.idxA 20 (.t 58) (.t 59)),.none⟩,⟨(.some 67),(.fldA .false 16 1 (.t 66)),.none⟩,⟨.none,(.store 1 (.t 67) (.t 65)),.none⟩] rfl rfl ?_;apply sG;simp only [go_sem,seval,t0,t11,hb2,hio2,hid2,hrow',Nd.cells,cw,sw];have hk46:aZ σ i46 id=none:=hkid;have hsf:aa σ (upd σ2 id ⟨73,20,rows.set i (ndW x wv)⟩):=(hs.trans hs2).aB (aF.1 hkid).2;have hk2:∀j,j≠id→∀o,σ2 j=some o→upd σ2 id ⟨73,20,rows.set i (ndW x wv)⟩ j=some o:=fun j hj o hjo=>by rw [ab hj]; exact hjo
      have h1:=(hr.mono hs2).kept hid2 hk2;have hkl:aa (aZ σ i46) (aZ τ i46):=fun j o hj=>by
       unfold aZ at hj ⊢;split
       ·rename_i e; rw [if_pos e] at hj; exact hj
       ·rename_i e; rw [if_neg e] at hj; exact hs _ _ hj
      have h2:aM (aZ σ i46) (upd σ2 id ⟨73,20,rows.set i (ndW x wv)⟩) 3 1 wv (x.words.map vI):=by
       rcases hw2 with h | ⟨iw,e1,e2,e3⟩
       ·exact .inl h
       ·have n1:iw≠id:=fun e=>by rw [e,hid2] at e2; simp at e2
        refine .inr ⟨iw,e1,by rw [ab n1]; exact e2,aF.2 ⟨fun e=>(by rw [e,hb] at e3; cases e3),hs.none e3⟩⟩
      have h3:(rows.set i (ndW x wv)).take (i+1)=rows.take i++[ndW x wv]:=by
       rw [List.take_succ_eq_append_getElem (by simp; omega),List.take_set_of_le (by omega)];simp
      apply sR;simp only [go_sem,seval,t0,t1,t11,t51,t52,r1];refine ⟨_,?_,i+1,rows.set i (ndW x wv),by omega,rfl,hsf, .inr ⟨id,by rw [List.length_set],ag,hkid⟩,by simp [hn],?_,?_,?_,rfl⟩
      ·omega
      ·rw [h3,htk];exact h1.app ⟨⟨wv,rfl,h2⟩,trivial⟩
      ·rw [List.drop_set_of_lt (by omega)];have:rows.drop (i+1)=(rows.drop i).drop 1:=by simp
       rw [this,hd,hdc];rfl
      ·exact (ab hne.symm).trans hb2
     ·have q:((i:Int) < l.length)=False:=eq_false (by omega);have hie:i=l.length:=by omega
      subst hie;rw [List.take_length,List.take_of_length_le (by omega)] at hr;apply sR;simp only [go_sem,seval,t0,t1,t11,t51,t52,q];exact ⟨hs,⟨rows,ho,hr⟩,hb⟩
    ·clear hs ho46 a46 ho10 a9;rintro ⟨S,τ⟩ ⟨hs,how,hb,t0,t1,t11⟩;simp only at hs how hb t0 t1 t11;have hla:=iB (cm l w).atoms;have hal:=hG.len;have hbr:=FK l hl hisb (ofR l w) (by rw [ofR,List.length_map]; omega) (fun x hx=>by
      obtain ⟨a,ha,rfl⟩:=List.mem_map.1 hx;exact hG.nod a ha) hG.may
     have hofe:ofR l w=(cm l w).atoms.map (·.node):=rfl;rw [tu] at hb;rw [pY] at hfl;refine ad.mix 16 ?_;apply sR;simp only [go_sem,seval,t0,t1,t11];refine ad.ay rfl rfl rfl (hfl _) ?_;apply sR;simp only [go_sem,seval,t11,hb,hla,av,ax,aQ,aS];generalize hq:upd τ i46 _=τ0;have hb0:τ0 i46=some (tu vn w h (bu (cm l w).atoms) (aJ (cm l w).floats) (cm l w).height .aD):=by rw [←hq]; exact ag
     have hs0:aa σ τ0:=hq ▸ hs.aB z46;have how0:xO (aZ σ i46) τ0 vn l:=hq ▸ how.DV k46;clear hq hs how hb;refine ad.eS (fun st=>aa τ0 st.σ∧aM τ0 st.σ 3 1 (st.s 13) ((ofR l w).map vI)∧st.s 0=aI l∧st.s 11=.ptr i46 0 0)
      (fun m st=>∃j:Nat,j≤(cm l w).atoms.length∧m=(cm l w).atoms.length - j∧aa τ0 st.σ∧aM τ0 st.σ 3 1 (st.s 13) ((((cm l w).atoms.take j).map (·.node)).map vI)∧st.s 0=aI l∧st.s 11=.ptr i46 0 0∧st.s 82=bu (cm l w).atoms∧st.s 83=vI (cm l w).atoms.length∧st.s 84=vI j) (cm l w).atoms.length ?_ ?_ ?_
     ·exact ⟨0,by omega,rfl,aa.refl _,aM.start,t0,t11,rfl,rfl,rfl⟩
     ·clear t0 t1 t11;rintro m ⟨S,τ⟩ ⟨j,hj,rfl,hsj,ho,t0,t11,t82,t83,t84⟩;simp only at hsj ho t0 t11 t82 t83 t84;generalize hv13:S 13=v13 at ho;refine ad.mix 85 ?_;by_cases hlt:j < (cm l w).atoms.length
      ·have q:((j:Int) < (cm l w).atoms.length)=True:=eq_true (by omega);have hidx:=fun σ=>gV (σ:=σ) hlt;have hrows:(((cm l w).atoms.take (j+1)).map (·.node)).map vI=(((cm l w).atoms.take j).map (·.node)).map vI++[vI (cm l w).atoms[j].node]:=by
        rw [List.take_succ_eq_append_getElem hlt,List.map_append,List.map_append]; rfl
       have hlm:((((cm l w).atoms.take j).map (·.node)).map vI).length=j:=by rw [List.length_map,List.length_map,List.length_take]; omega
       have hat:dd (cm l w).atoms[j]=.agg [vI (cm l w).atoms[j].kind,vI (cm l w).atoms[j].node,vI (cm l w).atoms[j].fr,vI (cm l w).atoms[j].to,vI (cm l w).atoms[j].x,vI (cm l w).atoms[j].y,vI (cm l w).atoms[j].w,vI (cm l w).atoms[j].h]:=rfl;generalize (((cm l w).atoms.take j).map (·.node)).map vI=rows at *;generalize (cm l w).atoms[j]=x at *;have r1:inR .i64 ((j:Int)+1):=ak (by omega) (by omega);have hs:=aa.refl τ;apply sR;simp only [go_sem,seval,t0,t11,t82,t83,t84,hv13,q,hidx,hat];refine ae fun i15 σ15 s15 a15 f15=>?_;have z15:=hs.none f15;replace hs:=hs.trans s15;simp only [go_sem,seval,a15,t0,t11,t82,t83,t84,hv13];generalize hq15:upd _ i15 _=τ15;replace a15:=(congrFun hq15 i15).symm.trans ag;replace hs:=Eq.subst (motive:=aa _) hq15 (hs.aB z15);clear hq15;refine ae fun i91 σ91 s91 a91 f91=>?_;obtain ⟨idA,hda,hdel⟩:=ho.dst (hs.trans s91);have hb2:(rows.length+1)*9≤140737488355328:=by omega
       simp only [go_sem,seval,hda,dk a91,hb2];refine ew fun i92 σ92 s92 a92 f92=>?_;have k92:=(hdel τ0 (aa.refl _) σ91 (hsj.trans (hs.trans s91))).trans s92;have n92:τ0 i92=none:=(hsj.trans (hs.trans s91)).none f92;simp only [go_sem,seval,t0,t11,t82,t83,t84,r1];refine ⟨_,?_,j+1,by omega,rfl,k92,?_,rfl⟩
       ·omega
       ·rw [hrows];exact aM.new (by simp) a92 n92
      ·have q:((j:Int) < (cm l w).atoms.length)=False:=eq_false (by omega);have hje:j=(cm l w).atoms.length:=by omega
       rw [hje,List.take_length,←hofe] at ho;apply sR;simp only [go_sem,seval,t0,t11,t82,t83,t84,hv13,q];exact ⟨hsj,ho⟩
     ·clear t0 t1 t11;rintro ⟨S,τ⟩ ⟨hsj,ho,t0,t11⟩;simp only at hsj ho t0 t11;refine ad.BS [0,11] [13] hsj ho (by simp) ?_;generalize hS:(fun i=>if [13].contains i then V.sl 1 ((ofR l w).map vI) else zd [0,11] S i)=S';have u0:S' 0=aI l:=by rw [←hS]; exact t0
      have u11:S' 11=.ptr i46 0 0:=by rw [←hS]; exact t11
      have u13:S' 13=bj (ofR l w):=by rw [←hS]; rfl
      clear hS t0 t11;refine ad.mix 16 ?_;rw [tu] at hb0;apply sR;simp only [go_sem,seval,u0,u11,u13];refine ad.ay rfl rfl rfl (hbr _) ?_;apply sR;simp only [go_sem,seval,u11,hb0,gA,gq];exact DJ (b:=bQ l w h) (hs0.aB z46) z46 ag (how0.DV k46)
   ·have q:(eU l≠0)=True:=eq_true hc;obtain ⟨e1,e2⟩:=bad (eU l) (by rw [gl,if_neg (fun h=>h ⟨hw,hh⟩),if_pos hc]) hc;rw [e1,e2];apply sR;simp only [go_sem,seval,q];exact ar.pure hs rfl
  ·have mh:=lW h;rw [show decide (1≤h∧h≤1099511627776)=false from decide_eq_false hh] at mh;obtain ⟨e1,e2⟩:=bad 3 (by rw [gl,if_pos (fun h=>hh h.2)]) (by decide);rw [e1,e2];refine ad.ay rfl rfl rfl (mh _) ?_;apply sR;simp only [go_sem,seval];exact ar.pure hs rfl
 ·have mw:=lW w;rw [show decide (1≤w∧w≤1099511627776)=false from decide_eq_false hw] at mw;obtain ⟨e1,e2⟩:=bad 3 (by rw [gl,if_pos (fun h=>hw h.1)]) (by decide);rw [e1,e2];apply sR;simp only [go_sem,seval,c8];refine ad.ay rfl rfl rfl (mw _) ?_;apply sR;simp only [go_sem,seval];exact ar.pure hs rfl
theorem ke {l:List Nd} {w h:Int} (he:gl l w h=0):wa w∧wa h∧eU l=0:=by
 unfold gl at he;split at he
 ·cases he
 ·rename_i h1;split at he
  ·rename_i h2; exact absurd he h2
  ·rename_i h2;exact ⟨Decidable.byContradiction fun h=>h1 (fun g=>h g.1),Decidable.byContradiction fun h=>h1 (fun g=>h g.2),Decidable.byContradiction h2⟩
theorem Cn {l:List Nd} (hl:dE l) {w h:Int} (he:gl l w h=0):BkFull (bQ l w h)∧∀f∈(bQ l w h).fls,0≤f.h:=by
 obtain ⟨hw,hh,hc⟩:=ke he;obtain ⟨hisb,hn,hwo,hcs⟩:=mY hc;have hG:=sQ hisb hn hw.1 hw.2;have hl1:=hG.len;have hl2:=hG.flen;have hb:(1099511627776:Int)*((cst l 0 l.length:Nat):Int)≤10995116277760000:=by omega
 have ht:∀a∈(cm l w).atoms, -18014398509481984≤a.y∧a.y≤18014398509481984∧0≤a.h∧a.h≤18014398509481984:=fun a ha=>by
  have:=hG.at' a ha;have h0:=this.y0; have h1:=this.y1; have h2:=this.h0; have h3:=this.h1;omega
 refine ⟨⟨⟨⟨?_,fun a ha=>?_⟩,ht,?_,?_,fun f hf=>(hG.flo f hf).ok (by omega),?_⟩,hl,hisb,hh.1,hh.2,hG.nod⟩,fun f hf=>(hG.flo f hf).h0⟩
 ·show (cm l w).atoms.length≤_; omega
 ·have:=ht a ha; omega
 ·show (cm l w).atoms.length≤_; omega
 ·show (cm l w).floats.length≤_; omega
 ·show (nD l (ofR l w)).length=(cm l w).atoms.length+1;unfold nD ofR;simp
def er (b:Bk) (a:Nat):Int:=((b.atoms.drop a).map (·.h)).sum
theorem sK {b:Bk} {a:Nat} (h:a < b.atoms.length):er b a=(b.atoms[a]).h+er b (a+1):=by
 unfold er; rw [List.drop_eq_getElem_cons h,List.map_cons,List.sum_cons]
theorem ov {b:Bk} (hp:∀a∈b.atoms,1≤a.h) (a:Nat):0≤er b a:=by
 have key:∀l:List Atm,(∀a∈l,1≤a.h)→0≤(l.map (·.h)).sum:=by
  intro l
  induction l with
  | nil=>intro _; simp
  | cons x l ih =>
    intro h;have h1:=h x (by simp);have h2:=ih (fun y hy=>h y (by simp [hy]));simp only [List.map_cons,List.sum_cons]; omega
 exact key _ fun x hx=>hp x (List.mem_of_mem_drop hx)
theorem zf {b:Bk} (hp:∀a∈b.atoms,1≤a.h) (a:Nat):∀n,er b (a+n)≤er b a
 | 0=>Int.le_refl _
 | n+1=>by
   have ih:=zf hp a n;by_cases h:a+n < b.atoms.length
   ·have h1:=sK h;have h2:=hp _ (List.getElem_mem h);rw [←Nat.add_assoc]; omega
   ·have:er b (a+(n+1))=er b (a+n):=by
     unfold er; rw [List.drop_of_length_le (by omega),List.drop_of_length_le (by omega)]
    omega
theorem oR {body:Int} (f:Flo) (r:List Flo):(cB body (f::r) 0).2.1.length < (f::r).length:=by
 have key:∀(l:List Flo) (sh:Int),(cB body l sh).2.1.length≤l.length:=by
  intro l
  induction l with
  | nil=>intro sh; simp [cB]
  | cons g l ih =>
    intro sh;rw [cB];split
    ·simp
    ·have:=ih (sh+min g.h body); simp only [List.length_cons]; omega
 rw [cB,if_neg (by omega)];have:=key r (0+min f.h body);simp only [List.length_cons];omega
theorem lI {b:Bk} {s:Stt} {to kept shift body:Int}:(dr b.atoms b.fls s to kept shift body).2.length≤b.fls.length:=by
 unfold dr;split
 ·have h1:=lZ (qN b.atoms s kept) shift body (ep b.fls s to);have h2:(ep b.fls s to).length≤b.fls.length:=mA _ _ _;omega
 ·simp
inductive jf (b:Bk) (x:Wx):Sta→Prop
 | whole (c:Nat) (fr:Bool) (p:List Flo) (h1:x.s.atom < c) (h2:c≤b.atoms.length) (h3:p.length≤b.fls.length):jf b x ⟨⟨c,0,fr⟩,p⟩
 | more (d:Int) (p:List Flo) (h1:x.s.done < d) (h2:d < (atG b.atoms x.s.atom).h) (h3:p.length≤b.fls.length):jf b x ⟨⟨x.s.atom,d,false⟩,p⟩
theorem py {b:Bk} (hb:BkOk b) {x:Wx} (hm:dt b.atoms x.s) (hpos:∀a∈b.atoms,1≤a.h) (hbody:1≤x.body):jf b x (ek b x):=by
 have hrl:dP b x≤b.atoms.length:=l6;have hbl:=hb.brk;unfold ek;split
 ·rename_i hok;obtain ⟨c,h1,h2,h3⟩:=nZ hok (by omega);rw [show tY b x=c from h1,Int.toNat_natCast];exact .whole c _ _ h2 (by omega) lI
 ·unfold uw dY;have hso:nI b.atoms x.s x.body:=⟨hm,hbody⟩
  rw [if_pos (show nI b.atoms ({ x with kind:=1 }:Wx).s ({ x with kind:=1 }:Wx).body from hso)];obtain ⟨⟨h0,h1⟩,h2,h3⟩:=hm;obtain ⟨k,hk⟩:∃k:Nat,x.s.atom=k:=⟨x.s.atom.toNat,by omega⟩
  have hkl:k < b.atoms.length:=by omega
  have hp:=hpos _ (List.getElem_mem hkl);have ha:atG b.atoms x.s.atom=b.atoms[k]:=by rw [hk,bn hkl]
  rw [ha] at h3;have hph:(fj b.atoms x.s.atom).h=b.atoms[k].h:=by rw [fj,ha]
  unfold iN;have e1:(eR b.atoms x.s x.body).fr=x.s.done:=rfl;have e2:(eR b.atoms x.s x.body).atom=x.s.atom:=rfl;have e3:(eR b.atoms x.s x.body).h=min (b.atoms[k].h - x.s.done) x.body:=by rw [←hph]; rfl
  split
  ·rename_i hlt;have hlt':x.s.done+min (b.atoms[k].h - x.s.done) x.body < (atG b.atoms x.s.atom).h:=by rw [←e3]; exact hlt
   have:=jf.more (b:=b) (x:=x) (x.s.done+min (b.atoms[k].h - x.s.done) x.body) (dr b.atoms b.fls x.s (x.s.atom+1) 0 0 x.body).2 (by omega) hlt' lI;rw [←e3] at this;exact this
  ·have:=jf.whole (b:=b) (x:=x) (k+1) false (dr b.atoms b.fls x.s (x.s.atom+1) 0 0 x.body).2 (by omega) (by omega) lI;have e4:((k+1:Nat):Int)=x.s.atom+1:=by omega
   rw [e4] at this;exact this
structure SkI (s:WS):Prop where
 pw:s.atoms.Pairwise fun a b=>a.y+a.h≤b.y
 q:∀a∈s.atoms,a.y+a.h≤s.pen.y
theorem SkI.put {s:WS} (h:SkI s) {a:Atm} (h1:s.pen.y≤a.y) (h2:0≤a.h):SkI (s.put a):=by
 refine ⟨?_,fun x hx=>?_⟩
 ·simp only [WS.put];rw [List.pairwise_append];refine ⟨h.pw,by simp,fun x hx y hy=>?_⟩;simp only [List.mem_singleton] at hy;subst hy;have:=h.q x hx;omega
 ·simp only [WS.put] at hx ⊢;rcases List.mem_append.1 hx with hx | hx
  ·have:=h.q x hx; omega
  ·simp only [List.mem_singleton] at hx; subst hx; omega
theorem SkI.pen {s:WS} (h:SkI s) {p:Pn} (hp:s.pen.y≤p.y):SkI { s with pen:=p }:=⟨h.pw,fun a ha=>by have:=h.q a ha; simp only; omega⟩
theorem Bn {p:Pn} {m d:Int} (h0:0≤p.m) (hd:0≤d):p.y≤(dZ p m d).y:=by
 simp only [dZ,tS]; (repeat' split) <;> omega
theorem HD {p:Pn} {m d:Int} (h0:0≤p.m) (hd:0≤d):p.y≤(ky p m d).y:=by
 simp only [ky,tS]; (repeat' split) <;> (try simp only) <;> omega
theorem SkI.enter {s:WS} (h:SkI s) (h0:0≤s.pen.m) {t:Sty} (ht:SOk t):SkI (s.enter t):=by
 have hp:=ht.padTop.1;unfold WS.enter;simp only;refine h.pen ?_;split
 ·have hc:s.pen.y≤(iL s.pen (dN (kQ t.clear) s.floats).1).y∧0≤(iL s.pen (dN (kQ t.clear) s.floats).1).m:=by
   unfold iL; split <;> (try simp only) <;> omega
  exact Int.le_trans hc.1 (Bn hc.2 hp)
 ·exact Bn h0 hp
theorem SkI.leave {s:WS} (h:SkI s) (h0:0≤s.pen.m) {t:Sty} (ht:SOk t):SkI (s.leave t):=h.pen (HD h0 ht.padBottom.1)
theorem SkI.text {rs:List Rm} {s:WS} {C:Nat} (h:fp s C) (hk:SkI s) {n:Nd} (hn:NOk n) (a:Nat):SkI (s.text rs a n):=by
 obtain ⟨⟨hf,h1,h2,h3,h4⟩,h5,h6⟩:=h;have hl:=hn.line;have key:∀(k i:Nat) (y:Int) (t:WS),t.pen.y≤y→SkI t→SkI ((cX s.floats n.words n.space n.line (dX rs a) k i y).foldl (fun s x=>s.put (eE a n.line x)) t):=by
  intro k
  induction k with
  | zero=>intro i y t _ ht; exact ht
  | succ k ih =>
    intro i y t hy ht;rw [cX];split
    ·rw [List.foldl_cons];have hyr:y≤(mF s.floats n.words n.space n.line i y (dX rs a)).y:=(fi (fun f hf'=>(hf f hf').yB)).1;refine ih _ _ _ ?_ (ht.put (by simp only [eE]; omega) hl.1);simp only [WS.put,eE];omega
    ·exact ht
 exact key _ _ _ s (by omega) hk
theorem tT {l:List Nd} {rs:List Rm} (hD:DOk l rs):∀(k a e:Nat) (s:WS) (C:Nat),e - a≤k→a≤e→e≤l.length→bV l a e=true→fp s C→SkI s→SkI (df l rs k a e s)
 | 0,a,e,s,C,_,hae,_,_,_,h=>h
 | k+1,a,e,s,C,hk,hae,he,hr,h,hs=>by
   rw [df];by_cases hlt:a < e
   ·rw [if_pos hlt];obtain ⟨h1,h2⟩:=cM he hr (Nat.le_refl a) hlt;obtain ⟨h3,h4⟩:=dL he hr hlt;have hno:NOk (ndA l a):=by rw [iE (by omega)]; exact fM hD.isb (by omega)
    have step:∀t,(∃D,fp t D)→SkI t→SkI (df l rs k (a+(szI l a).toNat) e t):=fun t ⟨D,ht⟩ hA =>
     tT hD k _ e t D (by omega) (by omega) he h3 ht hA
    have hm:=h.bd.m0;split
    ·have hI2:=fS hD k (a+1) (a+(szI l a).toNat) _ _ (by omega) (by omega) (by omega) h4 (eH h hno.st);have hS2:=tT hD k (a+1) (a+(szI l a).toNat) _ _ (by omega) (by omega) (by omega) h4 (eH h hno.st) (hs.enter hm hno.st);exact step _ ⟨_,jc hI2 hno.st⟩ (hS2.leave hI2.bd.m0 hno.st)
    ·split
     ·exact step _ ⟨_,jZ h hno a⟩ (SkI.text h hs hno a)
     ·split
      ·refine step _ ⟨_,j6 h hno a⟩ ?_;have hyr:=fi (w:=(ndA l a).w) (high:=(ndA l a).h) (y:=s.pen.y+s.pen.m) (s:=dX rs a) (fun f hf'=>(h.bd.fl f hf').yB);exact hs.put (by simp only; omega) hno.h.1
      ·have k4:(ndA l a).kind=4:=by rename_i g1 g2 g3; rcases hno.kind with h | h | h | h; exact absurd h g1; exact absurd h g2; exact absurd h g3; exact h
       exact step _ ⟨_,ja hD h (by omega) hno k4⟩ ⟨hs.pw,hs.q⟩
   ·rw [if_neg hlt]; exact hs
theorem Hz {l:List Nd} (hb:isB l=true) (hn:l.length≤2000) {w:Int} (h1:1≤w) (h2:w≤1099511627776):(cm l w).atoms.Pairwise fun a b=>a.y+a.h≤b.y:=by
 have hD:=sN hb hn h1 h2;have hr:bV l 0 l.length=true:=by simp only [isB,Ba] at hb; exact hb.2
 have hI:fp ⟨[],[],0,⟨0,0⟩⟩ 0:=⟨⟨by simp,by simp,by simp,by simp,by simp⟩,by simp,by simp⟩
 exact (tT hD l.length 0 l.length ⟨[],[],0,⟨0,0⟩⟩ 0 (by omega) (by omega) (Nat.le_refl _) hr hI ⟨by simp,by simp⟩).pw
theorem wi {l:List Atm} (h:l.Pairwise fun a b=>a.y+a.h≤b.y) {i j:Nat} (hij:i < j) (hj:j < l.length):l[i].y+l[i].h≤l[j].y:=List.pairwise_iff_getElem.1 h i j (by omega) hj hij
theorem pk {p:Nat→Bool} {n:Nat} (hm:∀i j,i≤j→j < n→p i=true→p j=true):∀(f i j:Nat),j - i≤f→i≤j→j≤n→(∀x,x < i→p x=false)→(j < n→p j=true) →
 (∀x,x < jU p f i j→p x=false)∧(jU p f i j < n→p (jU p f i j)=true)∧jU p f i j≤j
 | 0,i,j,hf,hij,_,h1,h2=>by
   obtain rfl:i=j:=by omega
   exact ⟨h1,h2,Nat.le_refl _⟩
 | f+1,i,j,hf,hij,hjn,h1,h2=>by
   rw [jU];split
   ·rename_i hlt;split
    ·rename_i hp;obtain ⟨g1,g2,g3⟩:=pk hm f i ((i+j) / 2) (by omega) (by omega) (by omega) h1 (fun _=>hp);exact ⟨g1,g2,by omega⟩
    ·rename_i hp;have hp':p ((i+j) / 2)=false:=by simpa using hp
     refine pk hm f ((i+j) / 2+1) j (by omega) (by omega) hjn (fun x hx=>?_) h2;cases hx':p x with
     | false=>rfl
     | true=>rw [hm x ((i+j) / 2) (by omega) (by omega) hx'] at hp'; cases hp'
   ·obtain rfl:i=j:=by omega
    exact ⟨h1,h2,Nat.le_refl _⟩
theorem zK {b:Bk} (hk:b.atoms.Pairwise fun x y=>x.y+x.h≤y.y) (hpos:∀a∈b.atoms,1≤a.h) {s:Stt} (hm:dt b.atoms s) (kept shift body:Int) :
 ∃r:Nat,ld b.atoms s kept shift body=r∧s.atom≤r∧r≤b.atoms.length∧(∀k (h:k < b.atoms.length),s.atom≤k→k < r→dy b.atoms s kept shift k+b.atoms[k].h≤body)∧∀h:r < b.atoms.length,dy b.atoms s kept shift r+b.atoms[r].h > body:=by
 have hm0:=hm;obtain ⟨⟨h0,h1⟩,h2,h3⟩:=hm;obtain ⟨a,ha⟩:∃a:Nat,s.atom=a:=⟨s.atom.toNat,by omega⟩
 have hal:a < b.atoms.length:=by omega
 have hpl:∀k (h:k < b.atoms.length),a≤k→dy b.atoms s kept shift k=b.atoms[k].y - b.atoms[a].y - s.done+kept+shift:=fun k h hak=>by
  rw [dy,if_pos ⟨hm0,by omega,by omega⟩,fV,if_pos ⟨⟨h0,h1⟩,by omega,by omega⟩,ha,bn h,bn hal]
 have hby:∀n (h:a+n < b.atoms.length),eV b.atoms s kept shift body n=decide (b.atoms[a+n].y - b.atoms[a].y - s.done+kept+shift+b.atoms[a+n].h > body):=fun n h=>by
  have e:s.atom+(n:Int)=((a+n:Nat):Int):=by omega
  rw [eV,e,hpl _ h (by omega),bn h]
 have hmono:∀i j,i≤j→j < b.atoms.length - a→eV b.atoms s kept shift body i=true→eV b.atoms s kept shift body j=true:=fun i j hij hj hb=>by
  rcases Nat.eq_or_lt_of_le hij with rfl | hlt
  ·exact hb
  ·have hi2:a+i < b.atoms.length:=by omega
   have hj2:a+j < b.atoms.length:=by omega
   rw [hby i hi2] at hb;rw [hby j hj2];have h5:=wi hk (show a+i < a+j by omega) hj2;have h6:=hpos _ (List.getElem_mem hj2);have hb':=of_decide_eq_true hb;exact decide_eq_true (by omega)
 have hs:=pk hmono (b.atoms.length - a) 0 (b.atoms.length - a) (by omega) (by omega) (Nat.le_refl _) (fun x hx=>by omega) (fun h=>by omega);have hsr:jU (eV b.atoms s kept shift body) (b.atoms.length - a) 0 (b.atoms.length - a)=Ap (eV b.atoms s kept shift body) (b.atoms.length - a):=rfl;rw [hsr] at hs;obtain ⟨g1,g2,g3⟩:=hs;refine ⟨a+Ap (eV b.atoms s kept shift body) (b.atoms.length - a),?_,by omega,by omega,fun k h hak hkr=>?_,fun h=>?_⟩
 ·rw [ld,if_pos hm0,ha,Int.toNat_natCast]; rfl
 ·have hka:a≤k:=by omega
  have:=g1 (k - a) (by omega);rw [hby (k - a) (by omega)] at this;have h5:=of_decide_eq_false this;rw [hpl k h hka];have e:a+(k - a)=k:=by omega
  simp only [e] at h5;omega
 ·have:=g2 (by omega);rw [hby _ h] at this;have h5:=of_decide_eq_true this;rw [hpl _ h (by omega)];omega
theorem kH {l:List Nd} {a:Nat}:∀(k:Nat) (x:Int),x∈ga l a k→gx l x a=true
 | 0,_,h=>by simp [ga] at h
 | k+1,x,h=>by
   rw [ga] at h;split at h
   ·rename_i hk;rcases List.mem_cons.1 h with rfl | h
    ·exact hk
    ·exact kH k x h
   ·exact kH k x h
theorem Gb (l:List Nd) (of:List Int) (k:Nat):0≤cY l of k 3∧cY l of k 3≤7:=by
 simp only [cY,Fv];cases jJ l of k 0 <;> cases jJ l of k 1 <;> cases jJ l of k 2 <;> simp
theorem wq:∀(all:List Int),cJ all=0∨2≤cJ all∧cJ all≤4:=by
 have key:∀(all:List Int) (o:Int),(o=0∨2≤o∧o≤4)→(all.foldl jE o=0∨2≤all.foldl jE o∧all.foldl jE o≤4):=by
  intro all
  induction all with
  | nil=>intro o h; exact h
  | cons x all ih =>
    intro o h;rw [List.foldl_cons];refine ih _ ?_;unfold jE lD
    (repeat' split) <;> omega
 exact fun all=>key all 0 (.inl rfl)
theorem G5 {l:List Nd} (hb:isB l=true) {of:List Int} (hof:∀x∈of,0≤x∧x < l.length):ub (nD l of)=true:=by
 have hlen:(nD l of).length=of.length+1:=by simp [nD]
 simp only [ub,Ba,List.all_eq_true,List.mem_range,decide_eq_true_eq];refine ⟨fun k hk=>?_,by omega⟩;rw [hlen] at hk;have hg:bkG (nD l of) k=bkR l of k:=by simp [bkG,nD,hk]
 unfold gy;rw [hg,hlen];refine decide_eq_true ?_;have hsame:0 < k→k < of.length→of.getD k 0=of.getD (k - 1) 0→iD l of k=0:=fun h0 h1 he=>by
  have hk1:of.getD k 0=of[k]:=by simp [h1]
  have hr:=hof _ (List.getElem_mem h1);have hh:∀x∈abv l (of.getD k 0).toNat,hAt l of x k=true∧hAt l of x ((k:Int) - 1)=true:=fun x hx=>by
   rw [hk1] at hx;have hlt:of[k].toNat < l.length:=by omega
   rw [KX hb hlt] at hx;have hx':=kH _ _ hx;rw [kJ] at hx';have e1:((k:Int) - 1).toNat=k - 1:=by omega
   have e2:((k:Int)).toNat=k:=by omega
   have e3:(of[k].toNat:Int)=of[k]:=by omega
   rw [e3] at hx';unfold hAt vW;rw [if_pos (by omega),if_pos (by omega),e1,e2,←he,hk1];exact ⟨decide_eq_true ⟨hx'.2.2.1,hx'.2.2.2⟩,decide_eq_true ⟨hx'.2.2.1,hx'.2.2.2⟩⟩
  have e1:((k:Int) - 1).toNat=k - 1:=by omega
  have e2:((k:Int)).toNat=k:=by omega
  have he1:chR l of ((k:Int) - 1) (fun b=>!hAt l of b k)=[]:=by
   unfold chR;rw [if_pos (by omega),e1,←he,List.filter_eq_nil_iff];intro x hx;rw [(hh x hx).1]; simp
  have he2:chR l of k (fun b=>!hAt l of b ((k:Int) - 1))=[]:=by
   unfold chR;rw [if_pos (by omega),e2,List.filter_eq_nil_iff];intro x hx;rw [(hh x hx).2]; simp
  unfold iD iy;rw [if_neg (by omega),dU,he1,he2];rfl
 have hend:k=of.length→iD l of k=0:=fun h=>by
  unfold iD iy; rw [if_pos h]; rfl
 have hfv:=wq (iy l of k);have hbr:=Gb l of k;change iD l of k=0∨2≤iD l of k∧iD l of k≤4 at hfv;unfold nt bkR;simp only [decide_eq_true_eq,decide_eq_false_iff_not];unfold pE o5;by_cases h0:k=0
 ·rw [if_pos h0,if_pos (show k=0∨k=of.length from .inl h0)];refine ⟨fun _=>rfl,fun h=>absurd (by omega) h,fun h=>absurd (by omega) h,?_, .inl (by split <;> rfl)⟩;rcases hfv with h | h
  ·exact .inl h
  ·exact .inr ⟨h.1,h.2,by omega,by omega⟩
 ·rw [if_neg h0];by_cases h1:k=of.length
  ·rw [if_pos h1,if_pos (show k=0∨k=of.length from .inr h1)];exact ⟨fun h=>absurd h (by omega),fun _ _=>rfl,fun _ h=>absurd (by omega) h, .inl (hend h1), .inl (by split <;> rfl)⟩
  ·rw [if_neg h1,if_neg (show ¬(k=0∨k=of.length) by omega)];by_cases h2:of.getD k 0=of.getD (k - 1) 0
   ·rw [if_pos h2];have hf:=hsame (by omega) (by omega) h2;refine ⟨fun h=>absurd h (by omega),fun _ h=>absurd h (by omega),fun _ _=>.inr rfl, .inl hf,?_⟩;rw [if_pos hf];rcases Int.lt_or_le 0 (cY l of k 3) with h | h
    ·exact .inr ⟨.inr rfl,hf,h,by omega⟩
    ·exact .inl (by omega)
   ·rw [if_neg h2];refine ⟨fun h=>absurd h (by omega),fun _ h=>absurd h (by omega),fun _ _=>.inl rfl,?_,?_⟩
    ·rcases hfv with h | h
     ·exact .inl h
     ·exact .inr ⟨h.1,h.2,by omega,by omega⟩
    ·by_cases hf:iD l of k=0
     ·rw [if_pos hf];rcases Int.lt_or_le 0 (cY l of k 3) with h | h
      ·exact .inr ⟨.inl rfl,hf,h,by omega⟩
      ·exact .inl (by omega)
     ·rw [if_neg hf]; exact .inl rfl
def inF (top e:Int) (l:List Frg):Prop:=∀f∈l,top≤f.y∧0≤f.h∧f.y+f.h≤e
theorem wg {top e:Int} {l m:List Frg} (h1:inF top e l) (h2:inF top e m):inF top e (l++m):=fun f hf=>(List.mem_append.1 hf).elim (h1 f) (h2 f)
theorem zF {l:List Nd} {x:Kp} {a:Int} (h:∀n∈x.heads,1≤(stA l n).head):∀n∈(iI l x a).heads,1≤(stA l n).head:=fun n hn=>by
 unfold iI at hn;split at hn
 ·exact h n hn
 ·rename_i hc;rcases List.mem_append.1 hn with hn | hn
  ·exact h n hn
  ·rw [List.mem_singleton.1 hn]; omega
theorem sV {l:List Nd} {L:List Int} {h:Int}:∀m,∀n∈(fQ l L h m).heads,1≤(stA l n).head
 | 0=>fun n hn=>by simp [fQ] at hn
 | m+1=>by rw [fQ]; exact zF (sV m)
theorem Lg {l:List Nd} {w:Int}:∀(L:List Int),(∀n∈L,1≤(stA l n).head)→0≤(hdK l w L).2∧(∀f∈(hdK l w L).1,0≤f.y∧0≤f.h∧f.y+f.h≤(hdK l w L).2)∧((hdK l w L).1.map (·.h)).sum=(hdK l w L).2:=fun L=>by
 suffices key:∀(L:List Int) (p:List Frg×Int),(∀n∈L,1≤(stA l n).head)→0≤p.2→(∀f∈p.1,0≤f.y∧0≤f.h∧f.y+f.h≤p.2)→(p.1.map (·.h)).sum=p.2 →
  0≤(L.foldl (hdS l w) p).2∧(∀f∈(L.foldl (hdS l w) p).1,0≤f.y∧0≤f.h∧f.y+f.h≤(L.foldl (hdS l w) p).2)∧((L.foldl (hdS l w) p).1.map (·.h)).sum=(L.foldl (hdS l w) p).2 from
  fun h=>key L ([],0) h (Int.le_refl _) (fun f hf=>by cases hf) rfl
 intro L
 induction L with
 | nil=>intro p _ h1 h2 h3; exact ⟨h1,h2,h3⟩
 | cons a L ih =>
   intro p h h1 h2 h3;have ha:=h a (by simp);refine ih _ (fun n hn=>h n (by simp [hn])) ?_ (fun f hf=>?_) ?_
   ·simp only [hdS]; omega
   ·simp only [hdS] at hf ⊢;rcases List.mem_append.1 hf with hf | hf
    ·have:=h2 f hf; omega
    ·rw [List.mem_singleton.1 hf]; simp only; omega
   ·simp only [hdS,List.map_append,List.sum_append,h3,List.map_cons,List.map_nil,List.sum_cons,List.sum_nil]; omega
theorem sF {b:Bk} (hb:BkFull b) (s:Stt) (h0:0≤s.atom):0≤(bw b s).high∧1≤(bw b s).body∧(bw b s).high+(bw b s).body=b.h∧inF 0 (bw b s).high (hdK b.nodes b.w (bw b s).heads).1∧((hdK b.nodes b.w (bw b s).heads).1.map (·.h)).sum=(bw b s).high:=by
 have hk:=ry hb s;have hbd:=gg hb s h0;have hh:∀n∈(bw b s).heads,1≤(stA b.nodes n).head:=by
  unfold bw;split
  ·intro n hn; cases hn
  ·unfold qJ;split
   ·exact sV _
   ·intro n hn; cases hn
 obtain ⟨g1,g2,g3⟩:=Lg (l:=b.nodes) (w:=b.w) _ hh;rw [hk.sum] at g2 g3;refine ⟨hk.high.1,hbd,?_,g2,g3⟩;have h1:=hb.h1;revert hbd;unfold bw;split
 ·intro _; simp
 ·unfold qJ;split
  ·rename_i hc;intro _;obtain ⟨_,h3,h4⟩:=hc;generalize (atG b.atoms (min s.atom ((b.atoms.length:Int) - 1))).node=a at *;have ha:a.toNat < b.nodes.length:=by omega
   have hrg:∀x∈abv b.nodes a.toNat,∃n:Nat,x=n∧n < b.nodes.length:=fun x hx=>by
    obtain ⟨n,h1,h2⟩:=oq ha x hx;exact ⟨n,h1,by omega⟩
   exact (n9 hb.isb hrg (by omega:0≤b.h) (abv b.nodes a.toNat).length (Nat.le_refl _)).2.2.2
  ·intro h; exact absurd h (by simp)
theorem BT {body:Int} (hb:0≤body):∀(l:List Flo) (sh:Int),0≤sh→sh≤body→(∀f∈l,0≤f.h)→∀m∈(cB body l sh).1,0≤m.y∧0≤m.h∧m.y+m.h≤body
 | [],sh,_,_,_=>fun m hm=>by simp [cB] at hm
 | f::r,sh,h0,h1,hf=>fun m hm=>by
   rw [cB] at hm;have:=hf f (by simp);split at hm
   ·cases hm
   ·rename_i hc;rcases List.mem_cons.1 hm with rfl | hm
    ·simp only; omega
    ·exact BT hb r _ (by omega) (by omega) (fun g hg=>hf g (by simp [hg])) m hm
theorem Gd {top shift body:Int} (hsh:0≤shift):∀ {L:List Flo},(∀f∈L,0≤f.h)→∀m∈(ik top shift body L).1,0≤m.y∧0≤m.h∧m.y+m.h≤body:=by
 suffices key:∀(L:List Flo) (x:List Flo×List Flo),(∀f∈L,0≤f.h)→(∀m∈x.1,0≤m.y∧0≤m.h∧m.y+m.h≤body) →
  ∀m∈(L.foldl (fun x f=>jD body x f (dG top shift f)) x).1,0≤m.y∧0≤m.h∧m.y+m.h≤body from
  fun {L} h=>key L ([],[]) h (fun m hm=>by cases hm)
 intro L
 induction L with
 | nil=>intro x _ h m hm; exact h m hm
 | cons f L ih =>
   intro x hL h;refine ih _ (fun g hg=>hL g (by simp [hg])) fun m hm=>?_;have hf:=hL f (by simp);simp only [jD] at hm;split at hm
   ·exact h m hm
   ·rename_i hl;rcases List.mem_append.1 hm with hm | hm
    ·exact h m hm
    ·rw [List.mem_singleton.1 hm];unfold mM at hl;have hl':¬(x.2≠[]∨(dG top shift f).y+(dG top shift f).h > body):=fun h=>hl (decide_eq_true h);simp only [dG] at hl' ⊢;omega
theorem CP:∀ {l:List Flo} {a b:Int} {f:Flo},f∈th l a b→f∈l:=fun h=>(List.mem_filter.1 h).1
theorem zG {b:Bk} (hfh:∀f∈b.fls,0≤f.h) {s:Stt} {to kept shift body:Int} (hsh:0≤shift):∀m∈(dr b.atoms b.fls s to kept shift body).1,0≤m.y∧0≤m.h∧m.y+m.h≤body:=by
 unfold dr;split
 ·exact Gd hsh fun f hf=>hfh f (CP hf)
 ·intro m hm; cases hm
theorem v8 {high body:Int} {l:List Flo} (h:∀m∈l,0≤m.y∧0≤m.h∧m.y+m.h≤body):inF high (high+body) (l.map (jv high)):=fun f hf=>by
 obtain ⟨m,hm,rfl⟩:=List.mem_map.1 hf;have:=h m hm;simp only [jv]; omega
theorem tc:∀(xs:List Fd) (d:Fd),(eX gn xs d=(d,false)∧∀x∈xs,x.b.forced=0)∨∃L x R,xs=L++x::R∧(∀y∈L,y.b.forced=0)∧x.b.forced≠0∧eX gn xs d=(x,true)
 | [],d=>.inl ⟨rfl,fun x h=>(by cases h)⟩
 | a::xs,d=>by
   have stay:∀(l:List Fd) (x:Fd),l.foldl (fK gn) (x,true)=(x,true):=by
    intro l
    induction l with
    | nil=>intro x; rfl
    | cons y l ih=>intro x; rw [List.foldl_cons]; exact ih x
   by_cases h:a.b.forced=0
   ·have e:eX gn (a::xs) d=eX gn xs d:=by
     unfold eX;rw [List.foldl_cons,fK,gn];simp [h]
    rw [e];rcases tc xs d with ⟨h1,h2⟩ | ⟨L,x,R,h1,h2,h3,h4⟩
    ·exact .inl ⟨h1,fun x hx=>(List.mem_cons.1 hx).elim (fun e=>e ▸ h) (h2 x)⟩
    ·exact .inr ⟨a::L,x,R,by rw [h1]; rfl,fun y hy=>(List.mem_cons.1 hy).elim (fun e=>e ▸ h) (h2 y),h3,h4⟩
   ·refine .inr ⟨[],a,xs,rfl,fun y hy=>(by cases hy),h,?_⟩;unfold eX;rw [List.foldl_cons,fK,gn];simp only [h,Bool.not_false,ne_eq,not_false_eq_true,decide_true,Bool.and_self,if_true];exact stay xs a
theorem CL (d:Fd):∀(xs:List Fd) (a:Fd) ,∃L x R,xs++[a]=L++x::R∧eX iF (xs++[a]) d=(x,true)∧(∀y∈L,x.b.rank≤y.b.rank)∧∀y∈R,x.b.rank < y.b.rank:=by
 suffices key:∀n (xs:List Fd) (a:Fd),xs.length=n→∃L x R,xs++[a]=L++x::R∧eX iF (xs++[a]) d=(x,true)∧(∀y∈L,x.b.rank≤y.b.rank)∧∀y∈R,x.b.rank < y.b.rank from
  fun xs a=>key _ xs a rfl
 intro n
 induction n with
 | zero =>
   intro xs a h;obtain rfl:=List.length_eq_zero_iff.1 h;exact ⟨[],a,[],rfl,by simp [eX,fK,iF],fun y h=>(by cases h),fun y h=>by cases h⟩
 | succ n ih =>
   intro xs a h;rcases List.eq_nil_or_concat xs with rfl | ⟨ys,z,rfl⟩
   ·cases h
   ·rw [List.concat_eq_append] at h ⊢;obtain ⟨L,x,R,h1,h2,h3,h4⟩:=ih ys z (by simpa using h);rw [tm,h2];unfold fK iF;by_cases hr:a.b.rank≤x.b.rank
    ·refine ⟨ys++[z],a,[],rfl,by simp [hr],fun y hy=>?_,fun y hy=>by cases hy⟩;rw [h1] at hy;rcases List.mem_append.1 hy with hy | hy
     ·have:=h3 y hy; omega
     ·rcases List.mem_cons.1 hy with rfl | hy
      ·exact hr
      ·have:=h4 y hy; omega
    ·refine ⟨L,x,R++[a],by rw [h1]; simp,by simp [hr],h3,fun y hy=>?_⟩;rcases List.mem_append.1 hy with hy | hy
     ·exact h4 y hy
     ·rw [List.mem_singleton.1 hy]; omega
theorem vk {b:List Brk} {fr to:Int} {L R:List Fd} {x:Fd} (h:(btw b fr to).map (lH b)=L++x::R) :
 ∃c:Nat,x=lH b c∧max fr 0≤c∧c < max fr 0+ur b fr to∧(∀k:Nat,max fr 0≤k→k < c→lH b k∈L)∧∀k:Nat,c < k→k < max fr 0+ur b fr to→lH b k∈R:=by
 have hlen:=congrArg List.length h;simp only [btw,List.length_map,List.length_range',List.length_append,List.length_cons] at hlen;have hget:∀k:Nat,max fr 0≤k→k < max fr 0+ur b fr to→(L++x::R)[k - (max fr 0).toNat]?=some (lH b k):=fun k h1 h2=>by
  rw [←h,btw,List.getElem?_map,List.getElem?_range' (by omega)];simp only [Option.map_some,Nat.one_mul];rw [show (max fr 0).toNat+(k - (max fr 0).toNat)=k by omega]
 refine ⟨(max fr 0).toNat+L.length,?_,by omega,by omega,fun k h1 h2=>?_,fun k h1 h2=>?_⟩
 ·have:=hget ((max fr 0).toNat+L.length) (by omega) (by omega);rw [show (max fr 0).toNat+L.length - (max fr 0).toNat=L.length by omega] at this;simpa using this
 ·have:=hget k h1 (by omega);rw [List.getElem?_append_left (by omega)] at this;exact List.mem_of_getElem? this
 ·have:=hget k (by omega) (by omega);rw [List.getElem?_append_right (by omega),show k - (max fr 0).toNat - L.length=(k - ((max fr 0).toNat+L.length) - 1)+1 by omega,List.getElem?_cons_succ] at this;exact List.mem_of_getElem? this
theorem F0 {b:List Brk} {i fit:Int} (h:eW b i fit) (hf:fit≤(b.length:Int) - 1) :
 ∃c:Nat,uh b i fit=c∧i < c∧(c:Int)≤fit∧∀k:Nat,i < k→(k:Int)≤fit→(k < c→(bkG b k).forced=0)∧((bkG b c).forced=0→k≠c→(bkG b k).forced=0∧(bkG b c).rank≤(bkG b k).rank∧(c < k→(bkG b k).rank≠(bkG b c).rank)):=by
 obtain ⟨_,h1,h2,h3⟩:=h;have hn:max (i+1) 0=i+1:=by omega
 have hb:ur b (i+1) fit=(fit - i).toNat:=by unfold ur; omega
 unfold uh kF DX;rcases tc ((btw b (i+1) fit).map (lH b)) yP with ⟨e,hz⟩ | ⟨L,x,R,e1,e2,e3,e4⟩
 ·rw [e,if_pos (show yP.i < 0 by decide)];have hz':∀k:Nat,i < k→(k:Int)≤fit→(bkG b k).forced=0:=fun k g1 g2=>by
   refine hz (lH b k) (List.mem_map.2 ⟨k,?_,rfl⟩);rw [btw,List.mem_range'_1];omega
  have hne:(btw b (i+1) fit).map (lH b)≠[]:=fun e=>by
   have:=congrArg List.length e;simp [btw,hb] at this;omega
  rcases List.eq_nil_or_concat ((btw b (i+1) fit).map (lH b)) with e | ⟨ys,z,e⟩
  ·exact absurd e hne
  ·rw [List.concat_eq_append] at e;obtain ⟨L,x,R,f1,f2,f3,f4⟩:=CL yP ys z;rw [←e] at f1 f2;obtain ⟨c,rfl,g1,g2,g3,g4⟩:=vk f1;rw [f2];refine ⟨c,rfl,by omega,by omega,fun k k1 k2=>⟨fun _=>hz' k k1 k2,fun _ hk=>⟨hz' k k1 k2,?_,fun hlt=>?_⟩⟩⟩
   ·rcases Nat.lt_or_gt_of_ne hk with hk | hk
    ·exact f3 _ (g3 k (by omega) hk)
    ·exact Int.le_of_lt (f4 _ (g4 k hk (by omega)))
   ·have:=f4 _ (g4 k hlt (by omega));exact fun e=>by simp only [lH] at this; omega
 ·obtain ⟨c,rfl,g1,g2,g3,g4⟩:=vk e1;rw [e4,if_neg (show ¬(lH b c).i < 0 from fun h=>by simp only [lH] at h; omega)];exact ⟨c,rfl,by omega,by omega,fun k k1 k2=>⟨fun hk=>e2 _ (g3 k (by omega) hk),fun hc=>absurd hc e3⟩⟩
inductive ri (b:Bk) (s t:Stt) (fs:List Frg) (top body:Int):Prop
 | more (h1:t.atom=s.atom) (h2:fs.length=1) (h3:ia b.atoms s > body) (h4:∀f,fs[0]?=some f→f.h=body) (h5:t.done=s.done+body)
 | whole (c r:Nat) (y:Int) (h1:t=⟨c,0,decide ((bkG b.brks c).forced≠0)⟩) (h2:s.atom < c) (h3:c≤r) (h4:r≤b.atoms.length) (h5:fs.length+s.atom=c) (h6:∀f,fs[0]?=some f→f.y=top+y)
    (h7:∀k (h:k < b.atoms.length),s.atom≤k→k < r→(if s.atom < k then y+(b.atoms[k].y - (atG b.atoms s.atom).y - s.done) else y)+(if k=s.atom then ia b.atoms s else b.atoms[k].h)≤body)
    (h8:∀(h:r < b.atoms.length),(if s.atom < r then y+(b.atoms[r].y - (atG b.atoms s.atom).y - s.done) else y)+(if r=s.atom then ia b.atoms s else b.atoms[r].h) > body)
    (h9:∀k:Nat,s.atom < k→k≤r→(k < c→(bkG b.brks k).forced=0)∧((bkG b.brks c).forced=0→k≠c→(bkG b.brks k).forced=0∧(bkG b.brks c).rank≤(bkG b.brks k).rank∧(c < k→(bkG b.brks k).rank≠(bkG b.brks c).rank)))
structure Gr (b:Bk) (x:Wx) (fs:List Frg) (t:Stt):Prop where
 ne:0 < fs.length
 fin:inF x.high (x.high+x.body) fs
 fst:∀f,fs[0]?=some f→f.atom=x.s.atom∧f.fr=x.s.done
 cut:ri b x.s t fs x.high x.body
structure dJ (b:Bk):Prop extends BkFull b where
 stk:b.atoms.Pairwise fun x y=>x.y+x.h≤y.y
 pos:∀a∈b.atoms,1≤a.h
 top:∀a∈b.atoms,0≤a.y
 mayb:ub b.brks=true
 fh:∀f∈b.fls,0≤f.h
 fy:∀f∈b.fls,0≤f.y
theorem zM {b:Bk} (hb:dJ b) (k:Int):0≤mC b.atoms k:=by
 unfold mC;split
 ·rename_i h;obtain ⟨n,rfl⟩:∃n:Nat,k=n:=⟨k.toNat,by omega⟩
  have hn:n < b.atoms.length:=by omega
  rw [bn hn];unfold gz;split
  ·rename_i h2;have e:(n:Int) - 1=((n - 1:Nat):Int):=by omega
   rw [e,bn (by omega)];have:=wi hb.stk (show n - 1 < n by omega) hn;omega
  ·have:=hb.top _ (List.getElem_mem hn); omega
 ·exact Int.le_refl _
theorem Ch {b:Bk} (hb:dJ b) {x:Wx} (hm:dt b.atoms x.s) (hx:x.fs=[])
 (hbody:1≤x.body) (hsh:0≤x.shift) (hnf:¬(x.shift > 0∧ia b.atoms x.s > x.body - x.shift)):Gr b x (dB b x).fs (ek b x).s:=by
 have hk:=hb.stk;have hpos:=hb.pos;have hbk:=hb.mayb;obtain ⟨r,hr,hr1,hr2,hr3,hr4⟩:=zK hk hpos hm (dH b x) x.shift x.body;have hm0:=hm;obtain ⟨⟨h0,h1⟩,h2,h3⟩:=hm;obtain ⟨a,ha⟩:∃a:Nat,x.s.atom=a:=⟨x.s.atom.toNat,by omega⟩
 have hal:a < b.atoms.length:=by omega
 have hag:atG b.atoms x.s.atom=b.atoms[a]:=by rw [ha,bn hal]
 have hpa:=hpos _ (List.getElem_mem hal);have hbl:=hb.brk;have hleft:ia b.atoms x.s=b.atoms[a].h - x.s.done:=by rw [ia,if_pos hm0,hag]
 rw [hag] at h3;have hl0:1≤ia b.atoms x.s:=by rw [hleft]; omega
 have hpl:∀kept sh k (h:k < b.atoms.length),a≤k→dy b.atoms x.s kept sh k=b.atoms[k].y - b.atoms[a].y - x.s.done+kept+sh:=fun kept sh k h hak=>by
  rw [dy,if_pos ⟨hm0,by omega,by omega⟩,fV,if_pos ⟨⟨h0,h1⟩,by omega,by omega⟩,hag,bn h]
 have hkept:dH b x=0∨0≤dH b x∧x.s.done=0∧dH b x+ia b.atoms x.s≤x.body - x.shift:=by
  unfold dH nV;split
  ·rename_i hc;obtain ⟨_,_,hd,hg⟩:=hc;rw [hleft];rw [hag] at hg;exact .inr ⟨zM hb _,hd,hg⟩
  ·exact .inl rfl
 have hrX:dP b x=r:=hr;unfold dB ek;by_cases hok:eW b.brks x.s.atom (dP b x)
 ·rw [if_pos hok,if_pos hok];obtain ⟨c,c1,c2,c3,c4⟩:=F0 hok (by rw [hrX]; omega);rw [show tY b x=c from c1,Int.toNat_natCast];rw [hrX] at c3 c4;have hlen:(bZ b { x with kind:=1 } (dH b x) (c - x.s.atom.toNat)).length=c - a:=by
   rw [bZ,List.length_map,List.length_range,ha,Int.toNat_natCast]
  have hfs:(sW b { x with kind:=1 } (dH b x) c).fs=bZ b { x with kind:=1 } (dH b x) (c - x.s.atom.toNat):=by
   simp only [sW,Wx.put,Wx.add,hx,List.nil_append]
  have hat:∀i (h:i < c - a),(bZ b { x with kind:=1 } (dH b x) (c - x.s.atom.toNat))[i]?=some (cq x.high (dg b.atoms x.s (dH b x) x.shift ((a+i:Nat):Int))):=fun i h=>by
   rw [bZ,List.getElem?_map,List.getElem?_range (by rw [ha]; omega),Option.map_some,ha];rfl
  have hwh:∀k (h:k < b.atoms.length),a≤k→(dg b.atoms x.s (dH b x) x.shift k).y=dy b.atoms x.s (dH b x) x.shift k+(if k=a then x.s.done else 0)∧(dg b.atoms x.s (dH b x) x.shift k).h=b.atoms[k].h - (if k=a then x.s.done else 0)∧(dg b.atoms x.s (dH b x) x.shift k).atom=k∧(dg b.atoms x.s (dH b x) x.shift k).fr=if k=a then x.s.done else 0:=fun k h hak=>by
   rw [dg,if_pos ⟨hm0,by omega,by omega⟩];by_cases e:k=a
   ·rw [if_pos (by omega),if_pos e];simp only [Frg.bM,kL,fj,bn h];exact ⟨trivial,trivial,trivial,trivial⟩
   ·rw [if_neg (by omega),if_neg e];simp only [kL,fj,bn h];exact ⟨(Int.add_zero _).symm,(Int.sub_zero _).symm,trivial,trivial⟩
  have hfirst:(bZ b { x with kind:=1 } (dH b x) (c - x.s.atom.toNat))[0]?=some (cq x.high (dg b.atoms x.s (dH b x) x.shift ((a:Nat):Int))):=hat 0 (by omega);obtain ⟨w1,w2,w3,w4⟩:=hwh a hal (Nat.le_refl _);rw [if_pos rfl] at w1 w2 w4;have hpa0:=hpl (dH b x) x.shift a hal (Nat.le_refl _);have hk0:0≤dH b x:=by rcases hkept with h | h <;> omega
  refine ⟨by rw [hfs,hlen]; omega,fun f hf=>?_,fun f hf=>?_,?_⟩
  ·rw [hfs] at hf;obtain ⟨i,hi⟩:=List.getElem?_of_mem hf;have hil:i < c - a:=by
    rw [←hlen]; exact (List.getElem?_eq_some_iff.1 hi).1
   rw [hat i hil] at hi;obtain rfl:=Option.some.inj hi;obtain ⟨v1,v2, -, -⟩:=hwh (a+i) (by omega) (by omega);have hpl':=hpl (dH b x) x.shift (a+i) (by omega) (by omega);have hfit:=hr3 (a+i) (by omega) (by omega) (by omega);have hph:=hpos _ (List.getElem_mem (show a+i < b.atoms.length by omega));simp only [cq];rw [v1,v2];rw [hpl'] at hfit ⊢;by_cases e:i=0
   ·subst e;simp only [Nat.add_zero,if_true] at hfit ⊢;omega
   ·rw [if_neg (by omega)];have hst:=wi hk (show a < a+i by omega) (by omega);omega
  ·rw [hfs,hfirst] at hf;obtain rfl:=Option.some.inj hf;simp only [cq];rw [w3,w4];exact ⟨ha.symm,rfl⟩
  ·refine .whole c r (dH b x+x.shift) rfl c2 (by omega) hr2 (by rw [hfs,hlen]; omega) (fun f hf=>?_) (fun k h h1 h2=>?_) (fun h=>?_) (fun k h1 h2=>c4 k h1 (by omega))
   ·rw [hfs,hfirst] at hf;obtain rfl:=Option.some.inj hf;simp only [cq];rw [w1,hpa0]; omega
   ·have:=hr3 k h h1 h2;rw [hpl _ _ k h (by omega)] at this;rw [hag];by_cases e:(k:Int)=x.s.atom
    ·obtain rfl:k=a:=by omega
     rw [if_neg (by omega),if_pos e,hleft]; omega
    ·rw [if_pos (by omega),if_neg e]; omega
   ·have:=hr4 h;rw [hpl _ _ r h (by omega)] at this;rw [hag];by_cases e:(r:Int)=x.s.atom
    ·obtain rfl:r=a:=by omega
     rw [if_neg (by omega),if_pos e,hleft]; omega
    ·rw [if_pos (by omega),if_neg e]; omega
 ·rw [if_neg hok,if_neg hok];have hra:r=a:=by
   have:¬x.s.atom < dP b x:=fun h=>hok ⟨hbk,h0,by omega,h⟩;omega
  have hgt:=hr4 (by omega);subst hra;rw [hpl _ _ r hal (Nat.le_refl _)] at hgt;have hk0:dH b x=0∧x.shift=0:=by
   rw [hleft] at hkept hnf;rcases hkept with h | h <;> omega
  have hso:nI b.atoms ({ x with kind:=1 }:Wx).s ({ x with kind:=1 }:Wx).body:=⟨hm0,hbody⟩
  have hfs:(tD b { x with kind:=1 }).fs=[cq x.high (jd b.atoms x.s x.body)]:=by
   simp only [tD,Wx.put,Wx.add,hx,List.nil_append]
  have hsl:jd b.atoms x.s x.body=⟨b.atoms[r].node,x.s.atom,x.s.done,b.atoms[r].x,0,b.atoms[r].w,x.body⟩:=by
   rw [jd,if_pos (show nI b.atoms x.s x.body from hso),eR];simp only [Frg.cut,Frg.bM,fj,hag];congr 1;omega
  have hnx:dY b.atoms x.s x.body=⟨x.s.atom,x.s.done+x.body,false⟩:=by
   rw [dY,if_pos (show nI b.atoms x.s x.body from hso)];rw [jd,if_pos (show nI b.atoms x.s x.body from hso)] at hsl;rw [hsl];simp only [iN,hag];rw [if_pos (by omega)]
  rw [hsl] at hfs;refine ⟨by rw [hfs]; exact Nat.one_pos,fun f hf=>?_,fun f hf=>?_, .more ?_ (by rw [hfs]; rfl) (by rw [hleft]; omega) (fun f hf=>?_) ?_⟩
  ·rw [hfs,List.mem_singleton] at hf; subst hf; simp only [cq]; omega
  ·rw [hfs] at hf; obtain rfl:=Option.some.inj hf; exact ⟨rfl,rfl⟩
  ·show (dY b.atoms x.s x.body).atom=_; rw [hnx]
  ·rw [hfs] at hf; obtain rfl:=Option.some.inj hf; rfl
  ·show (dY b.atoms x.s x.body).done=_; rw [hnx]
def OI (s t:Sta) (n:Int):Prop:=t.s.atom > s.s.atom∨t.s.atom=s.s.atom∧t.s.done > s.s.done∨t.s.atom=s.s.atom∧t.s.done=s.s.done∧(t.bJ.length < s.bJ.length∨t.s.atom=n∧t.s.free=false)
structure F8 (b:Bk) (s:Sta) (p:Pag) (t:Sta):Prop where
 no:p.no=0
 onw:OI s t b.atoms.length
 sum:(p.hs.map (·.h)).sum=(bw b s.s).high
 hd:inF 0 (bw b s.s).high p.hs
 fl:inF (bw b s.s).high b.h p.fs
 lo:inF (bw b s.s).high b.h p.ls
 kd:p.kind=1∨p.kind=2
 no':p.kind=2→p.fs=[]
 cut:p.kind=1→dt b.atoms s.s∧0 < p.fs.length∧(∀f,p.fs[0]?=some f→f.atom=s.s.atom∧f.fr=s.s.done)∧ri b s.s t.s p.fs (bw b s.s).high (bw b s.s).body
theorem Eb {α:Type} {p:α→Bool}:∀(l:List α),∀x∈l.takeWhile p,p x=true
 | [],x,h=>by cases h
 | a::l,x,h=>by
   rw [List.takeWhile_cons] at h;split at h
   ·rename_i ha;rcases List.mem_cons.1 h with rfl | h
    ·exact ha
    ·exact Eb l x h
   ·cases h
theorem Em {b:Bk} (hb:dJ b) {x:Wx} (hsh:0≤x.shift) (h:inF x.high (x.high+x.body) x.ls):inF x.high (x.high+x.body) (dB b x).ls:=by
 unfold dB;split
 ·exact wg h (v8 (zG hb.fh hsh))
 ·exact wg h (v8 (zG hb.fh (Int.le_refl _)))
theorem gd (b:Bk) (x:Wx):(dB b x).hs=x.hs∧(dB b x).kind=1:=by
 unfold dB; split <;> exact ⟨rfl,rfl⟩
theorem fE {b:Bk} (hb:dJ b) {s:Sta} (he:¬ej b s):F8 b s (bc b s).1 (bc b s).2:=by
 have hmay:gM b s:=Decidable.byContradiction fun h=>he (.inl h);have hnot:¬(s.s.atom=b.atoms.length∧s.s.free=false∧s.bJ=[]):=fun h=>he (.inr h);have hat:0≤s.s.atom:=by rcases hmay.2 with h | h; exact h.1.1; omega
 obtain ⟨r1,r2,r3,r4,r5⟩:=sF hb.toBkFull s.s hat;have hpf:∀f∈s.bJ,0≤f.h:=fun f hf=>hb.fh f (mi _ _ hmay.1 f hf);have htop:inF (bw b s.s).high ((bw b s.s).high+(bw b s.s).body) ((cB (bw b s.s).body s.bJ 0).1.map (jv (bw b s.s).high)):=v8 (BT (by omega) _ 0 (Int.le_refl _) (by omega) hpf);have hsh:=(rf (body:=(bw b s.s).body) s.bJ 0 (Int.le_refl _) (by omega) hpf).2.2;unfold bc;split
 ·rename_i h0;obtain ⟨h1,h2⟩:=h0;have hn:s.s.atom=0∧s.s.done=0:=by
   rcases hmay.2 with h | h
   ·have:=h.1; rw [h1] at this; simp at this; omega
   ·rw [h1] at h; simpa using h
  have hrv:bw b s.s=⟨[],0,b.h⟩:=by rw [bw,if_pos h1]
  refine ⟨rfl, .inr (.inr ⟨?_,?_, .inr ⟨?_,rfl⟩⟩),r5,r4,fun f hf=>(by cases hf),?_, .inr rfl,fun _=>rfl,fun h=>?_⟩
  ·simp [jA,hn]
  ·simp [jA,hn]
  ·simp [jA,h1]
  ·rw [←r3];refine v8 (high:=(bw b s.s).high) (body:=(bw b s.s).body) fun m hm=>?_;have h4:m.y+m.h≤(bw b s.s).body:=of_decide_eq_true (Eb _ m hm);have h5:m∈b.fls:=(List.takeWhile_sublist _).mem hm;exact ⟨hb.fy m h5,hb.fh m h5,h4⟩
  ·exact absurd h (show ¬((2:Int)=1) by decide)
 ·split
  ·rename_i hf;refine ⟨rfl,?_,r5,r4,fun f hf=>(by cases hf),by rw [←r3]; exact htop, .inr rfl,fun _=>rfl,fun h=>absurd h (show ¬((2:Int)=1) by decide)⟩;refine .inr (.inr ⟨rfl,rfl,?_⟩);cases hp:s.bJ with
   | cons f r=>exact .inl (oR f r)
   | nil =>
     unfold mJ at hf;rw [hp] at hf;simp only [cB] at hf;have ha:s.s.atom=b.atoms.length:=by
      rcases hf with h | h | h
      ·exact h
      ·exact absurd rfl h
      ·omega
     exact .inr ⟨ha,by simp [ha]⟩
  ·rename_i hf;have hm:dt b.atoms s.s:=hmay.2.resolve_right fun h=>hf (.inl h.1);have hfn:=py (x:=bX b s) hb.toBkOk hm hb.pos r2;have hfg:=Ch hb (x:=bX b s) hm rfl r2 hsh.1 (fun h=>hf (.inr (.inr h)));have hls:=Em hb (x:=bX b s) hsh.1 (wg (l:=[]) (fun f hf=>(by cases hf)) htop);have hoth:=gd b (bX b s);have xs:(bX b s).s=s.s:=rfl;have xh:(bX b s).high=(bw b s.s).high:=rfl;have xb:(bX b s).body=(bw b s.s).body:=rfl;rw [xh,xb,r3] at hls;obtain ⟨f1,f2,f3,f4⟩:=hfg;rw [xh,xb] at f2 f4;rw [r3] at f2;refine ⟨rfl,?_,?_,?_,f2,hls, .inl hoth.2,fun h=>?_,fun _=>⟨hm,f1,f3,f4⟩⟩
   ·generalize ek b (bX b s)=z at hfn;cases hfn with
    | whole c fr p g1 g2 g3=>exact .inl g1
    | more d p g1 g2 g3=>exact .inr (.inl ⟨rfl,g1⟩)
   ·show ((dB b (bX b s)).hs.map _).sum=_;rw [hoth.1]; exact r5
   ·show inF _ _ (dB b (bX b s)).hs;rw [hoth.1]; exact r4
   ·have:(dB b (bX b s)).kind=2:=h;rw [hoth.2] at this; cases this
theorem my {l:List Nd} (hl:dE l) {w h:Int} (he:gl l w h=0):dJ (bQ l w h):=by
 obtain ⟨hw,hh,hc⟩:=ke he;obtain ⟨hisb,hn,hwo,hcs⟩:=mY hc;have hG:=sQ hisb hn hw.1 hw.2;obtain ⟨h1,h2⟩:=Cn hl he;refine ⟨h1,Hz hisb hn hw.1 hw.2,fun a ha=>(hG.at' a ha).h0,fun a ha=>(hG.at' a ha).y0,?_,h2,fun f hf=>(hG.flo f hf).y0⟩;show ub (nD l (ofR l w))=true;refine G5 hisb fun x hx=>?_;unfold ofR at hx;obtain ⟨a,ha,rfl⟩:=List.mem_map.1 hx;exact hG.nod a ha
open Go.Proofs Go.Proofs.Tryz
def qj (b:List Brk) (p:Pag) (s:Stt):Int :=
 if p.kind≠1∨s.done > 0 then -1 else if (bkG b s.atom.toNat).forced=3 then 0 else if (bkG b s.atom.toNat).forced=4 then 1 else -1
theorem HN (b:List Brk) (hb:b.length≤1000000) (p:Pag) (s:Stt) (h0:0≤s.atom) (h1:s.atom < b.length):aU prog 77 [bF b,bI p,br s] (vI (qj b p s)):=fun σ=>by
 refine e77.r (by simp [c77]) ?_;have hs:=aa.refl σ;obtain ⟨no,kd,hh,ff,ll⟩:=p;obtain ⟨a,d,fr⟩:=s;obtain ⟨k,rfl⟩:∃k:Nat,a=k:=⟨a.toNat,by simp only at h0; omega⟩
 have hk:k < b.length:=by simp only at h1; omega
 have hpc:(bI ⟨no,kd,hh,ff,ll⟩).cells=[vI no,vI kd,aT hh,aT ff,aT ll]:=rfl;have hpp:(bI ⟨no,kd,hh,ff,ll⟩).stays=true:=rfl;have hsc:(br ⟨k,d,fr⟩).cells=[vI k,vI d, .bool fr]:=rfl;have hss:(br ⟨k,d,fr⟩).stays=true:=rfl;have hbs:=gq b;have hbc:=gA b;obtain ⟨⟨c,f,r⟩,hf⟩:∃x,b[k]=x:=⟨_,rfl⟩
 have hidx:∀σ,bD σ 3 (bF b) (.int .i64 k)=some (.rp (.agg [vI c,vI f,vI r])):=fun σ=>by rw [pr hk,hf,eL]
 have hg:bkG b ((k:Int)).toNat=⟨c,f,r⟩:=by simp [bkG,hk,hf]
 have hR:qj b ⟨no,kd,hh,ff,ll⟩ ⟨k,d,fr⟩=if kd≠1∨d > 0 then -1 else if f=3 then 0 else if f=4 then 1 else -1:=by simp only [qj,hg]
 generalize qj b ⟨no,kd,hh,ff,ll⟩ ⟨k,d,fr⟩=R at *;refine ad.mix 6 ?_;apply sR;simp only [go_sem,seval,c77,hpc,hpp,hsc,hss,hbs,hbc];refine ae fun i4 σ4 s4 a4 f4=>?_;have z4:=hs.none f4;replace hs:=hs.trans s4;simp only [go_sem,seval,hsc];refine ae fun i5 σ5 s5 a5 f5=>?_;have n45:=ao a4 f5;replace a4:=s5 _ _ a4;have z5:=hs.none f5;replace hs:=hs.trans s5;by_cases q1:kd=1
 ·have q1':(kd≠1)=False:=by simp [q1]
  by_cases q2:d > 0
  ·have q2':(d > 0)=True:=eq_true q2;simp only [go_sem,seval,a4,a5,q1',q2',hpc,hsc];rw [if_pos (.inr q2)] at hR;exact ar.pure hs (congrArg vI hR.symm)
  ·have q2':(d > 0)=False:=eq_false q2;rw [if_neg (fun h=>h.elim (fun h=>h q1) q2)] at hR;by_cases q3:f=3
   ·have q3':(f=3)=True:=eq_true q3;simp only [go_sem,seval,a4,a5,q1',q2',q3',hidx,hpc,hsc,hbs,hbc];rw [if_pos q3] at hR;exact ar.pure hs (congrArg vI hR.symm)
   ·have q3':(f=3)=False:=eq_false q3;rw [if_neg q3] at hR;by_cases q4:f=4
    ·have q4':(f=4)=True:=eq_true q4;simp only [go_sem,seval,a4,a5,q1',q2',q3',q4',hidx,hpc,hsc,hbs,hbc];rw [if_pos q4] at hR;exact ar.pure hs (congrArg vI hR.symm)
    ·have q4':(f=4)=False:=eq_false q4;simp only [go_sem,seval,a4,a5,q1',q2',q3',q4',hidx,hpc,hsc,hbs,hbc];rw [if_neg q4] at hR;exact ar.pure hs (congrArg vI hR.symm)
 ·have q1':(kd≠1)=True:=eq_true q1;simp only [go_sem,seval,a4,a5,q1',hpc,hsc];rw [if_pos (.inl q1)] at hR;exact ar.pure hs (congrArg vI hR.symm)
open Go.Proofs Go.Proofs.Tryz
theorem wG {idl i1 i2 e1 e2:Nat} {n:Int} {x:V} {σ:af} {Post:Bool→af→Prop} (r1:inR .i64 (n+1)) (h1:σ i1=some ⟨e1,1,[vI n]⟩) (h2:σ i2=some ⟨e2,1,[.yl idl]⟩) (hne:i1≠i2)
 (hy:YC prog idl [x] (upd σ i1 ⟨e1,1,[vI (n+1)]⟩) Post):az prog 76 [x, .ptr i1 0 0, .ptr i2 0 0] σ fun r σ'=>∃b,r=.bool b∧Post b σ':=by
 refine e76.r (by simp [c76]) ?_;refine ad.mix 6 ?_;apply sR;simp only [go_sem,seval,c76,h1,r1,h2,ab hne,ab hne.symm];refine ad.kV (Post:=Post) rfl rfl rfl hy ?_;intro b σ' hb;apply sR;simp only [go_sem,seval];exact ⟨_,σ',aa.refl _,Wk.refl (aa.refl _) _,b,rfl,hb⟩
def htN (x:Nd):Int:=if x.kind=2 then x.line*x.words.length else if x.kind=3 then x.h else 0
def hts (l:List Nd):Nat→Int
 | 0=>0
 | i+1=>hts l i+htN (ndA l i)
theorem nm {x:Nd} (h:NOk x):0≤htN x:=by
 have h1:=h.line.1;have h2:=h.h.1;unfold htN;split
 ·exact Int.mul_nonneg h1 (by omega)
 ·split <;> omega
theorem xd {l:List Nd} (hb:isB l=true) {a:Nat}:∀n,a+n≤l.length→hts l a≤hts l (a+n)
 | 0,_=>Int.le_refl _
 | n+1,h=>by
   have ih:=xd (a:=a) hb n (by omega);have h1:NOk (ndA l (a+n)):=by rw [iE (show a+n < l.length by omega)]; exact fM hb _
   have h2:=nm h1;rw [←Nat.add_assoc,hts]; omega
def htA (l:List Atm):Int:=(l.map (·.h)).sum
theorem Bh (l m:List Atm):htA (l++m)=htA l+htA m:=by unfold htA; rw [List.map_append,List.sum_append]
theorem vZ {l:List Nd} {rs:List Rm} (hD:DOk l rs):∀(k a e:Nat) (s:WS) (C:Nat),e - a≤k→a≤e→e≤l.length→bV l a e=true→fp s C→htA s.atoms≤hts l a→htA (df l rs k a e s).atoms≤hts l e
 | 0,a,e,s,C,hk,hae,_,_,_,h=>by
   obtain rfl:a=e:=by omega
   exact h
 | k+1,a,e,s,C,hk,hae,he,hr,h,hs=>by
   rw [df];by_cases hlt:a < e
   ·rw [if_pos hlt];obtain ⟨h1,h2⟩:=cM he hr (Nat.le_refl a) hlt;obtain ⟨h3,h4⟩:=dL he hr hlt;have hno:NOk (ndA l a):=by rw [iE (by omega)]; exact fM hD.isb (by omega)
    have step:∀t,(∃D,fp t D)→htA t.atoms≤hts l (a+(szI l a).toNat)→htA (df l rs k (a+(szI l a).toNat) e t).atoms≤hts l e:=fun t ⟨D,ht⟩ hA =>
     vZ hD k _ e t D (by omega) (by omega) he h3 ht hA
    have hs1:htN (ndA l a)+htA s.atoms≤hts l (a+1):=by rw [hts]; omega
    have one:hts l (a+1)≤hts l (a+(szI l a).toNat):=by
     obtain ⟨m,hm⟩:∃m,(szI l a).toNat=1+m:=⟨(szI l a).toNat - 1,by omega⟩
     rw [hm,←Nat.add_assoc];exact xd hD.isb m (by omega)
    split
    ·rename_i k1;have hz:htN (ndA l a)=0:=by rw [htN,if_neg (by omega),if_neg (by omega)]
     have hI2:=fS hD k (a+1) (a+(szI l a).toNat) _ _ (by omega) (by omega) (by omega) h4 (eH h hno.st);have hS2:=vZ hD k (a+1) (a+(szI l a).toNat) _ _ (by omega) (by omega) (by omega) h4 (eH h hno.st) (show htA s.atoms≤_ by omega);exact step _ ⟨_,jc hI2 hno.st⟩ hS2
    ·split
     ·rename_i k1 k2;refine step _ ⟨_,jZ h hno a⟩ (Int.le_trans ?_ one);have hp:=lA a (ndA l a).line (cX s.floats (ndA l a).words (ndA l a).space (ndA l a).line (dX rs a) (ndA l a).words.length 0 (s.pen.y+s.pen.m)) s;have hlen:=jj s.floats (ndA l a).words (ndA l a).space (ndA l a).line (dX rs a) (ndA l a).words.length 0 (s.pen.y+s.pen.m);have e:(s.text rs a (ndA l a)).atoms=_:=hp;rw [e,Bh];generalize cX s.floats (ndA l a).words (ndA l a).space (ndA l a).line (dX rs a) (ndA l a).words.length 0 (s.pen.y+s.pen.m)=L at *;have iC:htA (L.map (eE a (ndA l a).line))=(ndA l a).line*L.length:=by
       clear e hp hlen
       induction L with
       | nil=>simp [htA]
       | cons x L ih =>
         have:htA ((x::L).map (eE a (ndA l a).line))=(ndA l a).line+htA (L.map (eE a (ndA l a).line)):=rfl;rw [this,ih,List.length_cons,Int.natCast_add,Int.mul_add]; omega
      have hle:(ndA l a).line*(L.length:Int)≤(ndA l a).line*((ndA l a).words.length:Int):=Int.mul_le_mul_of_nonneg_left (by omega) hno.line.1;have hz:htN (ndA l a)=(ndA l a).line*((ndA l a).words.length:Int):=by rw [htN,if_pos k2]
      omega
     ·split
      ·rename_i k1 k2 k3;refine step _ ⟨_,j6 h hno a⟩ (Int.le_trans ?_ one);have hz:htN (ndA l a)=(ndA l a).h:=by rw [htN,if_neg k2,if_pos k3]
       have e:(WS.mono l rs s a (ndA l a)).atoms=s.atoms++[⟨2,a,0,0,(dC s.floats (j7 s.floats (ndA l a).w (ndA l a).h (dX rs a) (s.pen.y+s.pen.m)) (ndA l a).h (dX rs a)).a,j7 s.floats (ndA l a).w (ndA l a).h (dX rs a) (s.pen.y+s.pen.m),(ndA l a).w,(ndA l a).h⟩]:=rfl;rw [e,Bh];simp only [htA,List.map_cons,List.map_nil,List.sum_cons,List.sum_nil];simp only [htA] at hs1;omega
      ·have k4:(ndA l a).kind=4:=by rename_i g1 g2 g3; rcases hno.kind with h | h | h | h; exact absurd h g1; exact absurd h g2; exact absurd h g3; exact h
       have hz:=nm hno;exact step _ ⟨_,ja hD h (by omega) hno k4⟩ (show htA s.atoms≤_ by omega)
   ·rw [if_neg hlt];obtain rfl:a=e:=by omega
    exact hs
theorem KW {l:List Nd} (hb:isB l=true) (hn:l.length≤2000) {w:Int} (h1:1≤w) (h2:w≤1099511627776):htA (cm l w).atoms≤hts l l.length:=by
 have hD:=sN hb hn h1 h2;have hr:bV l 0 l.length=true:=by simp only [isB,Ba] at hb; exact hb.2
 have hI:fp ⟨[],[],0,⟨0,0⟩⟩ 0:=⟨⟨by simp,by simp,by simp,by simp,by simp⟩,by simp,by simp⟩
 exact vZ hD l.length 0 l.length ⟨[],[],0,⟨0,0⟩⟩ 0 (by omega) (by omega) (Nat.le_refl _) hr hI (by simp [htA,hts])
theorem xJ {l:List Nd} (hb:isB l=true) {s:Sm} (hs:0≤s.heights∧s.heights≤1099511627777):∀i,i≤l.length→0≤(gj l s i).heights∧(gj l s i).heights≤1099511627777∧min (hts l i) 1099511627777≤(gj l s i).heights
 | 0,_=>⟨hs.1,hs.2,by simp only [hts,gj]; omega⟩
 | i+1,hi=>by
   obtain ⟨h1,h2,h3⟩:=xJ hb hs i (by omega);have hno:NOk (ndA l i):=by rw [iE (by omega)]; exact fM hb (by omega)
   have hz:=nm hno;have hst:=hno.st;rw [gj,hts,List.getElem?_eq_getElem (by omega)];rw [iE (show i < l.length by omega)] at hno hz hst ⊢;simp only;unfold nA;split
   ·rename_i k1;have e:htN l[i]=0:=by rw [htN,if_neg (by omega),if_neg (by omega)]
    have g1:=hst.top.1; have g2:=hst.bottom.1; have g3:=hst.padTop.1; have g4:=hst.padBottom.1; have g5:=hst.head.1;simp only [jq];omega
   ·split
    ·rename_i k1 k2;have e:htN l[i]=l[i].line*l[i].words.length:=by rw [htN,if_pos k2]
     simp only;rw [rj ⟨h1,h2⟩ hno.line.1];omega
    ·rename_i k1 k2;have hh:=hno.h.1;have e:htN l[i]≤l[i].h:=by rw [htN,if_neg k2]; split <;> omega
     simp only [jq];omega
theorem zQ {l:List Nd} (hb:isB l=true) (h:(ig l).1.heights≤1099511627776):hts l l.length≤(ig l).1.heights:=by
 unfold ig at h ⊢;rw [if_pos hb] at h ⊢;have:=(xJ hb (s:=⟨0,0,l.length,0⟩) ⟨Int.le_refl _,(by decide:(0:Int)≤1099511627777)⟩ l.length (Nat.le_refl _)).2.2;simp only at h ⊢;omega
theorem A5 {cnt:Nat→Nat}:∀ {n a:Nat} {x:Int},x∈blk cnt a n→∃i:Nat,x=i∧a≤i∧i < a+n∧0 < cnt i
 | 0,a,x,h=>by rw [jm] at h; cases h
 | n+1,a,x,h=>by
   rw [gu] at h;rcases List.mem_append.1 h with h | h
   ·obtain ⟨h1,rfl⟩:=List.mem_replicate.1 h;exact ⟨a,rfl,Nat.le_refl _,by omega,by omega⟩
   ·obtain ⟨i,h1,h2,h3,h4⟩:=A5 h;exact ⟨i,h1,by omega,by omega,h4⟩
theorem FM {l:List Nd} (hb:isB l=true) (hn:l.length≤2000) {w:Int} (h1:1≤w) (h2:w≤1099511627776):∀a∈(cm l w).atoms,∃i:Nat,a.node=i∧i < l.length∧((ndA l i).kind=2∨(ndA l i).kind=3):=fun a ha=>by
 have hD:=sN hb hn h1 h2;have hr:bV l 0 l.length=true:=by simp only [isB,Ba] at hb; exact hb.2
 have hI:fp ⟨[],[],0,⟨0,0⟩⟩ 0:=⟨⟨by simp,by simp,by simp,by simp,by simp⟩,by simp,by simp⟩
 obtain ⟨-,cnt,hc,hco⟩:=qV hD l.length 0 l.length ⟨[],[],0,⟨0,0⟩⟩ 0 (by omega) (by omega) (Nat.le_refl _) hr hI (by simp);have hm:a.node∈(df l (gG l w) l.length 0 l.length ⟨[],[],0,⟨0,0⟩⟩).atoms.map (·.node):=List.mem_map.2 ⟨a,ha,rfl⟩;rw [hc] at hm;simp only [List.map_nil,List.nil_append] at hm;obtain ⟨i,e,_,h3,h4⟩:=A5 hm;refine ⟨i,e,by omega,?_⟩;have:=hco i (Nat.zero_le _) (by omega);unfold okN at this;split at this
 ·rename_i k; exact .inl k
 ·split at this
  ·rename_i k; exact .inr k
  ·have:=of_decide_eq_true this; omega
theorem least_le {l:List Nd} {h:Int}:∀ {n j:Nat},j < n→((ndA l j).kind=2∨(ndA l j).kind=3)→gJ l h n≤(vP l j h).body
 | 0,j,hj,_=>by omega
 | n+1,j,hj,hk=>by
   rw [gJ];by_cases e:j=n
   ·subst e; rw [if_pos hk]; omega
   ·have:=least_le (l:=l) (h:=h) (show j < n by omega) hk;split <;> omega
theorem uJ {l:List Nd} {h:Int} (hh:1≤h):∀n,1≤gJ l h n
 | 0=>hh
 | n+1=>by
   have h1:=uJ (l:=l) hh n;have h2:1≤(vP l n h).body:=pg hh _;rw [gJ]; split <;> omega
theorem Hu {l:List Nd} {h:Int} (hb:isB l=true) (h1:1≤h) (h2:h≤1099511627776):iG l h=true:=by
 unfold iG; rw [hb]; simp [h1,h2]
structure mn (b:Bk) (L:Int):Prop where
 pos:1≤L
 body:∀s:Stt,0≤s.atom→b.atoms≠[]→L≤(bw b s).body
 rest:er b 0≤L*32768
 na:b.atoms.length≤10000
 nf:b.fls.length≤10000
theorem HY {L:Int} (h1:1≤L):mulR L 32768≤L*32768:=by
 have e:dn 32768=32768:=by decide
 have e2:(1099511627776:Int).tdiv (max 32768 (-32768))=33554432:=by decide
 unfold mulR;rw [e,e2];have hc:dn L≤L∧0≤dn L:=by unfold dn; (repeat' split) <;> omega
 split
 ·rename_i h;obtain ⟨_,h | h⟩:=h
  ·split <;> omega
  ·exact absurd h (by have:(-1099511627776:Int).tdiv (max 32768 (-32768)) = -33554432:=by decide
                      rw [this]; omega)
 ·have:=hc.1;omega
theorem rK {l:List Nd} {w h:Int} (he:gl l w h=0):mn (bQ l w h) (gw l h):=by
 have he0:=he;obtain ⟨hw,hh,hc⟩:=ke he;obtain ⟨hisb,hn,hwo,hcs⟩:=mY hc;have hG:=sQ hisb hn hw.1 hw.2;have hl1:=hG.len;have hl2:=hG.flen;have hm:=Hu hisb hh.1 hh.2;have hL:gw l h=gJ l h l.length:=by rw [gw,if_pos hm]
 have hp:1≤gw l h:=by rw [hL]; exact uJ hh.1 _
 refine ⟨hp,fun s h0 hne=>?_,?_,by show (cm l w).atoms.length≤_; omega,by show (cm l w).floats.length≤_; omega⟩
 ·unfold bw;rw [if_neg hne];have hlen:0 < (bQ l w h).atoms.length:=List.length_pos_iff.2 hne;obtain ⟨k,hk⟩:∃k:Nat,min s.atom (((bQ l w h).atoms.length:Int) - 1)=k:=⟨(min s.atom (((bQ l w h).atoms.length:Int) - 1)).toNat,by omega⟩
  have hkl:k < (bQ l w h).atoms.length:=by omega
  rw [hk,bn hkl];obtain ⟨i,e1,e2,e3⟩:=FM hisb hn hw.1 hw.2 _ (List.getElem_mem (show k < (cm l w).atoms.length from hkl));have e4:(bQ l w h).atoms[k].node=i:=e1;rw [e4,qJ,hL];have hm':iG (bQ l w h).nodes (bQ l w h).h=true:=hm;rw [if_pos ⟨hm',by omega,show ((i:Nat):Int) < (l.length:Nat) by omega⟩,Int.toNat_natCast];exact least_le e2 e3
 ·have h1:er (bQ l w h) 0=htA (cm l w).atoms:=rfl;have h2:=KW hisb hn hw.1 hw.2;have h3:(ig l).1.heights≤1099511627776:=by
   unfold eU at hc;rw [if_pos hisb] at hc;split at hc
   ·cases hc
   ·omega
  have h4:=zQ hisb h3;have h5:¬(ig l).1.heights > mulR (gw l h) 32768:=fun h=>by
   unfold gl at he0;rw [if_neg (fun g=>g ⟨hw,hh⟩),if_neg (fun g=>g hc),if_pos h] at he0;cases he0
  have h6:=HY hp;omega
def oK (b:Bk) (L:Int) (s:Sta):Int:=((b.atoms.length:Int) - s.s.atom)+(er b s.s.atom.toNat - s.s.done) / L
def mu2 (b:Bk) (L:Int) (s:Sta):Nat:=(oK b L s).toNat*(2*b.fls.length+3)+(if s.s.free=true then b.fls.length+1 else 0)+s.bJ.length
theorem jf.bJ {b:Bk} {x:Wx} {t:Sta} (h:jf b x t):t.bJ.length≤b.fls.length:=by
 cases h with
 | whole c fr p h1 h2 h3=>exact h3
 | more d p h1 h2 h3=>exact h3
theorem xM {b:Bk} (hb:dJ b) {L:Int} (hL:mn b L) {s:Sta} (he:¬ej b s):mu2 b L (bc b s).2 < mu2 b L s:=by
 have hmay:gM b s:=Decidable.byContradiction fun h=>he (.inl h);have hnot:¬(s.s.atom=b.atoms.length∧s.s.free=false∧s.bJ=[]):=fun h=>he (.inr h);have hat:0≤s.s.atom:=by rcases hmay.2 with h | h; exact h.1.1; omega
 have hpos:=hb.pos;have hg:=fE hb he;have hcut:=hg.cut;revert hcut;unfold bc;split
 ·rename_i h0;intro _;obtain ⟨h1,h2⟩:=h0;have hr:∀a,er b a=0:=fun a=>by unfold er; rw [h1]; simp
  have hd:s.s.done=0∧s.s.atom=0:=by
   rcases hmay.2 with h | h
   ·have:=h.1; rw [h1] at this; simp at this; omega
   ·rw [h1] at h; simp at h; omega
  have hdl:(b.fls.dropWhile (jo (bH b s.s .aD).body)).length≤b.fls.length:=(List.dropWhile_sublist _).length_le;simp only [mu2,oK,jA,hr,h2,hd,h1,if_true];simp;omega
 ·split
  ·rename_i hf;intro _;unfold mu2 oK;simp only;cases hp:s.bJ with
   | cons f r =>
     have:=oR (body:=(bw b s.s).body) f r;simp only [List.length_cons] at this;cases s.s.free <;> by_cases h:s.s.atom < b.atoms.length <;> simp [h] <;> omega
   | nil =>
     unfold mJ at hf;rw [hp] at hf;simp only [cB] at hf;have ha:s.s.atom=b.atoms.length:=by
      rcases hf with h | h | h
      ·exact h
      ·exact absurd rfl h
      ·omega
     have hfr:s.s.free=true:=by
      cases h:s.s.free
      ·exact absurd ⟨ha,h,hp⟩ hnot
      ·rfl
     simp [cB,ha,hfr]
  ·rename_i hf;have hm:dt b.atoms s.s:=hmay.2.resolve_right fun h=>hf (.inl h.1);have hne:b.atoms≠[]:=fun h=>by have:=hm.1; rw [h] at this; simp at this; omega
   have hbd:=hL.body s.s hat hne;have hL1:=hL.pos;have hpd:=(py (x:=bX b s) hb.toBkOk hm hpos (gg hb.toBkFull s.s hat)).bJ;intro hcut;have hkind:(kO (dB b (bX b s))).kind=1:=(gd b (bX b s)).2;obtain ⟨-, -, -,hcg⟩:=hcut hkind;obtain ⟨⟨h0,h1⟩,h2,h3⟩:=hm;obtain ⟨k,hk⟩:∃k:Nat,s.s.atom=k:=⟨s.s.atom.toNat,by omega⟩
   have hkl:k < b.atoms.length:=by omega
   have hph:=hpos _ (List.getElem_mem hkl);have hst:=sK hkl;have hnn:=ov hpos (k+1);have hlf:ia b.atoms s.s=b.atoms[k].h - s.s.done:=by rw [ia,if_pos ⟨⟨h0,h1⟩,h2,h3⟩,hk,bn hkl]
   rw [hk,bn hkl] at h3;have key:∀t:Sta,t.bJ.length≤b.fls.length→0≤oK b L t→oK b L t+1≤oK b L s→mu2 b L t < mu2 b L s:=fun t hp g1 g2=>by
    unfold mu2;have hlt:(oK b L t).toNat+1≤(oK b L s).toNat:=by omega
    have hmul:((oK b L t).toNat+1)*(2*b.fls.length+3)≤(oK b L s).toNat*(2*b.fls.length+3):=Nat.mul_le_mul_right _ hlt;rw [Nat.add_mul,Nat.one_mul] at hmul;have:(if t.s.free=true then b.fls.length+1 else 0)≤b.fls.length+1:=by split <;> omega
    omega
   refine key _ hpd ?_ ?_
   all_goals
    change ri b s.s (ek b (bX b s)).s _ _ _ at hcg;generalize ek b (bX b s)=z at *;unfold oK;simp only;cases hcg with
    | more q1 q2 q3 q4 q5 =>
      rw [q1,q5,hk,Int.toNat_natCast];rw [hlf] at q3;have e1:0≤(er b k - (s.s.done+(bw b s.s).body)) / L:=Int.ediv_nonneg (by omega) (by omega);have e2:(er b k - (s.s.done+(bw b s.s).body)) / L≤(er b k - s.s.done - L) / L:=Int.ediv_le_ediv (by omega) (by omega);have e3:(er b k - s.s.done - L) / L=(er b k - s.s.done) / L - 1:=by
       have:=Int.add_mul_ediv_right (er b k - s.s.done) (-1) (show L≠0 by omega);rw [show er b k - s.s.done - L=er b k - s.s.done + -1*L by omega,this]; omega
      omega
    | whole c r y q1 q2 q3 q4 q5 q6 q7 q8 q9 =>
      rw [hk] at q2;simp only [q1,hk,Int.toNat_natCast];have e0:=zf hpos (k+1) (c - (k+1));rw [show k+1+(c - (k+1))=c by omega] at e0;have e1:0≤(er b c - 0) / L:=Int.ediv_nonneg (by have:=ov hpos c; omega) (by omega);have e2:(er b c - 0) / L≤(er b k - s.s.done) / L:=Int.ediv_le_ediv (by omega) (by omega);omega
theorem vi {b:Bk} {L:Int} (hL:mn b L):mu2 b L ⟨⟨0,0,true⟩,[]⟩≤1000000000:=by
 have h1:=hL.rest;have h2:=hL.na;have h3:=hL.nf;have h4:=hL.pos;have e:(er b 0 - 0) / L≤32768:=by
  have:(er b 0 - 0) / L≤(32768*L) / L:=Int.ediv_le_ediv (by omega) (by omega);rw [Int.mul_ediv_cancel _ (by omega)] at this;exact this
 have hw:(oK b L ⟨⟨0,0,true⟩,[]⟩).toNat≤42768:=by
  unfold oK;simp only;have:(0:Int).toNat=0:=rfl;rw [this];omega
 unfold mu2;simp only [if_true,List.length_nil];have:(oK b L ⟨⟨0,0,true⟩,[]⟩).toNat*(2*b.fls.length+3)≤42768*20003:=Nat.mul_le_mul hw (by omega);omega
open Go.Proofs Go.Proofs.Tryz
def gY (b:Bk) (s:Sta):Int:=qj b.brks (bc b s).1 s.s
def shK (b:Bk):Nat→Sta→Int→List (Option Pag)
 | 0,_,_=>[]
 | f+1,s,no=>if ej b s then [] else
   if 0≤gY b s∧(no+1) % 2≠gY b s then none::some (bc b s).1::shK b f (bc b s).2 (no+2) else some (bc b s).1::shK b f (bc b s).2 (no+1)
def shV:Option Pag→V
 | none=>.iface 118 (.agg [])
 | some p=>.iface 116 (bI p)
structure ShJ (idl e2 i2 i4 i6:Nat) (no:Int) (s:Sta) (σJ σ:af):Prop where
 sub:aa σJ σ
 y:σ i2=some ⟨e2,1,[.yl idl]⟩
 n:σ i4=some ⟨3,1,[vI no]⟩
 st:σ i6=some ⟨27,4,[cO s]⟩
 n2:σJ i2=none
 n4:σJ i4=none
 n6:σJ i6=none
 e24:i2≠i4
 e26:i2≠i6
 e46:i4≠i6
theorem ShJ.mono {idl e2 i2 i4 i6:Nat} {no:Int} {s:Sta} {σJ σ τ:af} (h:ShJ idl e2 i2 i4 i6 no s σJ σ) (hs:aa σ τ):ShJ idl e2 i2 i4 i6 no s σJ τ :=
 ⟨h.sub.trans hs,hs _ _ h.y,hs _ _ h.n,hs _ _ h.st,h.n2,h.n4,h.n6,h.e24,h.e26,h.e46⟩
theorem ShJ.given {idl e2 i2 i4 i6:Nat} {no:Int} {s:Sta} {σJ σ σJ' σ':af} (h:ShJ idl e2 i2 i4 i6 no s σJ σ) (hb:bb σJ (upd σ i4 ⟨3,1,[vI (no+1)]⟩) σJ' σ'):ShJ idl e2 i2 i4 i6 (no+1) s σJ' σ':=by
 obtain ⟨a1,a2⟩:=hb.2 i2 _ h.n2 (by rw [ab h.e24]; exact h.y);obtain ⟨b1,b2⟩:=hb.2 i4 _ h.n4 ag;obtain ⟨c1,c2⟩:=hb.2 i6 _ h.n6 (by rw [ab h.e46.symm]; exact h.st);exact ⟨hb.1,a1,b1,c1,a2,b2,c2,h.e24,h.e26,h.e46⟩
theorem ShJ.next {idl e2 i2 i4 i6:Nat} {no:Int} {s:Sta} {σJ σ σ10:af} {i10:Nat} {o:Ob} (h:ShJ idl e2 i2 i4 i6 no s σJ σ) (hs:aa (upd σ i6 o) σ10) (hf:upd σ i6 o i10=none) (t:Sta) :
 ShJ idl e2 i2 i4 i10 no t σJ (upd σ10 i10 ⟨27,4,[cO t]⟩):=by
 have h1:=(h.sub.aB (o:=o) h.n6)
 have y':=hs _ _ ((ab h.e26 (o:=o)).trans h.y);have n':=hs _ _ ((ab h.e46 (o:=o)).trans h.n);have k2:i2≠i10:=fun e=>by rw [←e,ab h.e26,h.y] at hf; cases hf
 have k4:i4≠i10:=fun e=>by rw [←e,ab h.e46,h.n] at hf; cases hf
 have nn:σJ i10=none:=h1.none hf;exact ⟨(h1.trans hs).aB nn,(ab k2).trans y',(ab k4).trans n',ag,h.n2,h.n4,nn,h.e24,k2,k4⟩
theorem Du {b:Bk} (hb:dJ b) {s:Sta} (hp:s.bJ.length≤1000000) (he:¬ej b s):(bc b s).2.bJ.length≤1000000:=by
 have hmay:gM b s:=Decidable.byContradiction fun h=>he (.inl h);have hfl:=hb.flen;have hat:0≤s.s.atom:=by rcases hmay.2 with h | h; exact h.1.1; omega
 unfold bc;split
 ·have:(b.fls.dropWhile (jo (bH b s.s .aD).body)).length≤b.fls.length:=(List.dropWhile_sublist _).length_le;show (b.fls.dropWhile (jo (bH b s.s .aD).body)).length≤_;omega
 ·split
  ·show (cB (bw b s.s).body s.bJ 0).2.1.length≤_;cases hpp:s.bJ with
   | cons f r=>have:=oR (body:=(bw b s.s).body) f r; rw [hpp] at hp; simp only [List.length_cons] at this hp; omega
   | nil=>simp [cB]
  ·rename_i hf;have hm:dt b.atoms s.s:=hmay.2.resolve_right fun h=>hf (.inl h.1);have:=(py (x:=bX b s) hb.toBkOk hm hb.pos (gg hb.toBkFull s.s hat)).bJ;show (ek b (bX b s)).bJ.length≤_;omega
theorem C5 (b:Bk) (hb:BkFull b):aU prog 65 [.rp (bL b)] (bF b.brks):=fun σ =>
 (CG b hb σ).H7 fun _ _ h=>h.2.Cj h.1 rfl
theorem xF (b:Bk) (hb:dJ b) {L:Int} (hL:mn b L):Iter prog 75 [.rp (.rp (bL b))] ((shK b 1000000001 ⟨⟨0,0,true⟩,[]⟩ 0).map fun x=>[shV x]):=by
 refine ⟨e75.c,fun idl J Jx σ0 hy hJ=>?_⟩;refine (e75.r (by simp [c75]) ?_).2;have hs:=aa.refl σ0;have hmu:=vi hL;have hbl:=hb.brk;have hal:=hb.len;have hfl:=hb.flen;have hsc:∀s:Sta,(cO s).cells=[vI s.s.atom,vI s.s.done, .bool s.s.free,aJ s.bJ]:=fun _=>rfl;have hss:∀s:Sta,(cO s).stays=true:=fun _=>rfl;have hpc:∀p:Pag,(bI p).cells=[vI p.no,vI p.kind,aT p.hs,aT p.fs,aT p.ls]:=fun _=>rfl;have hps:∀p:Pag,(bI p).stays=true:=fun _=>rfl;have ldB:∀σ:af,bN σ false 1 (.rp (.rp (bL b)))=some (.rp (bL b)):=fun σ=>rfl;generalize hXS:(shK b 1000000001 ⟨⟨0,0,true⟩,[]⟩ 0).map (fun x=>[shV x])=XS at *;refine ad.mix 8 ?_;apply sR;simp only [go_sem,seval,c75,ldB];refine ae fun i2 σ2 s2 a2 f2=>?_;have z2:=hs.none f2;replace hs:=hs.trans s2;simp only [go_sem,seval,ldB];refine ad.ay rfl rfl rfl (C5 b hb.toBkFull _) ?_;apply sR;simp only [go_sem,seval,ldB,gA,gq];refine ae fun i4 σ4 s4 a4 f4=>?_;have n24:=ao a2 f4;replace a2:=s4 _ _ a2;have z4:=hs.none f4;replace hs:=hs.trans s4;simp only [go_sem,seval,a4,a2];generalize hq4:upd _ i4 _=τ4;replace a4:=(congrFun hq4 i4).symm.trans ag;replace a2:=((congrFun hq4 i2).symm.trans (ab n24)).trans a2;replace hs:=Eq.subst (motive:=aa _) hq4 (hs.aB z4);clear hq4;apply sR;simp only [go_sem,seval,ldB];refine ad.ay rfl rfl rfl (Dz b hb.toBkFull _) ?_;apply sR;simp only [go_sem,seval];refine ae fun i6 σ6 s6 a6 f6=>?_;have n46:=ao a4 f6;replace a4:=s6 _ _ a4;have n26:=ao a2 f6;replace a2:=s6 _ _ a2;have z6:=hs.none f6;replace hs:=hs.trans s6;simp only [go_sem,seval,a6,a4,a2,hsc,hss];generalize hq6:upd _ i6 _=τ6;replace a6:=(congrFun hq6 i6).symm.trans ag;replace a4:=((congrFun hq6 i4).symm.trans (ab n46)).trans a4;replace a2:=((congrFun hq6 i2).symm.trans (ab n26)).trans a2;replace hs:=Eq.subst (motive:=aa _) hq6 (hs.aB z6);clear hq6;apply sR;simp only [go_sem,seval];have hJ0:ShJ idl 157 i2 i4 i6 0 ⟨⟨0,0,true⟩,[]⟩ σ0 τ6:=⟨hs,a2,a4,a6,z2,z4,z6,n24,n26,n46⟩
 clear hs a2 a4 a6;generalize τ6=τ at *;refine ad.loop (fun m st=>∃(s:Sta) (no:Int) (pre:List (List V)) (σJ:af) (i6':Nat),mu2 b L s < m∧XS=pre++(shK b m s no).map (fun x=>[shV x])∧J pre σJ ∧
  ShJ idl 157 i2 i4 i6' no s σJ st.σ∧st.s 0=.yl idl∧st.s 1=.rp (.rp (bL b))∧st.s 3=bF b.brks∧st.s 4=.ptr i4 0 0∧st.s 5=.fn 76 [.ptr i4 0 0, .ptr i2 0 0]∧st.s 6=.ptr i6' 0 0 ∧
  0≤no∧no+2*m≤2000000002∧s.bJ.length≤1000000) 1000000001 ?_ ?_
 ·exact ⟨⟨⟨0,0,true⟩,[]⟩,0,[],σ0,i6,by omega,by rw [List.nil_append,hXS],hJ,hJ0,rfl,rfl,rfl,rfl,rfl,rfl,by omega,by omega,by simp⟩
 clear hJ0 hJ;rintro m ⟨S,τ⟩ ⟨s,no,pre,σJ,i6,hm,hx,hJj,hJs,t0,t1,t3,t4,t5,t6,hn0,hn1,hp⟩;simp only at hJs t0 t1 t3 t4 t5 t6;obtain ⟨f,rfl⟩:∃f,m=f+1:=⟨m - 1,by omega⟩
 have r6:=hJs.st;refine ad.mix 8 ?_;apply sR;simp only [go_sem,seval,t0,t1,t3,t4,t5,t6,ldB,r6];refine ad.ay rfl rfl rfl (BF b hb.toBkFull s hp _) ?_;by_cases he:ej b s
 ·rw [decide_eq_true he];apply sR;simp only [go_sem,seval];rw [shK,if_pos he,List.map_nil,List.append_nil] at hx;subst hx;exact ⟨_,σJ,hJs.sub,Wk.refl hJs.sub _, .inl hJj⟩
 rw [decide_eq_false he];apply sR;simp only [go_sem,seval,t0,t1,t3,t4,t5,t6,ldB,r6];refine ad.ay rfl rfl rfl (Hn b hb.toBkFull hb.fh s hp _) ?_;rw [if_neg he];apply sR;simp only [go_sem,seval,t0,t1,t3,t4,t5,t6,ldB,r6];have hs:=aa.refl τ;refine ae fun i7 σ7 s7 a7 f7=>?_;have z7:=hs.none f7;replace hs:=hs.trans s7;simp only [go_sem,seval];refine ae fun i8 σ8 s8 a8 f8=>?_;have n78:=ao a7 f8;replace a7:=s8 _ _ a7;have z8:=hs.none f8;replace hs:=hs.trans s8;simp only [go_sem,seval,a7,a8,hpc,hps];generalize hq7:upd _ i7 _=τ7;replace a7:=(congrFun hq7 i7).symm.trans ag;replace a8:=((congrFun hq7 i8).symm.trans (ab n78.symm)).trans a8;replace hs:=Eq.subst (motive:=aa _) hq7 (hs.aB z7);clear hq7;simp only [go_sem,seval,a7,a8,hsc,hss];generalize hq8:upd _ i8 _=τ8;replace a8:=(congrFun hq8 i8).symm.trans ag;replace a7:=((congrFun hq8 i7).symm.trans (ab n78)).trans a7;replace hs:=Eq.subst (motive:=aa _) hq8 (hs.aB z8);clear hq8;have hJ8:=hJs.mono hs;have r6':=hJ8.st;have r4:=hJ8.n;have hmay:gM b s:=Decidable.byContradiction fun h=>he (.inl h);have hat:0≤s.s.atom∧s.s.atom < b.brks.length:=by
  rcases hmay.2 with h | h
  ·have:=h.1; omega
  ·omega
 simp only [go_sem,seval,t0,t1,t3,t4,t5,t6,ldB,r6',a7,a8,hpc,hps,hsc,hss,gq,gA];refine ad.ay rfl rfl rfl (HN b.brks (by omega) (bc b s).1 s.s hat.1 hat.2 _) ?_;rw [show qj b.brks (bc b s).1 s.s=gY b s from rfl];have hmn:=xM hb hL he;have hpn:=Du hb hp he;have r5:inR .i64 (no+1):=ak (by omega) (by omega);have m7:σJ i7=none:=hJs.sub.none z7;have m8:σJ i8=none:=hJs.sub.none z8;have d47:i7≠i4:=fun e=>by have:=hJs.n; rw [←e,z7] at this; cases this
 have d48:i8≠i4:=fun e=>by have:=hJs.n; rw [←e,z8] at this; cases this
 have htm:(no+1).tmod 2=(no+1) % 2:=Int.tmod_eq_emod_of_nonneg (by omega);by_cases hw:0≤gY b s∧(no+1) % 2≠gY b s
 ·rw [shK,if_neg he,if_pos hw] at hx;have q1:(gY b s≥0)=True:=eq_true hw.1;have q2:((no+1).tmod 2≠gY b s)=True:=eq_true (by rw [htm]; exact hw.2);generalize gY b s=W at *;apply sR;simp only [go_sem,seval,t0,t1,t3,t4,t5,t6,r4,r5,q1,q2];refine ad.call rfl rfl rfl (wG (x:=.iface 118 (.agg [])) r5 hJ8.n hJ8.y hJ8.e24.symm (hy pre _ _ σJ _ hx hJj (hJ8.sub.aB hJ8.n4))) ?_;rintro _ σ8b ⟨b',rfl,σJ8,hbs,hbb⟩;have hJ8b:=hJ8.given hbs;obtain ⟨a7b,k7⟩:=hbs.2 i7 _ m7 (by rw [ab d47]; exact a7);obtain ⟨a8b,k8⟩:=hbs.2 i8 _ m8 (by rw [ab d48]; exact a8);have r55:inR .i64 (no+1+1):=ak (by omega) (by omega);have hlast:XS=(pre++[[shV none]])++[.iface 116 (bI (bc b s).1)]::(shK b f (bc b s).2 (no+1+1)).map (fun x=>[shV x]):=by
   rw [hx,show no+2=no+1+1 by omega]; simp [shV]
  rcases hbb with ⟨rfl,hbb⟩ | ⟨rfl,hbb⟩
  ·apply sR;simp only [go_sem,seval,t0,t1,t3,t4,t5,t6,a7b,hpc,hps];refine ad.call rfl rfl rfl (wG (x:=.iface 116 (bI (bc b s).1)) r55 hJ8b.n hJ8b.y hJ8b.e24.symm (hy (pre++[[shV none]]) _ _ σJ8 _ hlast hbb (hJ8b.sub.aB hJ8b.n4))) ?_;rintro _ σ9 ⟨b',rfl,σJ9,hbs,hbb⟩;have hJ9:=hJ8b.given hbs;obtain ⟨a8',k8⟩:=hbs.2 i8 _ k8 (by rw [ab d48]; exact a8b);have r9:=hJ9.st;rcases hbb with ⟨rfl,hbb⟩ | ⟨rfl,hbb⟩
   ·apply sR;simp only [go_sem,seval,t0,t1,t3,t4,t5,t6,a8',r9,hsc,hss];refine ae fun i10 σ10 s10 a10 f10=>?_;simp only [go_sem,seval,a10,hsc,hss];refine ⟨f,by omega,(bc b s).2,(no+1)+1,(pre++[[shV none]])++[[shV (some (bc b s).1)]],σJ9,i10,by omega,?_,hbb,hJ9.next s10 f10 _,?_⟩
    ·rw [hlast]; simp [shV]
    ·simp [t0,t1,t3,t4,t5];exact ⟨by omega,by omega,hpn⟩
   ·apply sR;simp only [go_sem,seval];refine ⟨_,σJ9,hJ9.sub,Wk.refl hJ9.sub _, .inr ⟨_,?_,hbb⟩⟩;rw [hlast];exact ⟨(shK b f (bc b s).2 ((no+1)+1)).map fun x=>[shV x],by simp⟩
  ·apply sR;simp only [go_sem,seval];refine ⟨_,σJ8,hJ8b.sub,Wk.refl hJ8b.sub _, .inr ⟨_,?_,hbb⟩⟩;rw [hx];exact ⟨(some (bc b s).1::shK b f (bc b s).2 (no+2)).map fun x=>[shV x],by simp [shV]⟩
 ·rw [shK,if_neg he,if_neg hw] at hx;have hq:(gY b s≥0)=False∨(gY b s≥0)=True∧((no+1).tmod 2≠gY b s)=False:=by
   by_cases h:gY b s≥0
   ·exact .inr ⟨eq_true h,eq_false (fun g=>hw ⟨h,by rw [←htm]; exact g⟩)⟩
   ·exact .inl (eq_false h)
  generalize gY b s=W at *;have hlast:XS=pre++[.iface 116 (bI (bc b s).1)]::(shK b f (bc b s).2 (no+1)).map (fun x=>[shV x]):=hx;rcases hq with q1 | ⟨q1,q2⟩
  ·apply sR;simp only [go_sem,seval,t0,t1,t3,t4,t5,t6,r4,r5,a7,hpc,hps,q1];refine ad.call rfl rfl rfl (wG (x:=.iface 116 (bI (bc b s).1)) r5 hJ8.n hJ8.y hJ8.e24.symm (hy pre _ _ σJ _ hlast hJj (hJ8.sub.aB hJ8.n4))) ?_;rintro _ σ9 ⟨b',rfl,σJ9,hbs,hbb⟩;have hJ9:=hJ8.given hbs;obtain ⟨a8',k8⟩:=hbs.2 i8 _ m8 (by rw [ab d48]; exact a8);have r9:=hJ9.st;rcases hbb with ⟨rfl,hbb⟩ | ⟨rfl,hbb⟩
   ·apply sR;simp only [go_sem,seval,t0,t1,t3,t4,t5,t6,a8',r9,hsc,hss];refine ae fun i10 σ10 s10 a10 f10=>?_;simp only [go_sem,seval,a10,hsc,hss];refine ⟨f,by omega,(bc b s).2,no+1,pre++[[shV (some (bc b s).1)]],σJ9,i10,by omega,?_,hbb,hJ9.next s10 f10 _,?_⟩
    ·rw [hlast]; simp [shV]
    ·simp [t0,t1,t3,t4,t5];exact ⟨by omega,by omega,hpn⟩
   ·apply sR;simp only [go_sem,seval];refine ⟨_,σJ9,hJ9.sub,Wk.refl hJ9.sub _, .inr ⟨_,?_,hbb⟩⟩;rw [hlast];exact ⟨(shK b f (bc b s).2 (no+1)).map fun x=>[shV x],by simp⟩
  ·apply sR;simp only [go_sem,seval,t0,t1,t3,t4,t5,t6,r4,r5,a7,hpc,hps,q1,q2];refine ad.call rfl rfl rfl (wG (x:=.iface 116 (bI (bc b s).1)) r5 hJ8.n hJ8.y hJ8.e24.symm (hy pre _ _ σJ _ hlast hJj (hJ8.sub.aB hJ8.n4))) ?_;rintro _ σ9 ⟨b',rfl,σJ9,hbs,hbb⟩;have hJ9:=hJ8.given hbs;obtain ⟨a8',k8⟩:=hbs.2 i8 _ m8 (by rw [ab d48]; exact a8);have r9:=hJ9.st;rcases hbb with ⟨rfl,hbb⟩ | ⟨rfl,hbb⟩
   ·apply sR;simp only [go_sem,seval,t0,t1,t3,t4,t5,t6,a8',r9,hsc,hss];refine ae fun i10 σ10 s10 a10 f10=>?_;simp only [go_sem,seval,a10,hsc,hss];refine ⟨f,by omega,(bc b s).2,no+1,pre++[[shV (some (bc b s).1)]],σJ9,i10,by omega,?_,hbb,hJ9.next s10 f10 _,?_⟩
    ·rw [hlast]; simp [shV]
    ·simp [t0,t1,t3,t4,t5];exact ⟨by omega,by omega,hpn⟩
   ·apply sR;simp only [go_sem,seval];refine ⟨_,σJ9,hJ9.sub,Wk.refl hJ9.sub _, .inr ⟨_,?_,hbb⟩⟩;rw [hlast];exact ⟨(shK b f (bc b s).2 (no+1)).map fun x=>[shV x],by simp⟩
variable {P:Program} {n:Nat}
theorem zU {o:Op} {xs:List VX} (h:cop P n o=.more .oO xs):∃t,o=.alloc t∧mK P t=true:=by
 cases o
 case alloc t =>
  simp only [cop] at h;split at h
  ·cases h
  ·split at h
   ·rename_i hn; exact ⟨t,rfl,hn⟩
   ·cases h
 case call c =>
  obtain ⟨callee,args,argTypes⟩:=c;cases callee
  case builtin b=>cases b <;> simp only [cop] at h <;> (repeat' split at h) <;> cases h
  all_goals (simp only [cop] at h; cases h)
 case unOp op t x=>cases op <;> simp only [cop] at h <;> cases h
 case makeFunc f a b=>cases f <;> simp only [cop] at h <;> (repeat' split at h) <;> cases h
 case binOp op t x y yt=>cases op <;> simp only [cop,ct] at h <;> (repeat' split at h) <;> cases h
 all_goals (simp only [cop] at h; (repeat' split at h) <;> cases h)
theorem Al {o:Op} {xs:List VX} (h:cop P n o=.more .oU xs):∃t x y,o=.store t x y∧mK P t=true∧xs=[cx n x,cx n y]:=by
 cases o
 case store t x y =>
  simp only [cop] at h;split at h
  ·cases h
  ·split at h
   ·rename_i hn;simp only [VOp.more.injEq,true_and] at h;exact ⟨t,x,y,rfl,hn,h.symm⟩
   ·cases h
 case call c =>
  obtain ⟨callee,args,argTypes⟩:=c;cases callee
  case builtin b=>cases b <;> simp only [cop] at h <;> (repeat' split at h) <;> cases h
  all_goals (simp only [cop] at h; cases h)
 case unOp op t x=>cases op <;> simp only [cop] at h <;> cases h
 case makeFunc f a b=>cases f <;> simp only [cop] at h <;> (repeat' split at h) <;> cases h
 case binOp op t x y yt=>cases op <;> simp only [cop,ct] at h <;> (repeat' split at h) <;> cases h
 all_goals (simp only [cop] at h; (repeat' split at h) <;> cases h)
theorem ad.oO {st:St} {Q:St→Prop} {k:List It} {i:aG} {l:List aG} (hw:bh st.s i.g=some true) (ho:i.op=.more .oO [])
 (h:ad P n (.ops l::k) ⟨aV st.s i.dst (.rp (.agg [])),st.σ⟩ Q):ad P n (.ops (i::l)::k) st Q:=by
 refine ad.ins (by rw [ho]; simp) hw fun F hn μ a w o all hi hs next Q' hnext=>?_
 subst hn;obtain ⟨hop,hd⟩:=dV hi;rw [ho] at hop;obtain ⟨t,g1,hn⟩:=zU hop;have hrun:(execOp a.eval o).run P w=.ok (.value (.pointer (some ⟨w.heap.size,0,none⟩))) (w.alloc (.cells #[] t)):=by
  unfold execOp;rw [g1];simp [Instr.alloc,oP hn,newVar,newRow,Value.cells]
 unfold Oper.wp;rw [hrun];obtain ⟨h1,hk⟩:=hs.sat.more (.cells #[] t);refine hnext _ _ _ ⟨μ,?_⟩ h;rw [←hd];exact hs.step h1 (cH.refl μ) hk (by simp) (by simp only [Rep]; exact ⟨w.heap.size,0,rfl,by simp, .inl rfl,by simp [bt,aP]⟩)
theorem ad.oU {st:St} {Q:St→Prop} {k:List It} {i:aG} {l:List aG} {xa xv:VX} {u:V} (hw:bh st.s i.g=some true) (ho:i.op=.more .oU [xa,xv]) (ha:xa.ev st.s=.rp u) (hv:xv.ev st.s=.agg [])
 (h:ad P n (.ops l::k) ⟨aV st.s i.dst (.tup []),st.σ⟩ Q):ad P n (.ops (i::l)::k) st Q:=by
 refine ad.ins (by rw [ho]; simp) hw fun F hn μ a w o all hi hs next Q' hnext=>?_
 subst hn;obtain ⟨hop,hd⟩:=dV hi;rw [ho] at hop;obtain ⟨t,x,y,g1,hn,g2⟩:=Al hop;simp only [List.cons.injEq,and_true] at g2;obtain ⟨rfl,rfl⟩:=g2;have R1:=ck hs x;have R2:=ck hs y;rw [ha] at R1;rw [hv] at R2;simp only [Rep] at R1 R2;obtain ⟨b,off,e1,_⟩:=R1;obtain ⟨vals,e2,e3,_⟩:=R2;simp only [au] at e3;subst e3;obtain ⟨ti,_,hti,hsz,_⟩:=l7 hn;have hrun:(execOp a.eval o).run P w=.ok .skip w:=by
  unfold execOp;rw [g1];simp [Instr.storeAt,Instr.sureAddr,e1,e2,storeVar,sizeOf,typeInfo,hti,hsz,Value.cells,storeCells]
 unfold Oper.wp;rw [hrun];refine hnext _ _ _ ⟨μ,?_⟩ h;rw [←hd];exact hs.pure (by simp [Rep,au,undef])
open Go.Proofs Go.Proofs.Tryz
theorem Ef (b:Bk):aU prog 48 [.rp (bL b)] (.fn 75 [.rp (.rp (bL b))]):=fun σ=>by
 refine e48.r (by simp [c48]) ?_;refine ad.mix 4 ?_;apply sR;simp only [go_sem,seval,c48];refine ae fun id1 σ1 s1 a1 f1=>?_;simp only [go_sem,seval];exact ⟨_,σ,s1,Wk.fn (vs':=[.rp (.rp (bL b))]) ⟨Wk.ptr s1 a1 f1,trivial⟩,rfl,rfl⟩
def pgN (k:Nat) (x:Option Pag):Pag:=match x with
 | none=>⟨(k:Int)+1,3,[],[],[]⟩
 | some p=>{ p with no:=(k:Int)+1 }
def pe (L:List (Option Pag)):List Pag:=(List.range L.length).map fun k=>pgN k (L.getD k none)
theorem tK (L:List (Option Pag)):(pe L).length=L.length:=by simp [pe]
def pgV (k:Nat) (x:Option Pag):V:=match x with
 | none=>.agg [vI ((k:Int)+1),vI 3, .aD, .aD, .aD]
 | some p=>bI { p with no:=(k:Int)+1 }
def pj (L:List (Option Pag)):List V:=(List.range L.length).map fun k=>pgV k (L.getD k none)
theorem CB (L:List (Option Pag)) (x:Option Pag):pj (L++[x])=pj L++[pgV L.length x]:=by
 unfold pj;rw [List.length_append,List.length_singleton,List.range_succ,List.map_append];congr 1
 ·refine List.map_congr_left fun k hk=>?_;have:=List.mem_range.1 hk;rw [List.getD_eq_getElem?_getD,List.getD_eq_getElem?_getD,List.getElem?_append_left this]
 ·simp
theorem E6 (L:List (Option Pag)):(pj L).length=L.length:=by simp [pj]
theorem rA (b:Bk):∀(f:Nat) (s:Sta) (no:Int),(shK b f s no).length≤2*f
 | 0,_,_=>by simp [shK]
 | f+1,s,no=>by
   rw [shK];split
   ·simp
   ·split
    ·have:=rA b f (bc b s).2 (no+2); simp only [List.length_cons]; omega
    ·have:=rA b f (bc b s).2 (no+1); simp only [List.length_cons]; omega
def di (b:Bk):List Pag:=if (b.atoms.length:Int)+b.fls.length=0 then [⟨1,3,[],[],[]⟩] else pe (shK b 1000000001 ⟨⟨0,0,true⟩,[]⟩ 0)
open Go.Proofs Go.Proofs.Tryz
theorem bb.Ml {σJ σ σJ' σ':af} (h:bb σJ σ σJ' σ') {id:Nat} {o:Ob} (hn:σ id=none) (hj:σJ' id=none):bb σJ σ σJ' (upd σ' id o) :=
 ⟨h.1.aB hj,fun i x h1 h2=>by
  obtain ⟨h3,h4⟩:=h.2 i x h1 h2;have:i≠id:=fun e=>by rw [e,hn] at h2; cases h2
  simp [Vc.upd,this,h3,h4]⟩
theorem FzL.maps {α:Type} {σ:af} {N:Nat→Prop} {f g:α→V}:∀ {l:List α},(∀a∈l,Fz σ N (f a) (g a))→FzL σ N (l.map f) (l.map g)
 | [],_=>.nil
 | a::l,h=>.cons _ _ _ _ (h a (by simp)) (FzL.maps fun x hx=>h x (by simp [hx]))
theorem x6 (p:Pag):(bI p).ee=true:=by
 have h:∀l:List Frg,(aT l).ee=true:=fun l=>kU (f:=aW) (fun _=>rfl) l;show fG [vI p.no,vI p.kind,aT p.hs,aT p.fs,aT p.ls]=true;simp only [fG,h]; rfl
theorem Hq {σ:af} {N:Nat→Prop} (L:List (Option Pag)):FzL σ N (pj L) ((pe L).map bI):=by
 unfold pj pe;rw [List.map_map];refine FzL.maps fun k _=>?_;simp only [Function.comp];cases L.getD k none with
 | none=>exact .agg _ _ (.cons _ _ _ _ (.same _ rfl) (.cons _ _ _ _ (.same _ rfl) (.cons _ _ _ _ (.nil 7) (.cons _ _ _ _ (.nil 7) (.cons _ _ _ _ (.nil 7) .nil)))))
 | some p=>exact .same _ (x6 _)
theorem aM.Ou {K σ:af} {N:Nat→Prop} {e sz:Nat} {v:V} {rows rows':List V} (h:aM K σ e sz v rows) (hN:∀id,K id=none→N id) (hr:FzL σ N rows rows'):Fz σ N v (.sl sz rows'):=by
 rcases h with ⟨rfl,rfl⟩ | ⟨id,rfl,ho,hk⟩
 ·cases hr; exact .nil sz
 ·exact .own id 0 rows.length ⟨e,sz,rows⟩ rows' ho (hN id hk) (by simp) (by rw [List.drop_zero,List.take_length]; exact hr)
def cW (L:List Pag):V:=.sl 5 (L.map bI)
theorem oQ (l:List Nd) (hl:dE l) (w h:Int) :
 aU prog 16 [aI l,vI w,vI h] (if gl l w h=0 then .tup [cW (di (bQ l w h)),vI 0] else .tup [.aD,vI (gl l w h)]):=fun σ=>by
 refine e16.r (by simp [c16]) ?_;have hs:=aa.refl σ;refine ad.mix 8 ?_;apply sR;simp only [go_sem,seval,c16];refine ad.ay rfl rfl rfl (Mm l hl w h _) ?_;by_cases he:gl l w h=0
 ·have hb:=my hl he;have hL:=rK he;rw [CK,if_pos he,if_pos he,he];generalize bQ l w h=b at *;generalize gw l h=L at *;have q1:((0:Int)≠0)=False:=eq_false (fun h=>h rfl);apply sR;simp only [go_sem,seval,q1];refine ae fun i10 σ10 s10 a10 f10=>?_;have z10:=hs.none f10;replace hs:=hs.trans s10;simp only [go_sem,seval,a10];refine ad.ay rfl rfl rfl (Ef b _) ?_;apply sR;simp only [go_sem,seval];generalize hS:mix 8 _ _=S;have S8:S 8=.rp (bL b):=by rw [←hS]; rfl
  have S10:S 10=.ptr i10 0 0:=by rw [←hS]; rfl
  have S27:S 27=.fn 75 [.rp (.rp (bL b))]:=by rw [←hS]; rfl
  clear hS;have hit:=xF b hb hL;have hSl:=rA b 1000000001 ⟨⟨0,0,true⟩,[]⟩ 0;have hPR:di b=if (b.atoms.length:Int)+b.fls.length=0 then [⟨1,3,[],[],[]⟩] else pe (shK b 1000000001 ⟨⟨0,0,true⟩,[]⟩ 0):=rfl
  generalize di b=PR at *;generalize shK b 1000000001 ⟨⟨0,0,true⟩,[]⟩ 0=SH at *;refine ad.cC (g:=.t 27) (caps:=[.rp (.rp (bL b))]) S27 hit (fun x hx=>?_) [] (fun pre σJ=>∃v,σJ i10=some ⟨48,1,[v]⟩∧aa σ σJ∧aM (aZ σ i10) σJ 43 5 v (pj (SH.take pre.length)))
   (fun _ _ _=>False) ?_ ?_ ?_ ?_ ?_
  ·obtain ⟨t,_,rfl⟩:=List.mem_map.1 hx; rfl
  ·exact ⟨.aD,a10,s10,by simpa [pj] using aM.start⟩
  ·rintro pre x post σJ σB hxs ⟨v,J10,Js,Jo⟩ hsub;obtain ⟨t,hti,rfl⟩:=oI (f:=shV) hxs;have hpl:pre.length < SH.length:=(List.getElem?_eq_some_iff.1 hti).1;have hlen:(pre++[[shV t]]).length=pre.length+1:=by simp
   have htk:pj (SH.take (pre.length+1))=pj (SH.take pre.length)++[pgV pre.length t]:=by
    rw [List.take_add_one,hti,Option.toList_some,CB,List.length_take,Nat.min_eq_left (by omega)]
   rw [hlen,htk];have hnl:(pj (SH.take pre.length)).length=pre.length:=by rw [E6,List.length_take]; omega
   have hvc:=Jo.vc.1;have hvs:=Jo.vc.2;have hvl:=Jo.len;rw [hnl] at hvl;generalize hrows:pj (SH.take pre.length)=rows at *;have b10:=hsub _ _ J10;generalize hSS:lk S [28] [shV t]=S0;have T10:S0 10=.ptr i10 0 0:=by rw [←hSS]; exact S10
   have T28:S0 28=shV t:=by rw [←hSS]; rfl
   clear hSS;refine ad.mix 12 ?_;apply sR;simp only [go_sem,seval,T10,T28];apply sR;simp only [go_sem,seval,T10,T28];rw [aH];intro i12 f12;have m12:i10≠i12:=ao b10 f12;have r1:inR .i64 ((pre.length:Int)+1):=ak (by omega) (by omega);have hpc:∀p:Pag,(bI p).cells=[vI p.no,vI p.kind,aT p.hs,aT p.fs,aT p.ls]:=fun _=>rfl;have hfc:∀l:List Frg,(aT l).cells=[aT l]:=fun _=>rfl;have hfs:∀l:List Frg,(aT l).stays=true:=fun _=>rfl;have hps:∀p:Pag,(bI p).stays=true:=fun _=>rfl;have hBs:=(bb.refl hsub).pf (o:=⟨43,5,[.agg [vI 0,vI 3, .aD, .aD, .aD]]⟩) f12;have y10:upd σB i12 ⟨43,5,[.agg [vI 0,vI 3, .aD, .aD, .aD]]⟩ i10=some ⟨48,1,[v]⟩:=by rw [ab m12]; exact b10
   have a12:upd σB i12 ⟨43,5,[.agg [vI 0,vI 3, .aD, .aD, .aD]]⟩ i12=some ⟨43,5,[.agg [vI 0,vI 3, .aD, .aD, .aD]]⟩:=ag;have hb2:(rows.length+1)*89≤140737488355328:=by omega
   have k2:aZ σ i10 i10≠none:=fun h=>(aF.1 h).1 rfl;have n12:σJ i12=none:=hsub.none f12;cases t with
   | none =>
     simp only [go_sem,seval,T10,T28,shV,FX];generalize upd σB i12 ⟨43,5,[.agg [vI 0,vI 3, .aD, .aD, .aD]]⟩=τ' at *;refine ad.oO rfl rfl ?_;refine ad.oU (u:=.agg []) rfl rfl rfl rfl ?_;apply sR;simp only [go_sem,seval,T10,y10,a12,hvc,hvs,hvl,r1,ab m12,ab m12.symm,hpc,hps];rw [aH];intro i45 f45;have y2:upd τ' i12 (⟨43,5,[.agg [vI ((pre.length:Int)+1),vI 3, .aD, .aD, .aD]]⟩:Ob) i10=some ⟨48,1,[v]⟩:=by rw [ab m12]; exact y10
     have hB2:bb σJ σB σJ (upd τ' i12 (⟨43,5,[.agg [vI ((pre.length:Int)+1),vI 3, .aD, .aD, .aD]]⟩:Ob)):=hBs.Ml f12 n12;generalize upd τ' i12 (⟨43,5,[.agg [vI ((pre.length:Int)+1),vI 3, .aD, .aD, .aD]]⟩:Ob)=τ2 at *;have hB3:=hB2.pf (o:=(⟨43,5,[.agg [vI ((pre.length:Int)+1),vI 3, .aD, .aD, .aD]]⟩:Ob)) f45;have y3:upd τ2 i45 (⟨43,5,[.agg [vI ((pre.length:Int)+1),vI 3, .aD, .aD, .aD]]⟩:Ob) i10=some ⟨48,1,[v]⟩:=by rw [ab (ao y2 f45)]; exact y2
     have a45:upd τ2 i45 (⟨43,5,[.agg [vI ((pre.length:Int)+1),vI 3, .aD, .aD, .aD]]⟩:Ob) i45=some (⟨43,5,[.agg [vI ((pre.length:Int)+1),vI 3, .aD, .aD, .aD]]⟩:Ob):=ag;generalize upd τ2 i45 (⟨43,5,[.agg [vI ((pre.length:Int)+1),vI 3, .aD, .aD, .aD]]⟩:Ob)=τ3 at *;obtain ⟨idA,hda,hdA⟩:=Jo.C7 hB3.1;have dne:∀(i:Nat) (σx:af),aZ σ i10 i≠none→Vc.bz σx idA i=σx i:=fun i σx hk=>by
      cases idA with
      | none=>rfl
      | some a=>exact dh (fun e=>hk (by rw [e]; exact (hdA a rfl).1))
     simp only [go_sem,seval,hda,dk a45,hb2,T10];rw [aH];intro i46 f46;have f46:τ3 i46=none:=f46;have m46:i10≠i46:=ao y3 f46;have f46':Vc.bz τ3 idA i46=none:=by
      cases idA with
      | none=>exact f46
      | some a=>simp only [Vc.bz,del]; split <;> first | rfl | exact f46
     have y4:upd (Vc.bz τ3 idA) i46 ⟨43,5,rows++[.agg [vI ((pre.length:Int)+1),vI 3, .aD, .aD, .aD]]⟩ i10=some ⟨48,1,[v]⟩:=by rw [ab m46,dne _ _ k2]; exact y3
     have hB9:=((hB3.Cl (e:=idA) fun i h=>(hdA i h).2).new (o:=⟨43,5,rows++[.agg [vI ((pre.length:Int)+1),vI 3, .aD, .aD, .aD]]⟩) f46').set (id:=i10) (o:=⟨48,1,[v]⟩) (o':=⟨48,1,[.own i46 0 (rows.length+1)]⟩) (by rw [ab m46,dne _ _ k2]; exact J10);simp only [go_sem,seval,hvc,y4,T10];refine ⟨_,hB9, .own i46 0 (rows.length+1),ag,?_,?_⟩
     ·refine aa.aB (fun i o h=>?_) z10;have h1:=Js _ _ h;rw [ab (ao (hB3.1 _ _ h1) f46),dne _ _ (fun hk=>by rw [(aF.1 hk).2] at h; cases h)];exact h1
     ·refine aM.new (by simp) (by rw [ab m46.symm,ag]; rfl) ?_;rw [aF];refine ⟨m46.symm,?_⟩;cases h:σ i46 with
      | none=>rfl
      | some o=>rw [hB3.1 _ _ (Js _ _ h)] at f46; cases f46
   | some p =>
     simp only [go_sem,seval,T10,T28,shV,FX];generalize upd σB i12 ⟨43,5,[.agg [vI 0,vI 3, .aD, .aD, .aD]]⟩=τ at *;rw [aH];intro i13 f13;have m13:i12≠i13:=ao a12 f13;have k13:i10≠i13:=ao y10 f13;have hBs:=hBs.pf (o:=⟨116,5,[bI p]⟩) f13;have y10:upd τ i13 ⟨116,5,[bI p]⟩ i10=some ⟨48,1,[v]⟩:=by rw [ab k13]; exact y10
     have a12:upd τ i13 ⟨116,5,[bI p]⟩ i12=some ⟨43,5,[.agg [vI 0,vI 3, .aD, .aD, .aD]]⟩:=by rw [ab m13]; exact a12
     have a13:upd τ i13 ⟨116,5,[bI p]⟩ i13=some ⟨116,5,[bI p]⟩:=ag;simp only [go_sem,seval,hpc,hps];generalize upd τ i13 ⟨116,5,[bI p]⟩=τ' at *;simp only [go_sem,seval,T10,y10,a12,a13,hvc,hvs,hvl,r1,ab m12,ab m12.symm,hpc,hps,hfc,hfs];rw [aH];intro i45 f45;have y2:upd τ' i12 (⟨43,5,[.agg [vI ((pre.length:Int)+1),vI p.kind,aT p.hs,aT p.fs,aT p.ls]]⟩:Ob) i10=some ⟨48,1,[v]⟩:=by rw [ab m12]; exact y10
     have hB2:bb σJ σB σJ (upd τ' i12 (⟨43,5,[.agg [vI ((pre.length:Int)+1),vI p.kind,aT p.hs,aT p.fs,aT p.ls]]⟩:Ob)):=hBs.Ml f12 n12;generalize upd τ' i12 (⟨43,5,[.agg [vI ((pre.length:Int)+1),vI p.kind,aT p.hs,aT p.fs,aT p.ls]]⟩:Ob)=τ2 at *;have hB3:=hB2.pf (o:=(⟨43,5,[.agg [vI ((pre.length:Int)+1),vI p.kind,aT p.hs,aT p.fs,aT p.ls]]⟩:Ob)) f45;have y3:upd τ2 i45 (⟨43,5,[.agg [vI ((pre.length:Int)+1),vI p.kind,aT p.hs,aT p.fs,aT p.ls]]⟩:Ob) i10=some ⟨48,1,[v]⟩:=by rw [ab (ao y2 f45)]; exact y2
     have a45:upd τ2 i45 (⟨43,5,[.agg [vI ((pre.length:Int)+1),vI p.kind,aT p.hs,aT p.fs,aT p.ls]]⟩:Ob) i45=some (⟨43,5,[.agg [vI ((pre.length:Int)+1),vI p.kind,aT p.hs,aT p.fs,aT p.ls]]⟩:Ob):=ag;generalize upd τ2 i45 (⟨43,5,[.agg [vI ((pre.length:Int)+1),vI p.kind,aT p.hs,aT p.fs,aT p.ls]]⟩:Ob)=τ3 at *;obtain ⟨idA,hda,hdA⟩:=Jo.C7 hB3.1;have dne:∀(i:Nat) (σx:af),aZ σ i10 i≠none→Vc.bz σx idA i=σx i:=fun i σx hk=>by
      cases idA with
      | none=>rfl
      | some a=>exact dh (fun e=>hk (by rw [e]; exact (hdA a rfl).1))
     simp only [go_sem,seval,hda,dk a45,hb2,T10];rw [aH];intro i46 f46;have f46:τ3 i46=none:=f46;have m46:i10≠i46:=ao y3 f46;have f46':Vc.bz τ3 idA i46=none:=by
      cases idA with
      | none=>exact f46
      | some a=>simp only [Vc.bz,del]; split <;> first | rfl | exact f46
     have y4:upd (Vc.bz τ3 idA) i46 ⟨43,5,rows++[.agg [vI ((pre.length:Int)+1),vI p.kind,aT p.hs,aT p.fs,aT p.ls]]⟩ i10=some ⟨48,1,[v]⟩:=by rw [ab m46,dne _ _ k2]; exact y3
     have hB9:=((hB3.Cl (e:=idA) fun i h=>(hdA i h).2).new (o:=⟨43,5,rows++[.agg [vI ((pre.length:Int)+1),vI p.kind,aT p.hs,aT p.fs,aT p.ls]]⟩) f46').set (id:=i10) (o:=⟨48,1,[v]⟩) (o':=⟨48,1,[.own i46 0 (rows.length+1)]⟩) (by rw [ab m46,dne _ _ k2]; exact J10);simp only [go_sem,seval,hvc,y4,T10];refine ⟨_,hB9, .own i46 0 (rows.length+1),ag,?_,?_⟩
     ·refine aa.aB (fun i o h=>?_) z10;have h1:=Js _ _ h;rw [ab (ao (hB3.1 _ _ h1) f46),dne _ _ (fun hk=>by rw [(aF.1 hk).2] at h; cases h)];exact h1
     ·refine aM.new (by simp) (by rw [ab m46.symm,ag]; rfl) ?_;rw [aF];refine ⟨m46.symm,?_⟩;cases h:σ i46 with
      | none=>rfl
      | some o=>rw [hB3.1 _ _ (Js _ _ h)] at f46; cases f46
  ·rintro σ' ⟨v,a10,hs,Jo⟩;rw [List.length_map,List.take_length] at Jo;have hvc:=Jo.vc.1;have hvs:=Jo.vc.2;have hla:=iB b.atoms;have hlf:=fF b.fls;have hfl:=hb.flen;have hal:=hb.len;have rr:inR .i64 ((b.atoms.length:Int)+b.fls.length):=ak (by omega) (by omega);refine ad.mix 12 ?_;apply sR;simp only [go_sem,seval,S8,S10];refine ad.ay rfl rfl rfl (CT b hb.toBkFull _) ?_;apply sR;simp only [go_sem,seval,S8,S10,sC];have hK:aa σ σ':=hs;have hs:=aa.refl σ';refine ae fun i15 σ15 s15 a15 f15=>?_;have n1015:=ao a10 f15;replace a10:=s15 _ _ a10;have z15:=hs.none f15;replace hs:=hs.trans s15;simp only [go_sem,seval,a15,a10,S10,av,ax,aQ,aS];generalize hq15:upd _ i15 _=τ15;replace a15:=(congrFun hq15 i15).symm.trans ag;replace a10:=((congrFun hq15 i10).symm.trans (ab n1015)).trans a10;replace hs:=Eq.subst (motive:=aa _) hq15 (hs.aB z15);clear hq15;by_cases hz:(b.atoms.length:Int)+b.fls.length=0
   ·have qz:((b.atoms.length:Int)+b.fls.length=0)=True:=eq_true hz;rw [if_pos hz] at hPR;simp only [go_sem,seval,a15,a10,S10,hla,hlf,rr,qz,av,ax,aQ,aS];have a10':=a10;refine ae fun i58 σ58 s58 a58 f58=>?_;have n1058:=ao a10 f58;replace a10:=s58 _ _ a10;have z58:=hs.none f58;replace hs:=hs.trans s58;simp only [go_sem,seval,a58,a10,S10,hvc,hvs];rw [hPR];have hs3:=(hK.trans hs).aB (id:=i10) (o:=⟨48,1,[.own i58 0 1]⟩) z10;have m58:i10≠i58:=ao a10' f58;have hf:Fz (upd σ58 i10 ⟨48,1,[.own i58 0 1]⟩) (fun id=>σ id=none) (.tup [.own i58 0 1,vI 0]) (.tup [cW [⟨1,3,[],[],[]⟩],vI 0]) :=
     .tup _ _ (.cons _ _ _ _ (.own i58 0 1 ⟨43,5,[.agg [vI 1,vI 3, .aD, .aD, .aD]]⟩ _ ((ab m58.symm).trans a58) (hK.none z58) (by simp) (FzL.one (.agg _ _ (.cons _ _ _ _ (.same _ rfl) (.cons _ _ _ _ (.same _ rfl) (.cons _ _ _ _ (.nil 7) (.cons _ _ _ _ (.nil 7) (.cons _ _ _ _ (.nil 7) .nil)))))))) (FzL.same [vI 0] rfl))
    exact ⟨_,σ,hs3,hf.wk hs3 (fun _ h=>h),rfl,rfl⟩
   ·have qz:((b.atoms.length:Int)+b.fls.length=0)=False:=eq_false hz;rw [if_neg hz] at hPR;simp only [go_sem,seval,a15,a10,S10,hla,hlf,rr,qz,hvc,hvs,av,ax,aQ,aS];rw [hPR];have hf:Fz τ15 (fun id=>σ id=none) (.tup [v,vI 0]) (.tup [cW (pe SH),vI 0]) :=
     .tup _ _ (.cons _ _ _ _ ((Jo.mono hs).Ou (fun id h=>(aF.1 h).2) (Hq SH)) (FzL.same [vI 0] rfl))
    exact ⟨_,σ,hK.trans hs,hf.wk (hK.trans hs) (fun _ h=>h),rfl,rfl⟩
  ·intro id h; cases h
  ·rintro pre σ' _ ⟨⟩
 ·have q1:(gl l w h≠0)=True:=eq_true he;rw [if_neg he];apply sR;simp only [go_sem,seval,q1];exact ar.pure hs rfl
def goP (l:List Atm):Int→Int→List Frg→Option (Int×Int)
 | a,d,[]=>some (a,d)
 | a,d,x::r =>
   if (0≤a∧a < l.length)∧x.atom=a∧x.node=(atG l a).node∧x.fr=d∧1≤x.h∧x.w=(atG l a).w∧x.x=(atG l a).x∧d+x.h≤(atG l a).h then
    (if d+x.h=(atG l a).h then goP l (a+1) 0 r else if r=[] then some (a,d+x.h) else none)
   else none
theorem yE {b:Bk} (hb:dJ b) (F:Int→Frg) (hF:∀k (h:k < b.atoms.length),F k=⟨b.atoms[k].node,k,0,b.atoms[k].x,(F k).y,b.atoms[k].w,b.atoms[k].h⟩) :
 ∀(m k:Nat),k+m≤b.atoms.length→goP b.atoms k 0 ((List.range m).map fun i:Nat=>F ((k:Int)+i))=some (((k+m:Nat):Int),0)
 | 0,k,_=>by simp [goP]
 | m+1,k,h=>by
   have hk:k < b.atoms.length:=by omega
   have hp:=hb.pos _ (List.getElem_mem hk);rw [List.range_succ_eq_map,List.map_cons,List.map_map];have e:=hF k hk;have e0:F ((k:Int)+((0:Nat):Int))=F k:=by simp
   have ih:=yE hb F hF m (k+1) (by omega);rw [e0,goP,bn hk,e];simp only;rw [if_pos ⟨⟨by omega,by omega⟩,trivial,trivial,trivial,hp,trivial,trivial,by omega⟩,if_pos (by omega)];have e1:((k:Int)+1)=((k+1:Nat):Int):=by omega
   have e2:((fun i:Nat=>F ((k:Int)+i)) ∘ Nat.succ)=fun i:Nat=>F (((k+1:Nat):Int)+i):=by
    funext i; simp only [Function.comp]; congr 1; omega
   rw [e1,e2,ih];congr 2; omega
theorem xg {b:Bk} (hb:dJ b) {s:Stt} (hm:dt b.atoms s) {kept shift high:Int} {c:Nat} (h1:s.atom < c) (h2:c≤b.atoms.length) :
 goP b.atoms s.atom s.done ((List.range (c - s.atom.toNat)).map fun i:Nat=>cq high (dg b.atoms s kept shift (s.atom+(i:Nat))))=some ((c:Int),0):=by
 have hm0:=hm;obtain ⟨⟨h3,h4⟩,h5,h6⟩:=hm;obtain ⟨a,ha⟩:∃a:Nat,s.atom=a:=⟨s.atom.toNat,by omega⟩
 have hal:a < b.atoms.length:=by omega
 rw [ha,bn hal] at h6;have hp:=hb.pos _ (List.getElem_mem hal);obtain ⟨m,hmm⟩:∃m,c - s.atom.toNat=m+1:=⟨c - s.atom.toNat - 1,by omega⟩
 rw [hmm,List.range_succ_eq_map,List.map_cons,List.map_map];have e0:cq high (dg b.atoms s kept shift (s.atom+((0:Nat):Int)))=⟨b.atoms[a].node,a,s.done,b.atoms[a].x,dy b.atoms s kept shift a+s.done+high,b.atoms[a].w,b.atoms[a].h - s.done⟩:=by
  have:s.atom+((0:Nat):Int)=a:=by omega
  rw [this,dg,if_pos ⟨hm0,by omega,by omega⟩,if_pos (by omega)];simp only [cq,Frg.bM,kL,fj,bn hal]
 let F:Int→Frg:=fun k=>if k=s.atom then ⟨b.atoms[a].node,k,0,b.atoms[a].x,0,b.atoms[a].w,b.atoms[a].h⟩ else if s.atom < k then cq high (dg b.atoms s kept shift k) else ⟨(atG b.atoms k).node,k,0,(atG b.atoms k).x,0,(atG b.atoms k).w,(atG b.atoms k).h⟩
 have hF:∀k (h:k < b.atoms.length),F k=⟨b.atoms[k].node,k,0,b.atoms[k].x,(F k).y,b.atoms[k].w,b.atoms[k].h⟩:=fun k h=>by
  by_cases e:(k:Int)=s.atom
  ·obtain rfl:k=a:=by omega
   simp only [F,if_pos e]
  ·by_cases e2:s.atom < k
   ·simp only [F,if_neg e,if_pos e2];rw [dg,if_pos ⟨hm0,by omega,by omega⟩,if_neg e];simp only [cq,kL,fj,bn h]
   ·simp only [F,if_neg e,if_neg e2,bn h]
 have hr:=yE hb F hF m (a+1) (by omega);rw [e0,goP,ha,bn hal];simp only;rw [if_pos ⟨⟨by omega,by omega⟩,trivial,trivial,trivial,by omega,trivial,trivial,by omega⟩,if_pos (by omega)];have e1:((a:Int)+1)=((a+1:Nat):Int):=by omega
 have e2:(List.range m).map ((fun i:Nat=>cq high (dg b.atoms s kept shift ((a:Int)+(i:Nat)))) ∘ Nat.succ)=(List.range m).map fun i:Nat=>F (((a+1:Nat):Int)+i):=by
  refine List.map_congr_left fun i _=>?_;have:((a:Int)+((Nat.succ i:Nat):Int))=((a+1:Nat):Int)+i:=by omega
  simp only [Function.comp,this];simp only [F];rw [if_neg (by omega),if_pos (by omega)]
 rw [e1,e2,hr];congr 2; omega
theorem rM {b:Bk} (hb:dJ b) {s:Sta} (he:¬ej b s):goP b.atoms s.s.atom s.s.done (bc b s).1.fs=some ((bc b s).2.s.atom,(bc b s).2.s.done):=by
 have hmay:gM b s:=Decidable.byContradiction fun h=>he (.inl h);have hat:0≤s.s.atom:=by rcases hmay.2 with h | h; exact h.1.1; omega
 have hg:=fE hb he;revert hg;unfold bc;split
 ·rename_i h0;intro _;have hn:s.s.atom=0∧s.s.done=0:=by
   rcases hmay.2 with h | h
   ·have:=h.1; rw [h0.1] at this; simp at this; omega
   ·rw [h0.1] at h; simpa using h
  show goP b.atoms s.s.atom s.s.done []=_;rw [goP,hn.1,hn.2]; rfl
 ·split
  ·intro _; rfl
  ·rename_i hf;intro hg;have hm:dt b.atoms s.s:=hmay.2.resolve_right fun h=>hf (.inl h.1);have hkind:(kO (dB b (bX b s))).kind=1:=(gd b (bX b s)).2;obtain ⟨-,g1,g2,hcg⟩:=hg.cut hkind;change goP b.atoms s.s.atom s.s.done (dB b (bX b s)).fs=some ((ek b (bX b s)).s.atom,(ek b (bX b s)).s.done);change ri b s.s (ek b (bX b s)).s (dB b (bX b s)).fs _ _ at hcg;have hrl:dP b (bX b s)≤b.atoms.length:=l6;have hbl:=hb.brk;unfold dB ek at hcg ⊢;by_cases hok:eW b.brks (bX b s).s.atom (dP b (bX b s))
   ·rw [if_pos hok,if_pos hok];obtain ⟨c,c1,c2,c3⟩:=nZ hok (by omega);rw [show tY b (bX b s)=c from c1,Int.toNat_natCast];have c2':s.s.atom < c:=c2;exact xg hb hm c2' (by omega)
   ·rw [if_neg hok,if_neg hok] at hcg ⊢;have hso:nI b.atoms s.s (bw b s.s).body:=⟨hm,gg hb.toBkFull s.s hat⟩
    obtain ⟨⟨h3,h4⟩,h5,h6⟩:=hm;obtain ⟨a,ha⟩:∃a:Nat,s.s.atom=a:=⟨s.s.atom.toNat,by omega⟩
    have hal:a < b.atoms.length:=by omega
    have hp:=hb.pos _ (List.getElem_mem hal);have hbd:=gg hb.toBkFull s.s hat;have hag:atG b.atoms s.s.atom=b.atoms[a]:=by rw [ha,bn hal]
    show goP b.atoms s.s.atom s.s.done [cq (bw b s.s).high (jd b.atoms s.s (bw b s.s).body)]=some ((dY b.atoms s.s (bw b s.s).body).atom,(dY b.atoms s.s (bw b s.s).body).done);rw [jd,if_pos hso,dY,if_pos hso,eR,iN];simp only [goP,cq,Frg.cut,Frg.bM,fj,hag];rw [hag] at h6;rw [if_pos ⟨⟨h3,h4⟩,trivial,trivial,trivial,by omega,trivial,trivial,by omega⟩];by_cases e:s.s.done+min (b.atoms[a].h - s.s.done) (bw b s.s).body=b.atoms[a].h
    ·have hlt:¬(s.s.done+min (b.atoms[a].h - s.s.done) (bw b s.s).body < b.atoms[a].h):=by omega
     rw [if_pos e,if_neg hlt]
    ·have hlt:s.s.done+min (b.atoms[a].h - s.s.done) (bw b s.s).body < b.atoms[a].h:=by omega
     rw [if_neg e,if_pos hlt]; simp
theorem zt {x:Flo} {r:List Flo}:∀(p:List Flo) (i:Nat),(x::r).Sublist p→∃k:Nat,kg x p i=((i+k:Nat):Int)∧r.Sublist (p.drop (k+1))
 | [],i,h=>by cases h
 | q::p,i,h=>by
   rw [kg];by_cases e:x=q
   ·subst e;rw [if_pos rfl];exact ⟨0,rfl,List.cons_sublist_cons.1 h⟩
   ·rw [if_neg e];have h':(x::r).Sublist p:=by
     cases h with
     | cons _ h=>exact h
     | cons_cons _ h=>exact absurd rfl e
    obtain ⟨k,h1,h2⟩:=zt p (i+1) h';exact ⟨k+1,by rw [h1]; congr 1; omega,by simpa using h2⟩
theorem xE {fls:List Flo}:∀(p:List Flo) (at':Nat),p.Sublist (fls.drop at')→kM fls p at'=true
 | [],at',_=>rfl
 | x::r,at',h=>by
   obtain ⟨k,h1,h2⟩:=zt _ 0 h;rw [Nat.zero_add] at h1;rw [kM,h1,if_neg (by omega),Int.toNat_natCast];refine xE r _ ?_;rw [List.drop_drop] at h2;rw [show at'+k+1=at'+(k+1) by omega];exact h2
theorem yV {x:Flo}:∀(p:List Flo) (i k:Nat),kg x p i=((i+k:Nat):Int)→p[k]?=some x
 | [],i,k,h=>by simp [kg] at h; omega
 | q::p,i,k,h=>by
   rw [kg] at h;split at h
   ·rename_i e;obtain rfl:k=0:=by omega
    simp [e]
   ·rcases ou x p (i+1) with h2 | ⟨m,h2,_⟩
    ·rw [h2] at h; omega
    ·have hk:k=m+1:=by rw [h2] at h; omega
     subst hk;rw [List.getElem?_cons_succ];exact yV p (i+1) m h2
theorem rR {fls:List Flo}:∀(p:List Flo) (at':Nat),kM fls p at'=true→p.Sublist (fls.drop at')
 | [],at',_=>List.nil_sublist _
 | x::r,at',h=>by
   rw [kM] at h;split at h
   ·cases h
   ·rename_i hk;rcases ou x (fls.drop at') 0 with e | ⟨k,e,hk2⟩
    ·exact absurd (by rw [e]; decide) hk
    ·rw [e,Nat.zero_add,Int.toNat_natCast] at h;have hx:=yV _ 0 k e;obtain ⟨hl,hg⟩:=List.getElem?_eq_some_iff.1 hx;have hr:=rR r _ h;have e1:fls.drop at'=(fls.drop at').take k++x::(fls.drop at').drop (k+1):=by
      conv=>lhs; rw [←List.take_append_drop k (fls.drop at')]
      rw [List.drop_eq_getElem_cons hl,hg]
     rw [e1,List.drop_drop,show at'+(k+1)=at'+k+1 by omega];exact (List.Sublist.cons_cons x hr).trans (List.sublist_append_right _ _)
theorem yQ {body:Int}:∀(l:List Flo) (sh:Int),(cB body l sh).2.1.Sublist l
 | [],_=>by simp [cB]
 | f::r,sh=>by
   rw [cB];split
   ·exact List.Sublist.refl _
   ·exact (yQ r _).trans (List.sublist_cons_self _ _)
theorem DA {top shift body:Int} (L:List Flo):(ik top shift body L).2.Sublist L:=by
 suffices key:∀(L L0:List Flo) (x:List Flo×List Flo),x.2.Sublist L0→(L.foldl (fun x f=>jD body x f (dG top shift f)) x).2.Sublist (L0++L) from by have h:=key L [] ([],[]) (List.Sublist.refl _); rw [List.nil_append] at h; exact h
 intro L
 induction L with
 | nil=>intro L0 x h; simpa using h
 | cons f L ih =>
   intro L0 x h;rw [List.foldl_cons,show L0++f::L=(L0++[f])++L by simp];refine ih _ _ ?_;simp only [jD];split
   ·exact h.append (List.Sublist.refl _)
   ·exact h.trans (List.sublist_append_left _ _)
theorem uy {b:Bk} {s:Stt} {to kept shift body:Int}:(dr b.atoms b.fls s to kept shift body).2.Sublist b.fls:=by
 unfold dr;split
 ·exact (DA _).trans List.filter_sublist
 ·exact List.nil_sublist _
theorem ym {b:Bk} (hb:dJ b) {s:Sta} (he:¬ej b s):gM b (bc b s).2:=by
 have hmay:gM b s:=Decidable.byContradiction fun h=>he (.inl h);have hg:=fE hb he;have hp:s.bJ.Sublist b.fls:=rR _ 0 hmay.1;refine ⟨xE _ 0 ?_,?_⟩
 ·rw [List.drop_zero];unfold bc;split
  ·exact List.dropWhile_sublist _
  ·split
   ·exact (yQ _ _).trans hp
   ·show (ek b (bX b s)).bJ.Sublist b.fls;unfold ek;split
    ·exact uy
    ·exact uy
 ·rcases hg.kd with k | k
  ·obtain ⟨hm, -, -,hc⟩:=hg.cut k;have hm0:=hm;obtain ⟨⟨h0,h1⟩,h2,h3⟩:=hm;cases hc with
   | more q1 q2 q3 q4 q5 =>
     left;unfold ia at q3;rw [if_pos hm0] at q3;have:=(sF hb.toBkFull s.s h0).2.1;refine ⟨by omega,by omega, .inr ?_⟩;rw [q1]; omega
   | whole c r y q1 q2 q3 q4 q5 q6 q7 q8 q9 =>
     rw [q1];by_cases hcl:c=b.atoms.length
     ·exact .inr ⟨by simp only; omega,rfl⟩
     ·exact .inl ⟨⟨by simp only; omega,by simp only; omega⟩,Int.le_refl _, .inl rfl⟩
  ·have hf:=hg.no' k;have hgo:=rM hb he;rw [hf,goP] at hgo;have e:=Option.some.inj hgo;have e1:(bc b s).2.s.atom=s.s.atom:=(congrArg Prod.fst e).symm;have e2:(bc b s).2.s.done=s.s.done:=(congrArg Prod.snd e).symm;unfold dt;rw [e1,e2];exact hmay.2
def fsO:Option Pag→List Frg
 | none=>[]
 | some p=>p.fs
theorem Cv (b:Bk) (hpos:∀a∈b.atoms,1≤a.h):gM b ⟨⟨0,0,true⟩,[]⟩:=by
 refine ⟨rfl,?_⟩;by_cases h:b.atoms.length=0
 ·exact .inr ⟨by simp only; omega,rfl⟩
 ·exact .inl ⟨⟨Int.le_refl _,by simp only; omega⟩,Int.le_refl _, .inl rfl⟩
structure AkI (s:WS):Prop where
 pw:s.floats.Pairwise fun f g=>f.anchor≤g.anchor
 q:∀f∈s.floats,f.anchor≤s.atoms.length
theorem AkI.more {s t:WS} (h:AkI s) (hf:t.floats=s.floats) (ha:s.atoms.length≤t.atoms.length):AkI t:=⟨by rw [hf]; exact h.pw,fun f hf'=>by rw [hf] at hf'; have:=h.q f hf'; omega⟩
theorem DC (fs:List Flo) (f:Flo) (y:Int) (s:Spn):∃g,qQ fs f y s=fs++[g]∧g.anchor=f.anchor:=⟨_,rfl,by unfold iu; (repeat' split) <;> rfl⟩
theorem AkI.put {s:WS} (h:AkI s) (a:Atm):AkI (s.put a):=h.more rfl (by simp [WS.put])
theorem AkI.text {rs:List Rm} {s:WS} (h:AkI s) (a:Nat) (n:Nd):AkI (s.text rs a n):=by
 unfold WS.text;generalize cX _ _ _ _ _ _ _ _=L
 induction L generalizing s with
 | nil=>exact h
 | cons x L ih=>exact ih (h.put _)
theorem AkI.float {rs:List Rm} {s:WS} (h:AkI s) (a:Nat) (n:Nd):AkI (s.float rs a n):=by
 obtain ⟨g,e,ha⟩:=DC s.floats ⟨a,n.side,s.atoms.length,0,0,n.w,n.h⟩ (s.pen.y+s.pen.m) (dX rs a);have e':(s.float rs a n).floats=s.floats++[g]:=e;refine ⟨?_,fun f hf=>?_⟩
 ·rw [e',List.pairwise_append];refine ⟨h.pw,by simp,fun f hf y hy=>?_⟩;rw [List.mem_singleton.1 hy,ha];exact h.q f hf
 ·rw [e'] at hf;rcases List.mem_append.1 hf with hf | hf
  ·exact h.q f hf
  ·rw [List.mem_singleton.1 hf,ha]; exact Int.le_refl _
theorem jY {l:List Nd} {rs:List Rm}:∀(k a e:Nat) (s:WS),AkI s→AkI (df l rs k a e s)
 | 0,a,e,s,h=>h
 | k+1,a,e,s,h=>by
   rw [df];split
   ·split
    ·exact jY k _ _ _ ((jY k _ _ (s.enter (ndA l a).st) (h.more rfl (Nat.le_refl _))).more rfl (Nat.le_refl _))
    ·split
     ·exact jY k _ _ _ (h.text _ _)
     ·split
      ·exact jY k _ _ _ (h.put _)
      ·exact jY k _ _ _ (h.float _ _)
   ·exact h
theorem Hg (l:List Nd) (w:Int):((cm l w).floats.Pairwise fun f g=>f.anchor≤g.anchor)∧∀f∈(cm l w).floats,0≤f.anchor∧(0 < (cm l w).atoms.length→f.anchor < (cm l w).atoms.length):=by
 have h:=jY (l:=l) (rs:=gG l w) l.length 0 l.length ⟨[],[],0,⟨0,0⟩⟩ ⟨by simp,by simp⟩;have e1:(cm l w).atoms=(df l (gG l w) l.length 0 l.length ⟨[],[],0,⟨0,0⟩⟩).atoms:=rfl;have e2:(cm l w).floats=(df l (gG l w) l.length 0 l.length ⟨[],[],0,⟨0,0⟩⟩).floats.map (mP (df l (gG l w) l.length 0 l.length ⟨[],[],0,⟨0,0⟩⟩).atoms.length):=rfl;rw [e1,e2];generalize df l (gG l w) l.length 0 l.length ⟨[],[],0,⟨0,0⟩⟩=s at *;refine ⟨?_,fun f hf=>?_⟩
 ·rw [List.pairwise_map];refine h.pw.imp fun hab=>?_;simp only [mP]; omega
 ·obtain ⟨g,hg,rfl⟩:=List.mem_map.1 hf;simp only [mP]; omega
theorem za {top shift body:Int} (L:List Flo):∃j,j≤L.length∧(ik top shift body L).1=(L.take j).map (dG top shift)∧(ik top shift body L).2=L.drop j:=by
 suffices key:∀(L A:List Flo) (x:List Flo×List Flo),(∃j,j≤A.length∧x.1=(A.take j).map (dG top shift)∧x.2=A.drop j) →
  ∃j,j≤(A++L).length∧(L.foldl (fun x f=>jD body x f (dG top shift f)) x).1=((A++L).take j).map (dG top shift)∧(L.foldl (fun x f=>jD body x f (dG top shift f)) x).2=(A++L).drop j from by
  have h:=key L [] ([],[]) ⟨0,by simp,by simp,by simp⟩;rw [List.nil_append] at h;exact h
 intro L
 induction L with
 | nil=>intro A x h; simpa using h
 | cons f L ih =>
   intro A x ⟨j,h1,h2,h3⟩;rw [List.foldl_cons,show A++f::L=(A++[f])++L by simp];refine ih _ _ ?_;simp only [jD];by_cases hl:mM x.2 (dG top shift f) body=true
   ·rw [if_pos hl,if_pos hl];refine ⟨j,by simp; omega,?_,?_⟩
    ·rw [h2,List.take_append_of_le_length h1]
    ·rw [h3,List.drop_append_of_le_length h1]
   ·rw [if_neg hl,if_neg hl];have hx:x.2=[]:=Decidable.byContradiction fun hn=>hl (by unfold mM; exact decide_eq_true (.inl hn));have hj:j=A.length:=by
     rw [h3] at hx;have:=congrArg List.length hx;simp at this;omega
    subst hj;refine ⟨A.length+1,by simp,?_,?_⟩
    ·rw [h2,List.take_of_length_le (Nat.le_refl _),List.take_of_length_le (by simp),List.map_append,List.map_singleton]
    ·rw [h3]; simp
theorem ta {body:Int}:∀(l:List Flo) (sh:Int),∃j,j≤l.length∧(cB body l sh).2.1=l.drop j∧(cB body l sh).1.length=j∧∀i f m,i < j→l[i]?=some f→(cB body l sh).1[i]?=some m→m.node=f.node∧m.x=f.x∧m.w=f.w∧m.h≤f.h
 | [],sh=>⟨0,by simp,by simp [cB],by simp [cB],fun i f m h=>by omega⟩
 | g::r,sh=>by
   rw [cB];split
   ·exact ⟨0,by simp,by simp,by simp,fun i f m h=>by omega⟩
   ·obtain ⟨j,h1,h2,h3,h4⟩:=ta (body:=body) r (sh+min g.h body);refine ⟨j+1,by simp only [List.length_cons]; omega,by simpa using h2,by simp only [List.length_cons,h3],fun i f m hi hf hm=>?_⟩;cases i with
    | zero =>
      simp only [List.getElem?_cons_zero,Oi] at hf hm;subst hf; subst hm;exact ⟨rfl,rfl,rfl,by simp only; omega⟩
    | succ i =>
      rw [List.getElem?_cons_succ] at hf hm;exact h4 i f m (by omega) hf hm
def fv (L:List Flo) (B:Int):Nat:=(L.filter fun f=>decide (f.anchor < B)).length
theorem oZ {B:Int} {L:List Flo} (h:∀g∈L,B≤g.anchor):(L.filter fun f=>decide (f.anchor < B))=[]:=by
 rw [List.filter_eq_nil_iff];intro g hg;have:=h g hg;simp; omega
theorem wz {B:Int}:∀ {L:List Flo},(L.Pairwise fun f g=>f.anchor≤g.anchor)→(L.filter fun f=>decide (f.anchor < B))=L.take (fv L B)
 | [],_=>rfl
 | x::L,h=>by
   have hp:=List.pairwise_cons.1 h;unfold fv;by_cases e:x.anchor < B
   ·have ih:=wz (B:=B) hp.2;unfold fv at ih;rw [List.filter_cons_of_pos (by simpa using e),List.length_cons,List.take_succ_cons,←ih]
   ·have hn:((x::L).filter fun f=>decide (f.anchor < B))=[]:=oZ fun g hg=>by
     rcases List.mem_cons.1 hg with rfl | hg
     ·omega
     ·have:=hp.1 g hg; omega
    rw [hn]; rfl
theorem pT {fr to:Int} (hft:fr≤to):∀ {L:List Flo},(L.Pairwise fun f g=>f.anchor≤g.anchor)→th L fr to=(L.take (fv L to)).drop (fv L fr)
 | [],_=>by simp [th]
 | x::L,h=>by
   have hp:=List.pairwise_cons.1 h;have ih:=pT hft hp.2;unfold th mO at ih ⊢;by_cases e:x.anchor < fr
   ·have h1:oN fr to x=true:=by unfold oN; exact decide_eq_true (.inl e)
    have c1:fv (x::L) fr=fv L fr+1:=by unfold fv; rw [List.filter_cons_of_pos (by simpa using e),List.length_cons]
    have c2:fv (x::L) to=fv L to+1:=by unfold fv; rw [List.filter_cons_of_pos (by simp; omega),List.length_cons]
    rw [List.filter_cons_of_neg (by simp [h1]),c1,c2,List.take_succ_cons,List.drop_succ_cons,ih]
   ·have hge:∀g∈x::L,fr≤g.anchor:=fun g hg=>by
     rcases List.mem_cons.1 hg with rfl | hg
     ·omega
     ·have:=hp.1 g hg; omega
    have c1:fv (x::L) fr=0:=by unfold fv; rw [oZ hge]; rfl
    rw [c1,List.drop_zero,←wz h];refine List.filter_congr fun g hg=>?_;have:=hge g hg;unfold oN;by_cases e2:g.anchor < to
    ·rw [decide_eq_true e2,decide_eq_false (show ¬(g.anchor < fr∨g.anchor≥to) by omega)]; rfl
    ·rw [decide_eq_false e2,decide_eq_true (show g.anchor < fr∨g.anchor≥to by omega)]; rfl
theorem CA {L:List Flo} {a b:Int} (h:a≤b):fv L a≤fv L b:=by
 unfold fv
 induction L with
 | nil=>simp
 | cons x L ih =>
   by_cases e:x.anchor < a
   ·rw [List.filter_cons_of_pos (by simpa using e),List.filter_cons_of_pos (by simp; omega)];simp only [List.length_cons]; omega
   ·rw [List.filter_cons_of_neg (by simpa using e)];by_cases e2:x.anchor < b
    ·rw [List.filter_cons_of_pos (by simpa using e2)]; simp only [List.length_cons]; omega
    ·rw [List.filter_cons_of_neg (by simpa using e2)]; exact ih
theorem BL (L:List Flo) (B:Int):fv L B≤L.length:=List.length_filter_le _ _
def ec (s:Stt):Int:=if s.done > 0 then s.atom+1 else s.atom
def calls (b:Bk) (s:Stt):Nat:=if b.atoms=[] then (if s.free=true then 0 else b.fls.length) else fv b.fls (ec s)
structure ij (b:Bk) (ls:List Frg) (m j:Nat):Prop where
 len:ls.length=j
 fit:∀i x f,ls[i]?=some x→b.fls[m+i]?=some f→x.node=f.node∧x.atom = -1∧x.x=f.x∧x.w=f.w∧x.h≤f.h
theorem rY (b:Bk) (s:Stt):calls b s≤b.fls.length:=by
 unfold calls; split
 ·split <;> omega
 ·exact BL _ _
theorem ij.app {b:Bk} {l1 l2:List Frg} {m j k:Nat} (h1:ij b l1 m j) (h2:ij b l2 (m+j) k):ij b (l1++l2) m (j+k):=by
 refine ⟨by rw [List.length_append,h1.len,h2.len],fun i x f hx hf=>?_⟩;by_cases h:i < j
 ·rw [List.getElem?_append_left (by rw [h1.len]; exact h)] at hx;exact h1.fit i x f hx hf
 ·rw [List.getElem?_append_right (by rw [h1.len]; omega),h1.len] at hx;exact h2.fit (i - j) x f hx (by rw [show m+j+(i - j)=m+i by omega]; exact hf)
theorem xy {L:List Flo} {C m i:Nat} {f:Flo} (h:((L.take C).drop m)[i]?=some f):L[m+i]?=some f:=by
 rw [List.getElem?_drop,List.getElem?_take] at h;split at h
 ·exact h
 ·cases h
theorem HS {b:Bk} {body high:Int} {C m:Nat} {p:List Flo} (hp:p=(b.fls.take C).drop m) (hC:C≤b.fls.length) (hm:m≤C):∃j,m+j≤C∧(cB body p 0).2.1=(b.fls.take C).drop (m+j)∧ij b ((cB body p 0).1.map (jv high)) m j:=by
 obtain ⟨j,h1,h2,h3,h4⟩:=ta (body:=body) p 0;have hl:p.length=C - m:=by rw [hp,List.length_drop,List.length_take]; omega
 refine ⟨j,by omega,by rw [h2,hp,List.drop_drop],by rw [List.length_map,h3],fun i x f hx hf=>?_⟩;rw [List.getElem?_map,Option.map_eq_some_iff] at hx;obtain ⟨mv,e1,rfl⟩:=hx;have hi:i < j:=by rw [←h3]; exact (List.getElem?_eq_some_iff.1 e1).1
 obtain ⟨g,hg⟩:∃g,p[i]?=some g:=⟨p[i],List.getElem?_eq_getElem (by omega)⟩
 have hg':=hg;rw [hp] at hg';have:=xy hg';rw [this] at hf;obtain rfl:=Option.some.inj hf;obtain ⟨g1,g2,g3,g4⟩:=h4 i _ mv hi hg e1;exact ⟨g1,rfl,g2,g3,g4⟩
theorem D8 {b:Bk} (ha:b.fls.Pairwise fun f g=>f.anchor≤g.anchor) {s:Stt} (hm:dt b.atoms s) {to kept shift body high:Int} (hto:ec s≤to) :
 ∃j,fv b.fls (ec s)+j≤fv b.fls to∧(dr b.atoms b.fls s to kept shift body).2=(b.fls.take (fv b.fls to)).drop (fv b.fls (ec s)+j)∧ij b ((dr b.atoms b.fls s to kept shift body).1.map (jv high)) (fv b.fls (ec s)) j:=by
 have hc:ep b.fls s to=(b.fls.take (fv b.fls to)).drop (fv b.fls (ec s)):=pT hto ha;have h1:=CA (L:=b.fls) hto;have h2:=BL b.fls to;unfold dr;rw [if_pos hm];obtain ⟨j,g1,g2,g3⟩:=za (top:=qN b.atoms s kept) (shift:=shift) (body:=body) (ep b.fls s to);have hl:(ep b.fls s to).length=fv b.fls to - fv b.fls (ec s):=by rw [hc,List.length_drop,List.length_take]; omega
 refine ⟨j,by omega,by rw [g3,hc,List.drop_drop],by rw [g2]; simp; omega,fun i x f hx hf=>?_⟩;rw [g2,List.map_map,List.getElem?_map,Option.map_eq_some_iff] at hx;obtain ⟨g,e1,rfl⟩:=hx;rw [List.getElem?_take] at e1;split at e1
 ·rw [hc] at e1;have:=xy e1;rw [this] at hf;obtain rfl:=Option.some.inj hf;exact ⟨rfl,rfl,rfl,rfl,Int.le_refl _⟩
 ·cases e1
theorem yx {b:Bk} (hb:dJ b) (ha:b.fls.Pairwise fun f g=>f.anchor≤g.anchor) {s:Sta} (he:¬ej b s) {m:Nat} (hm:m≤calls b s.s) (hp:s.bJ=(b.fls.take (calls b s.s)).drop m) :
 ∃j,m+j≤calls b (bc b s).2.s∧(bc b s).2.bJ=(b.fls.take (calls b (bc b s).2.s)).drop (m+j)∧ij b (bc b s).1.ls m j:=by
 have hmay:gM b s:=Decidable.byContradiction fun h=>he (.inl h);have hg:=fE hb he;have hcut:=hg.cut;obtain ⟨j0,t1,t2,t3⟩:=HS (body:=(bw b s.s).body) (high:=(bw b s.s).high) hp (rY b s.s) hm;revert hcut;unfold bc;split
 ·rename_i h0;intro _;obtain ⟨h1,h2⟩:=h0;have hc0:calls b s.s=0:=by rw [calls,if_pos h1,if_pos h2]
  have hc1:calls b (jA b (bH b s.s .aD)).s=b.fls.length:=by rw [calls,if_pos h1]; rfl
  rw [hc0] at hm;obtain rfl:m=0:=by omega
  have hle:(b.fls.takeWhile (jo (bH b s.s .aD).body)).length≤b.fls.length:=(List.takeWhile_sublist _).length_le;have hsp:b.fls.takeWhile (jo (bH b s.s .aD).body)++b.fls.dropWhile (jo (bH b s.s .aD).body)=b.fls:=List.takeWhile_append_dropWhile;refine ⟨(b.fls.takeWhile (jo (bH b s.s .aD).body)).length,by show _≤calls b (jA b (bH b s.s .aD)).s; rw [hc1]; omega,?_,?_⟩
  ·show b.fls.dropWhile _=(b.fls.take (calls b (jA b (bH b s.s .aD)).s)).drop _;rw [hc1,List.take_length,Nat.zero_add]
   conv=>rhs; rw [←hsp]
   rw [List.drop_append_of_le_length (by simp [hsp]),List.drop_of_length_le (by simp [hsp])]; simp
  ·show ij b ([]++(b.fls.takeWhile (jo (bH b s.s .aD).body)).map (jv (bH b s.s .aD).high)) 0 _;rw [List.nil_append];refine ⟨by simp,fun i x f hx hf=>?_⟩;rw [List.getElem?_map,Option.map_eq_some_iff] at hx;obtain ⟨g,e1,rfl⟩:=hx;have:b.fls[i]?=some g:=by
    rw [←hsp,List.getElem?_append_left (List.getElem?_eq_some_iff.1 e1).1]; exact e1
   rw [Nat.zero_add,this] at hf;obtain rfl:=Option.some.inj hf;exact ⟨rfl,rfl,rfl,rfl,Int.le_refl _⟩
 ·rename_i hn0;split
  ·intro _;have hcs:calls b (⟨s.s.atom,s.s.done,s.s.free && decide (s.s.atom < b.atoms.length)⟩:Stt)=calls b s.s:=by
    unfold calls;split
    ·rename_i h1;have:¬s.s.free=true:=fun h=>hn0 ⟨h1,h⟩;simp [this]
    ·rfl
   refine ⟨j0,?_,?_,?_⟩
   ·show m+j0≤calls b (⟨s.s.atom,s.s.done,s.s.free && decide (s.s.atom < b.atoms.length)⟩:Stt); rw [hcs]; exact t1
   ·show (cB (bw b s.s).body s.bJ 0).2.1=(b.fls.take (calls b (⟨s.s.atom,s.s.done,s.s.free && decide (s.s.atom < b.atoms.length)⟩:Stt))).drop _; rw [hcs]; exact t2
   ·exact t3
  ·rename_i hf;intro hcut;have hfm:dt b.atoms s.s:=hmay.2.resolve_right fun h=>hf (.inl h.1);have hne:b.atoms≠[]:=fun h=>by have:=hfm.1; rw [h] at this; simp at this; omega
   have hC:calls b s.s=fv b.fls (ec s.s):=by rw [calls,if_neg hne]
   have hleft:(cB (bw b s.s).body s.bJ 0).2.1=[]:=Decidable.byContradiction fun h=>hf (.inr (.inl h));have hCl:=rY b s.s;have hmj:m+j0=fv b.fls (ec s.s):=by
    rw [hleft] at t2;have:=congrArg List.length t2;simp only [List.length_nil,List.length_drop,List.length_take] at this;omega
   have hrl:dP b (bX b s)≤b.atoms.length:=l6;have hbl:=hb.brk;have hbody:=gg hb.toBkFull s.s hfm.1.1;have key:∀(to kept shift body:Int) (t:Stt),ec s.s≤to→ec t=to→∀(hls:List Frg) (hpd:List Flo),hls=(bX b s).ls++(dr b.atoms b.fls s.s to kept shift body).1.map (jv (bw b s.s).high)→hpd=(dr b.atoms b.fls s.s to kept shift body).2 →
    ∃j,m+j≤calls b t∧hpd=(b.fls.take (calls b t)).drop (m+j)∧ij b hls m j:=fun to kept shift body t g1 g2 hls hpd g3 g4=>by
    obtain ⟨j1,u1,u2,u3⟩:=D8 ha hfm (kept:=kept) (shift:=shift) (body:=body) (high:=(bw b s.s).high) g1;have hct:calls b t=fv b.fls to:=by rw [calls,if_neg hne,g2]
    rw [←hmj] at u1 u2 u3;refine ⟨j0+j1,by rw [hct]; omega,by rw [g4,u2,hct,Nat.add_assoc],?_⟩;rw [g3];exact ij.app t3 u3
   show ∃j,m+j≤calls b (ek b (bX b s)).s∧(ek b (bX b s)).bJ=(b.fls.take (calls b (ek b (bX b s)).s)).drop (m+j)∧ij b (dB b (bX b s)).ls m j;have hcb:ec s.s≤s.s.atom+1:=by unfold ec; split <;> omega
   unfold dB ek;by_cases hok:eW b.brks (bX b s).s.atom (dP b (bX b s))
   ·rw [if_pos hok,if_pos hok];obtain ⟨c,c1,c2,c3⟩:=nZ hok (by omega);rw [show tY b (bX b s)=c from c1,Int.toNat_natCast];have c2':s.s.atom < c:=c2;exact key c (dH b (bX b s)) (bX b s).shift (bX b s).body _ (by omega) (by show ec ⟨c,0,_⟩=c; rfl) _ _ rfl rfl
   ·rw [if_neg hok,if_neg hok];have hso:nI b.atoms s.s (bw b s.s).body:=⟨hfm,hbody⟩
    refine key (s.s.atom+1) 0 0 (bX b s).body _ hcb ?_ _ _ rfl rfl;show ec (dY b.atoms s.s (bw b s.s).body)=_;rw [dY,if_pos hso,iN];obtain ⟨⟨h3,h4⟩,h5,h6⟩:=hfm;split
    ·rename_i hlt;simp only [eR,Frg.cut,Frg.bM,fj] at hlt ⊢;unfold ec;simp only;rw [if_pos];obtain ⟨k,hk⟩:∃k:Nat,s.s.atom=k:=⟨s.s.atom.toNat,by omega⟩
     have hp:=hb.pos _ (List.getElem_mem (show k < b.atoms.length by omega));rw [hk,bn (show k < b.atoms.length by omega)] at h6 hlt ⊢;omega
    ·rfl
def lsO:Option Pag→List Frg
 | none=>[]
 | some p=>p.ls
def AG (b:Bk):Int→Int→Nat→List (Option Pag)→Prop
 | a,d,m,[]=>a=b.atoms.length∧d=0∧m=b.fls.length
 | a,d,m,x::r=>∃a' d' j,goP b.atoms a d (fsO x)=some (a',d')∧ij b (lsO x) m j∧(∀i f,i < m+j→b.fls[i]?=some f→b.atoms≠[]→f.anchor < (if d' > 0 then a'+1 else a'))∧AG b a' d' (m+j) r
theorem ij.nil (b:Bk) (m:Nat):ij b [] m 0:=⟨rfl,fun i x f h=>by simp at h⟩
theorem uS {L:List Flo} (ha:L.Pairwise fun f g=>f.anchor≤g.anchor) {B:Int} {i:Nat} {f:Flo} (hi:i < fv L B) (hf:L[i]?=some f):f.anchor < B:=by
 have h:=wz (B:=B) ha;have hm:f∈L.filter fun f=>decide (f.anchor < B):=by
  rw [h];refine List.mem_of_getElem? (i:=i) ?_;rw [List.getElem?_take,if_pos hi]; exact hf
 simpa using (List.mem_filter.1 hm).2
theorem Fl {b:Bk} (hb:dJ b) {L:Int} (hL:mn b L) (ha:b.fls.Pairwise fun f g=>f.anchor≤g.anchor) (hn:0 < b.atoms.length→∀f∈b.fls,f.anchor < b.atoms.length) :
 ∀(f:Nat) (s:Sta) (no:Int) (m:Nat),gM b s→mu2 b L s < f→m≤calls b s.s→s.bJ=(b.fls.take (calls b s.s)).drop m→AG b s.s.atom s.s.done m (shK b f s no)
 | 0,s,no,m,_,h,_,_=>by omega
 | f+1,s,no,m,hm,h,hc,hp=>by
   rw [shK];by_cases he:ej b s
   ·rw [if_pos he];obtain ⟨h2,h3,h4⟩:=he.resolve_left (fun h=>h hm);have h5:s.s.done=0:=by
     rcases hm.2 with h | h
     ·have:=h.1.2; omega
     ·exact h.2
    have hcl:=rY b s.s;have hall:calls b s.s=b.fls.length:=by
     unfold calls;split
     ·rw [h3]; rfl
     ·rename_i hne;have hpos:0 < b.atoms.length:=List.length_pos_iff.2 hne;have hB:ec s.s=b.atoms.length:=by unfold ec; rw [if_neg (by omega)]; exact h2
      unfold fv;rw [hB,List.filter_eq_self.2 fun g hg=>by simpa using hn hpos g hg]
    rw [h4] at hp;have hl:=congrArg List.length hp;simp only [List.length_nil,List.length_drop,List.length_take] at hl;exact ⟨h2,h5,by omega⟩
   ·rw [if_neg he];have hpt:=rM hb he;have hne:=xM hb hL he;have hmn:=ym hb he;obtain ⟨j,g1,g2,g3⟩:=yx hb ha he hc hp;have one:∀no',AG b s.s.atom s.s.done m (some (bc b s).1::shK b f (bc b s).2 no'):=fun no'=>by
     refine ⟨_,_,j,hpt,g3,fun i fl hi hf hat=>?_,Fl hb hL ha hn f _ no' (m+j) hmn (by omega) g1 g2⟩;refine uS ha (i:=i) ?_ hf;have:calls b (bc b s).2.s=fv b.fls (ec (bc b s).2.s):=by rw [calls,if_neg hat]
     rw [this] at g1;have e:ec (bc b s).2.s=if (bc b s).2.s.done > 0 then (bc b s).2.s.atom+1 else (bc b s).2.s.atom:=rfl
     rw [←e]; omega
    split
    ·refine ⟨s.s.atom,s.s.done,0,rfl,ij.nil b m,fun i fl hi hf hat=>?_,one _⟩;refine uS ha (i:=i) ?_ hf;rw [calls,if_neg hat] at hc;have e:ec s.s=if s.s.done > 0 then s.s.atom+1 else s.s.atom:=rfl
     rw [←e]; omega
    ·exact one _
theorem HZ {b:Bk} (hb:dJ b) {L:Int} (hL:mn b L) (ha:b.fls.Pairwise fun f g=>f.anchor≤g.anchor) (h0:∀f∈b.fls,0≤f.anchor) (hn:0 < b.atoms.length→∀f∈b.fls,f.anchor < b.atoms.length) :
 AG b 0 0 0 (shK b 1000000001 ⟨⟨0,0,true⟩,[]⟩ 0):=by
 have hc:calls b (⟨0,0,true⟩:Stt)=0:=by
  unfold calls;split
  ·rfl
  ·show fv b.fls 0=0;unfold fv;rw [oZ h0]; rfl
 exact Fl hb hL ha hn 1000000001 ⟨⟨0,0,true⟩,[]⟩ 0 0 (Cv b hb.pos) (by have:=vi hL; omega) (Nat.zero_le _) (by
  show []=(b.fls.take (calls b (⟨0,0,true⟩:Stt))).drop 0;rw [hc]; rfl)
theorem yM {l:List Nd} (hl:dE l) {w h:Int} (he:gl l w h=0):AG (bQ l w h) 0 0 0 (shK (bQ l w h) 1000000001 ⟨⟨0,0,true⟩,[]⟩ 0):=by
 obtain ⟨g1,g2⟩:=Hg l w;exact HZ (my hl he) (rK he) g1 (fun f hf=>(g2 f hf).1) (fun h f hf=>(g2 f hf).2 h)
def vX (a d:Int):Int:=if d > 0 then a+1 else a
def G9 (b:Bk):Int→Int→Nat→List Pag→Prop
 | a,d,m,[]=>a=b.atoms.length∧d=0∧m=b.fls.length
 | a,d,m,p::r=>∃a' d' j,goP b.atoms a d p.fs=some (a',d')∧ij b p.ls m j∧(∀i f,i < m+j→b.fls[i]?=some f→b.atoms≠[]→f.anchor < vX a' d')∧G9 b a' d' (m+j) r
theorem Bt {b:Bk}:∀ {L:List (Option Pag)} {a d:Int} {m:Nat} (k:Nat),AG b a d m L→G9 b a d m ((List.range L.length).map fun i=>pgN (i+k) (L.getD i none))
 | [],_,_,_,_,h=>h
 | x::r,a,d,m,k,h=>by
   obtain ⟨a',d',j,h1,h2,h3,h4⟩:=h;rw [List.length_cons,List.range_succ_eq_map,List.map_cons,List.map_map];have hx:(pgN (0+k) x).fs=fsO x∧(pgN (0+k) x).ls=lsO x:=by cases x <;> exact ⟨rfl,rfl⟩
   refine ⟨a',d',j,?_,?_,h3,?_⟩
   ·rw [←h1]; exact congrArg _ hx.1
   ·have e:(pgN (0+k) ((x::r).getD 0 none)).ls=lsO x:=hx.2;rw [e]; exact h2
   ·have:=Bt (k+1) h4;have e:((fun i=>pgN (i+k) ((x::r).getD i none)) ∘ Nat.succ)=fun i=>pgN (i+(k+1)) (r.getD i none):=by
     funext i;simp only [Function.comp,List.getD_cons_succ];rw [show Nat.succ i+k=i+(k+1) by omega]
    rw [e];exact this
theorem C9 {l:List Nd} (hl:dE l) {w h:Int} (he:gl l w h=0):G9 (bQ l w h) 0 0 0 (di (bQ l w h)):=by
 have hr:=yM hl he;generalize bQ l w h=b at *;unfold di;split
 ·rename_i h0;have h1:b.atoms=[]:=List.eq_nil_of_length_eq_zero (by omega);have h2:b.fls=[]:=List.eq_nil_of_length_eq_zero (by omega);refine ⟨0,0,0,rfl,ij.nil b 0,fun i f hi hf hat=>absurd h1 hat,?_,rfl,?_⟩
  ·rw [h1]; rfl
  ·rw [h2]; rfl
 ·exact Bt 0 hr
def tB (l:List Atm) (i:Int):Int→Int→List Frg→List Int
 | _,_,[]=>[]
 | a,d,x::r=>(if d=0 then [i] else [])++(if d+x.h=(atG l a).h then tB l i (a+1) 0 r else tB l i a (d+x.h) r)
theorem xG {l:List Atm} {a d a' d':Int} {x:Frg} {r:List Frg} (h:goP l a d (x::r)=some (a',d')) :
 ((0≤a∧a < l.length)∧x.atom=a∧x.node=(atG l a).node∧x.fr=d∧1≤x.h∧x.w=(atG l a).w∧x.x=(atG l a).x∧d+x.h≤(atG l a).h) ∧
 (d+x.h=(atG l a).h∧goP l (a+1) 0 r=some (a',d')∨d+x.h < (atG l a).h∧r=[]∧a'=a∧d'=d+x.h):=by
 rw [goP] at h;split at h
 ·rename_i hc;refine ⟨hc,?_⟩;split at h
  ·rename_i he; exact .inl ⟨he,h⟩
  ·rename_i he;split at h
   ·rename_i hr;simp only [Oi,Prod.mk.injEq] at h;obtain ⟨-, -, -, -, -, -, -,h8⟩:=hc;exact .inr ⟨by omega,hr,h.1.symm,h.2.symm⟩
   ·cases h
 ·cases h
theorem uH {l:List Atm} {i:Int}:∀ {fs:List Frg} {a d a' d':Int},0≤a→0≤d→goP l a d fs=some (a',d')→((tB l i a d fs).length:Int)=vX a' d' - vX a d∧(∀x∈tB l i a d fs,x=i)∧0≤a'∧0≤d'
 | [],a,d,a',d',h0,h1,h=>by
   simp only [goP,Oi,Prod.mk.injEq] at h;obtain ⟨rfl,rfl⟩:=h;exact ⟨by simp [tB],fun x hx=>(by cases hx),h0,h1⟩
 | x::r,a,d,a',d',h0,h1,h=>by
   obtain ⟨⟨-, -, -, -,h5, -, -, -⟩,h9⟩:=xG h;have hd:(((if d=0 then [i] else []:List Int).length:Nat):Int)=if d=0 then 1 else 0:=by split <;> rfl
   have hm:∀y∈(if d=0 then [i] else []:List Int),y=i:=fun y hy=>by
    split at hy
    ·exact List.mem_singleton.1 hy
    ·cases hy
   rw [tB,List.length_append];rcases h9 with ⟨h6,h7⟩ | ⟨h6,h7,h8,h10⟩
   ·rw [if_pos h6];obtain ⟨g1,g2,g3⟩:=uH (i:=i) (by omega) (Int.le_refl _) h7;refine ⟨?_,fun y hy=>(List.mem_append.1 hy).elim (hm y) (g2 y),g3⟩;have e:vX (a+1) 0=a+1:=rfl;rw [e] at g1;have e2:vX a d=if d=0 then a else a+1:=by unfold vX; split <;> split <;> omega
    rw [e2];split at hd <;> rename_i hz
    ·rw [if_pos hz]; omega
    ·rw [if_neg hz]; omega
   ·subst h7 h8 h10;rw [if_neg (show ¬(d+x.h=(atG l a').h) by omega)];refine ⟨?_,fun y hy=>(List.mem_append.1 hy).elim (hm y) (fun hy=>by cases hy),h0,by omega⟩;have e1:vX a' (d+x.h)=a'+1:=if_pos (by omega);have e2:vX a' d=if d=0 then a' else a'+1:=by unfold vX; split <;> split <;> omega
    rw [e1,e2];simp only [tB,List.length_nil];split at hd <;> rename_i hz
    ·rw [if_pos hz]; omega
    ·rw [if_neg hz]; omega
end Go.Vc

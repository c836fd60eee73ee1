/- Part 9 of the library of this proof. -/
import Derived.Test.YthlfggpepphopaaGreatW8
set_option linter.all false
set_option maxHeartbeats 4000000
set_option maxRecDepth 100000
namespace Go.Vc
open Go.Proofs Go.Proofs.Tryz
theorem uv {b:Bk} (hb:BkOk b) {s:Stt} (h:dp b.atoms s):0≤s.done∧s.done≤18014398509481984:=by
 obtain ⟨⟨h0,h1⟩,h2,h3⟩:=h;obtain ⟨k,hk⟩:∃k:Nat,s.atom=k:=⟨s.atom.toNat,by omega⟩
 have hkl:k < b.atoms.length:=by omega
 have:=hb.tight _ (List.getElem_mem hkl);rw [hk,bj hkl] at h3;omega
theorem tR {b:Bk} (hb:BkOk b) (k:Int):-18014398509481984≤gi b.atoms k∧gi b.atoms k≤36028797018963968:=by
 unfold gi;split
 ·rename_i h;obtain ⟨n,rfl⟩:∃n:Nat,k=n:=⟨k.toNat,by omega⟩
  have hn:n < b.atoms.length:=by omega
  have:=hb.tight _ (List.getElem_mem hn);rw [bj hn]; omega
 ·omega
theorem Da {b:Bk} (hb:BkOk b) (s:Stt) (area:Int):-1152921504606846976≤oe b.atoms s area∧oe b.atoms s area≤2305843009213693952:=by
 unfold oe mr;split
 ·split
  ·rename_i h;have h1:=tR hb (s.atom - 1);obtain ⟨n,hn⟩:∃n:Nat,s.atom=n:=⟨s.atom.toNat,by omega⟩
   have hnl:n < b.atoms.length:=by omega
   have:=hb.tight _ (List.getElem_mem hnl);rw [hn] at h1 ⊢;rw [bj hnl]; omega
  ·omega
 ·omega
theorem l4 {l:List Atm} {s:Stt} {kept shift body:Int}:ly l s kept shift body≤l.length:=by
 unfold ly;split
 ·rename_i h;have:=BP (eR l s kept shift body) (l.length - s.atom.toNat);have:=h.1;omega
 ·omega
theorem CW (ah:Fd→Fd→Bool→Bool):∀(xs:List Fd) (d:Fd),(eT ah xs d).1=d∨(eT ah xs d).1∈xs:=by
 have key:∀(xs:List Fd) (p:Fd×Bool),(xs.foldl (fE ah) p).1=p.1∨(xs.foldl (fE ah) p).1∈xs:=by
  intro xs
  induction xs with
  | nil=>intro p; exact .inl rfl
  | cons x xs ih =>
    intro p;rw [List.foldl_cons];rcases ih (fE ah p x) with h | h
    ·rw [h];unfold fE;split
     ·exact .inr (by simp)
     ·exact .inl rfl
    ·exact .inr (by simp [h])
 exact fun xs d=>key xs (d,false)
theorem Cy {xs:List Fd} (h:xs≠[]) (d:Fd):(eT iu xs d).1∈xs:=by
 obtain ⟨x,xs,rfl⟩:∃x l,xs=x::l:=by cases xs with
  | nil=>exact absurd rfl h
  | cons x l=>exact ⟨x,l,rfl⟩
 unfold eT;rw [List.foldl_cons];have:fE iu (d,false) x=(x,true):=by simp [fE,iu]
 rw [this];have key:∀(xs:List Fd) (p:Fd×Bool),(xs.foldl (fE iu) p).1=p.1∨(xs.foldl (fE iu) p).1∈xs:=by
  intro xs
  induction xs with
  | nil=>intro p; exact .inl rfl
  | cons x xs ih =>
    intro p;rw [List.foldl_cons];rcases ih (fE iu p x) with h | h
    ·rw [h]; unfold fE;split
     ·exact .inr (by simp)
     ·exact .inl rfl
    ·exact .inr (by simp [h])
 rcases key xs (x,true) with h | h
 ·rw [h]; simp
 ·simp [h]
theorem nC {b:List Brk} {i fit:Int} (h:eQ b i fit) (hf:fit≤(b.length:Int) - 1):∃c:Nat,tS b i fit=c∧i < c∧(c:Int)≤fit:=by
 obtain ⟨_,h1,h2,h3⟩:=h;have mem:∀x∈(btw b (i+1) fit).map (kS b),∃c:Nat,x.i=c∧i < c∧(c:Int)≤fit:=fun x hx=>by
  obtain ⟨k,hk,rfl⟩:=List.mem_map.1 hx;unfold btw tY at hk;rw [List.mem_range'_1] at hk;exact ⟨k,rfl,by omega,by omega⟩
 unfold tS;split
 ·refine mem _ (Cy ?_ _);intro e;have:=congrArg List.length e;simp [btw,tY] at this;omega
 ·rename_i hn;rcases CW gn ((btw b (i+1) fit).map (kS b)) yy with h | h
  ·exact absurd (show ky b (i+1) fit < 0 by unfold ky; rw [h]; decide) hn
  ·exact mem _ h
theorem WxJ.set {b:Bk} {K:af} {ix:Nat} {x:Wx} {σ:af} {vh vf vl:V} (h:WxJ b K ix x σ vh vf vl) (x':Wx) (h1:x'.hs=x.hs) (h2:x'.fs=x.fs) (h3:x'.ls=x.ls):WxJ b K ix x' (upd σ ix (cN b x' vh vf vl)) vh vf vl:=by
 have k2:bb K ix ix≠none:=fun h=>(aF.1 h).1 rfl;exact ⟨Vc.ag,h1 ▸ h.oh.ab k2,h2 ▸ h.of.ab k2,h3 ▸ h.ol.ab k2,h.hf,h.hl,h.fl,h.sub.aD h.no,h.no⟩
def dM (b:Bk) (x:Wx):Int:=oe b.atoms x.s (x.body - x.shift)
def dF (b:Bk) (x:Wx):Int:=ly b.atoms x.s (dM b x) x.shift x.body
def vP (b:Bk) (x:Wx):Int:=tS b.brks x.s.atom (dF b x)
def sk (b:Bk) (x:Wx) (kept:Int) (cut:Nat):Wx:=(x.add (bX b x kept (cut - x.s.atom.toNat))).put (dO b.atoms b.fls x.s cut kept x.shift x.body).1
def zS (b:Bk) (x:Wx) (kept:Int) (cut:Nat):Sta:=⟨⟨cut,0,decide ((b.brks.getD cut ⟨0,0,0⟩).forced≠0)⟩,(dO b.atoms b.fls x.s cut kept x.shift x.body).2⟩
def ek (b:Bk) (x:Wx):Wx:=if eQ b.brks x.s.atom (dF b x) then sk b { x with kind:=1 } (dM b x) (vP b x).toNat else sU b { x with kind:=1 }
def ee (b:Bk) (x:Wx):Sta:=if eQ b.brks x.s.atom (dF b x) then zS b { x with kind:=1 } (dM b x) (vP b x).toNat else ux b { x with kind:=1 }
theorem HP (b:Bk) (hb:BkOk b) (x:Wx) (hm:dp b.atoms x.s) (hx:x.fs.length≤1000000) (hxl:x.ls.length≤1000000) (hh:0≤x.high∧x.high≤1125899906842624) (hbd:0≤x.body∧x.body≤1125899906842624)
 (hsh:0≤x.shift∧x.shift≤1125899906842624) {K σ:af} {i1:Nat} {vh vf vl:V} (hJ:WxJ b K i1 x σ vh vf vl) :
 av prog 45 [.ptr i1 0 0] σ fun r σ'=>∃vf' vl',r=cI (ee b x)∧WxJ b K i1 (ek b x) σ' vh vf' vl':=by
 refine e45.r (by simp [c45]) ?_;have hs:=aa.refl σ;have hbk:bI b=.agg [aJ b.nodes,vI b.w,vI b.h,bt b.atoms,aK b.fls,vI b.height,bM b.brks]:=rfl;have a1:=hJ.row;rw [cN] at a1;obtain ⟨ch,sh⟩:=hJ.oh.vc;obtain ⟨cf,sf⟩:=hJ.of.vc;obtain ⟨cl,sl⟩:=hJ.ol.vc;have hd:=uv hb hm;have hk:=Da hb x.s (x.body - x.shift);have hlen:=hb.len;have hbl:=hb.brk;have hKc:=HC b.atoms hb.at' x.s (x.body - x.shift);have hRc:=El b.atoms hb.at' x.s (by omega) (dM b x) x.shift x.body hk ⟨by omega,by omega⟩;have hCc:=JO b.brks (by omega) x.s.atom (dF b x);have hrl:dF b x≤b.atoms.length:=l4;have hcr:eQ b.brks x.s.atom (dF b x)→∃c:Nat,vP b x=c∧x.s.atom < c∧(c:Int)≤dF b x:=fun h=>nC h (by omega);have hXk:dM b x=oe b.atoms x.s (x.body - x.shift):=rfl;rw [←hXk] at hKc hk;have hXr:dF b x=ly b.atoms x.s (dM b x) x.shift x.body:=rfl;rw [←hXr] at hRc;have hXc:vP b x=tS b.brks x.s.atom (dF b x):=rfl;rw [←hXc] at hCc;have r1:inR .i64 (x.body - x.shift):=ak (by omega) (by omega);rw [bo] at hKc hRc;unfold ek ee;generalize dM b x=kept at *;generalize dF b x=reach at *;generalize vP b x=cut at *;refine ad.mix 8 ?_;apply sR;simp only [go_sem,seval,c45];refine ae fun i2 σ2 s2 a2 f2=>?_;have n12:=ao a1 f2;replace a1:=s2 _ _ a1;have z2:=hs.none f2;replace hs:=hs.trans s2;have k2:K i2=none:=hJ.sub.none f2;have hJ2:=hJ.mH s2 f2 a2;simp only [go_sem,seval,a1,hbk,fD,r1];refine Go.ct rfl rfl rfl hKc ?_;apply sG;simp only [go_sem,seval,a1,hbk,FE];refine Go.ct rfl rfl rfl hRc ?_;apply sG;simp only [go_sem,seval];refine Go.ct rfl rfl rfl hCc ?_;have hJs:=hJ2.set { x with kind:=1 } rfl rfl rfl;rw [cN] at hJs;by_cases hok:eQ b.brks x.s.atom reach
 ·obtain ⟨c,rfl,h1,h2⟩:=hcr hok;rw [decide_eq_true hok,if_pos hok,if_pos hok,if_pos hok,Int.toNat_natCast];apply sG;simp only [go_sem,seval,a1];generalize hq1:upd σ2 i1 _=τ1 at *;have hw:av prog 72 [.ptr i1 0 0,vI kept,vI c] τ1 fun r σ'=>∃vf' vl',r=cI (zS b { x with kind:=1 } kept c)∧WxJ b (upd K i2 ⟨27,4,[.agg [vI 0,vI 0, .bool false, .aC]]⟩) i1 (sk b { x with kind:=1 } kept c) σ' vh vf' vl':=F4 b hb { x with kind:=1 } hm (by show x.s.done≤_; omega) hx hxl (by show 0≤x.high∧x.high≤_; omega) kept hk (by show 0≤x.shift∧x.shift≤_; omega) c (by show x.s.atom≤_; omega) (by omega) hJs;generalize zS b { x with kind:=1 } kept c=Z at *;generalize sk b { x with kind:=1 } kept c=Y at *;refine ad.jQ rfl rfl rfl hw ?_;rintro r σ' ⟨vf',vl',rfl,hJ'⟩;have c2:=hJ'.sub _ _ ag;apply sR;simp only [go_sem,seval,c2,cI,aS,aU];exact ⟨_,_,aa.refl _,Wk.refl (aa.refl _) _,vf',vl',rfl,hJ'.drop k2 _⟩
 ·rw [decide_eq_false hok,if_neg hok,if_neg hok,if_neg hok];apply sG;simp only [go_sem,seval,a1];generalize hq1:upd σ2 i1 _=τ1 at *;have hw:av prog 71 [.ptr i1 0 0,vI kept,vI 0] τ1 fun r σ'=>∃vf' vl',r=cI (ux b { x with kind:=1 })∧WxJ b (upd K i2 ⟨27,4,[.agg [vI 0,vI 0, .bool false, .aC]]⟩) i1 (sU b { x with kind:=1 }) σ' vh vf' vl':=HN b hb { x with kind:=1 } hm (by show x.s.done≤_; omega) hx hxl (by show 0≤x.high∧x.high≤_; omega) kept 0 hJs;generalize ux b { x with kind:=1 }=Z at *;generalize sU b { x with kind:=1 }=Y at *;refine ad.jQ rfl rfl rfl hw ?_;rintro r σ' ⟨vf',vl',rfl,hJ'⟩;have c2:=hJ'.sub _ _ ag;apply sR;simp only [go_sem,seval,c2,cI,aS,aU];exact ⟨_,_,aa.refl _,Wk.refl (aa.refl _) _,vf',vl',rfl,hJ'.drop k2 _⟩
open Go.Proofs Go.Proofs.Tryz
def j4 (body:Int) (f:Flo):Bool:=decide (f.y+f.h≤body)
def uI (b:Bk) (x:Wx):Wx:={ (x.put (b.fls.takeWhile (j4 x.body))) with kind:=2 }
def j6 (b:Bk) (x:Wx):Sta:=⟨⟨0,0,false⟩,b.fls.dropWhile (j4 x.body)⟩
theorem xF {P:List Flo} {j:Nat} (h:j≤P.length):∀σ,cp σ 7 (aK P) none (some (.int .i64 j)) none=some (aK (P.take j)):=fun σ=>by
 have h1:(j:Int)≤P.length:=by omega
 simp only [aK,cp,bu,List.length_map];rw [if_pos ⟨Int.le_refl _,by omega,h1,Int.le_refl _,trivial⟩];simp [List.map_take]
theorem vX {α:Type} {p:α→Bool}:∀ {l:List α} {j:Nat},(∀x∈l.take j,p x=true)→(∀x,l[j]?=some x→p x=false)→j≤l.length→l.takeWhile p=l.take j∧l.dropWhile p=l.drop j
 | [],j,_,_,h=>by simp
 | x::l,0,_,h2,_=>by
   have:=h2 x rfl;simp [List.takeWhile_cons,List.dropWhile_cons,this]
 | x::l,j+1,h1,h2,h=>by
   have hx:=h1 x (by simp);have ih:=vX (p:=p) (l:=l) (j:=j) (fun y hy=>h1 y (by simp [hy])) (fun y hy=>h2 y (by simpa using hy)) (by simpa using h);simp [List.takeWhile_cons,List.dropWhile_cons,hx,ih.1,ih.2]
theorem Ga (b:Bk) (hb:BkOk b) (x:Wx) (hxl:x.ls.length≤1000000) (hh:0≤x.high∧x.high≤1125899906842624) {K σ:af} {i1:Nat} {vh vf vl:V} (hJ:WxJ b K i1 x σ vh vf vl) :
 av prog 41 [.ptr i1 0 0] σ fun r σ'=>∃vl',r=cI (j6 b x)∧WxJ b K i1 (uI b x) σ' vh vf vl':=by
 refine e41.r (by simp [c41]) ?_;have hs:=aa.refl σ;have hbk:bI b=.agg [aJ b.nodes,vI b.w,vI b.h,bt b.atoms,aK b.fls,vI b.height,bM b.brks]:=rfl;have a1:=hJ.row;rw [cN] at a1;obtain ⟨ch,sh⟩:=hJ.oh.vc;obtain ⟨cf,sf⟩:=hJ.of.vc;obtain ⟨cl,sl⟩:=hJ.ol.vc;have hfn:=hb.flen;have hlp:=fB b.fls;unfold uI j6;refine ad.mix 5 ?_;apply sR;simp only [go_sem,seval,c41];refine ae fun i2 σ2 s2 a2 f2=>?_;have n12:=ao a1 f2;replace a1:=s2 _ _ a1;have z2:=hs.none f2;replace hs:=hs.trans s2;have k2:K i2=none:=hJ.sub.none f2;have hJ2:=hJ.mH s2 f2 a2;simp only [go_sem,seval,a1,hbk,Bl];refine ad.eD (fun st=>∃j:Nat,j≤b.fls.length∧b.fls.takeWhile (j4 x.body)=b.fls.take j∧b.fls.dropWhile (j4 x.body)=b.fls.drop j∧st.σ=σ2∧st.s 0=.ptr i1 0 0∧st.s 2=.ptr i2 0 0∧st.s 3=vI j∧st.s 4=aK b.fls)
  (fun m st=>∃j:Nat,j≤b.fls.length∧m=b.fls.length - j∧(∀f∈b.fls.take j,j4 x.body f=true)∧st.σ=σ2∧st.s 0=.ptr i1 0 0∧st.s 2=.ptr i2 0 0∧st.s 3=vI j∧st.s 4=aK b.fls) b.fls.length ?_ ?_ ?_
 ·exact ⟨0,by omega,rfl,by simp,rfl,rfl,rfl,rfl,rfl⟩
 ·rintro m ⟨S,τ⟩ ⟨j,hj,rfl,hall,hσ,t0,t2,t3,t4⟩;simp only at hσ t0 t2 t3 t4;subst hσ;refine ad.mix 5 ?_;by_cases hlt:j < b.fls.length
  ·have q:((j:Int) < b.fls.length)=True:=eq_true (by omega);have hidx:=fun σ=>iI (σ:=σ) hlt;have hfl:aO b.fls[j]=.agg [vI b.fls[j].node,vI b.fls[j].side,vI b.fls[j].anchor,vI b.fls[j].x,vI b.fls[j].y,vI b.fls[j].w,vI b.fls[j].h]:=rfl;obtain ⟨_,⟨o1,o2⟩,_,o3,o4⟩:=hb.flo _ (List.getElem_mem hlt);have htk:b.fls.take (j+1)=b.fls.take j++[b.fls[j]]:=List.take_succ_eq_append_getElem hlt;have hget:b.fls[j]?=some b.fls[j]:=List.getElem?_eq_getElem hlt;generalize b.fls[j]=f at *;have r1:inR .i64 (f.y+f.h):=ak (by omega) (by omega);have r2:inR .i64 ((j:Int)+1):=ak (by omega) (by omega);by_cases hle:f.y+f.h≤x.body
   ·have q1:(f.y+f.h≤x.body)=True:=eq_true hle;apply sR;simp only [go_sem,seval,t0,t2,t3,t4,hlp,q,hidx,hfl,a1,r1,q1,r2];refine ⟨_,?_,j+1,by omega,rfl,?_,by simp [t0,t2,t4]⟩
    ·omega
    ·rw [htk];intro g hg;rcases List.mem_append.1 hg with hg | hg
     ·exact hall g hg
     ·simp at hg; subst hg; exact decide_eq_true hle
   ·have q1:(f.y+f.h≤x.body)=False:=eq_false hle;apply sR;simp only [go_sem,seval,t0,t2,t3,t4,hlp,q,hidx,hfl,a1,r1,q1];obtain ⟨e1,e2⟩:=vX hall (fun g hg=>by rw [hget] at hg; cases hg; exact decide_eq_false hle) hj;exact ⟨j,hj,e1,e2,by simp [t0,t2,t3,t4]⟩
  ·have q:((j:Int) < b.fls.length)=False:=eq_false (by omega);apply sR;simp only [go_sem,seval,t0,t2,t3,t4,hlp,q,a1];obtain ⟨e1,e2⟩:=vX hall (fun g hg=>by rw [List.getElem?_eq_none (by omega)] at hg; cases hg) hj;exact ⟨j,hj,e1,e2,by simp [t0,t2,t3,t4]⟩
 ·rintro ⟨S,τ⟩ ⟨j,hj,e1,e2,hσ,t0,t2,t3,t4⟩;simp only at hσ t0 t2 t3 t4;subst hσ;rw [e1,e2];have hsl:=xF hj;have hsl2:=pq hj;refine ad.mix 5 ?_;apply sR;simp only [BB,seval,←decide_not,bp,eP,aE,cF,eA,ed,ez,dL,cb,j9,gl,bC,fF,dI,et,cH,bu,iq,dd,cE,bZ,eff,jU,cV,bR,jK,dV,cd,dD,cU,kO,binBV,bS,dg,V.cells,V.stays,Orc.nothing,t0,t2,t3,t4,hsl];refine ad.call rfl rfl rfl (lU b (b.fls.take j) (by rw [List.length_take]; omega) x hxl (fun f hf=>by
   obtain ⟨_,⟨o1,o2⟩,_,o3,o4⟩:=hb.flo f (List.mem_of_mem_take hf);exact ak (by omega) (by omega)) hJ2) ?_
  rintro r σ' ⟨vl',hJ'⟩;have c2:=hJ'.sub _ _ ag;have b1:=hJ'.row;have n12':i1≠i2:=n12;rw [cN] at b1;generalize x.put (b.fls.take j)=y at *;have hJs:=hJ'.set { y with kind:=2 } rfl rfl rfl;rw [cN] at hJs;apply sR;simp only [BB,seval,←decide_not,bp,eP,aE,cF,eA,ed,ez,dL,cb,j9,gl,bC,fF,dI,et,cH,bu,iq,dd,cE,bZ,eff,jU,cV,bR,jK,dV,cd,dD,cU,kO,binBV,bS,dg,V.cells,V.stays,Orc.nothing,t0,t2,t3,t4,b1,hsl2];generalize hq1:upd σ' i1 _=τ1 at *;replace c2:=hJs.sub _ _ ag;refine ad.az rfl rfl rfl (xm (b.fls.drop j) (by rw [List.length_drop]; omega) _) ?_;apply sR;simp only [go_sem,seval,c2,t2,aS,aU];exact ⟨_,_,aa.refl _,Wk.refl (aa.refl _) _,vl',rfl,hJs.drop k2 _⟩
open Go.Proofs Go.Proofs.Tryz
def bx.lt:bx→bx
 | .seq a _=>a
 | c=>c
def bx.bd:bx→bx
 | .block _ a=>a
 | c=>c
structure BkFull (b:Bk):Prop extends BkOk b where
 tB:dJ b.nodes
 isb:isB b.nodes=true
 h1:1≤b.h
 h2:b.h≤1099511627776
 nod:∀a∈b.atoms,0≤a.node∧a.node < b.nodes.length
def bB (b:Bk) (s:Stt):Kp:=if b.atoms=[] then ⟨[],0,b.h⟩ else qL b.nodes (atG b.atoms (min s.atom ((b.atoms.length:Int) - 1))).node b.h
def hdS (l:List Nd) (w:Int) (p:List Frg×Int) (a:Int):List Frg×Int:=(p.1++[⟨a, -1,0,0,p.2,w,(stA l a).head⟩],p.2+(stA l a).head)
def hdK (l:List Nd) (w:Int) (L:List Int):List Frg×Int:=L.foldl (hdS l w) ([],0)
theorem zo (l:List Nd) (w:Int) (L:List Int) (a:Int):hdK l w (L++[a])=hdS l w (hdK l w L) a:=by
 unfold hdK; rw [List.foldl_append]; rfl
theorem Gn (l:List Nd) (w:Int):∀(L:List Int),(hdK l w L).1.length=L.length:=by
 have key:∀(L:List Int) (p:List Frg×Int),(L.foldl (hdS l w) p).1.length=p.1.length+L.length:=by
  intro L
  induction L with
  | nil=>intro p; rfl
  | cons a L ih=>intro p; rw [List.foldl_cons,ih]; simp [hdS]; omega
 intro L;have:=key L ([],0);simpa [hdK] using this
theorem Bz (l:List Nd) (w:Int) (L:List Int) (h:∀a∈L,0≤(stA l a).head) (j:Nat):0≤(hdK l w (L.take j)).2∧(hdK l w (L.take j)).2≤(hdK l w L).2:=by
 have key:∀(L:List Int),(∀a∈L,0≤(stA l a).head)→∀(p:List Frg×Int),p.2≤(L.foldl (hdS l w) p).2:=by
  intro L
  induction L with
  | nil=>intro _ p; exact Int.le_refl _
  | cons a L ih =>
    intro h p;rw [List.foldl_cons];have h1:=ih (fun x hx=>h x (by simp [hx])) (hdS l w p a);have h2:=h a (by simp);simp only [hdS] at h1 ⊢;omega
 refine ⟨key (L.take j) (fun a ha=>h a (List.mem_of_mem_take ha)) ([],0),?_⟩;have e:hdK l w L=(L.drop j).foldl (hdS l w) (hdK l w (L.take j)):=by
  rw [hdK,hdK,←List.foldl_append,List.take_append_drop]
 rw [e];exact key _ (fun a ha=>h a (List.mem_of_mem_drop ha)) _
theorem rV {l:List Nd} {L:List Int} {h:Int}:∀m,m≤L.length→∀a∈(fP l L h m).heads,a∈L
 | 0,_,a,ha=>by simp [fP] at ha
 | m+1,hm,a,ha=>by
   rw [fP,iy] at ha;split at ha
   ·exact rV m (by omega) a ha
   ·simp only [List.mem_append,List.mem_singleton] at ha;rcases ha with ha | ha
    ·exact rV m (by omega) a ha
    ·rw [ha];have hlt:L.length - 1 - m < L.length:=by omega
     have hg:L.getD (L.length - 1 - m) 0=L[L.length - 1 - m]:=by simp [hlt]
     rw [hg]; exact List.getElem_mem hlt
theorem oR {l:List Nd} {L:List Int} {h w:Int}:∀m,(hdK l w (fP l L h m).heads).2=(fP l L h m).high
 | 0=>rfl
 | m+1=>by
   rw [fP,iy];split
   ·exact oR m
   ·simp only [zo,hdS];rw [oR m]
structure My (b:Bk) (k:Kp):Prop where
 len:k.heads.length≤1000000
 mem:∀a∈k.heads,∃n:Nat,a=n∧n < b.nodes.length
 sum:(hdK b.nodes b.w k.heads).2=k.high
 high:0≤k.high∧k.high≤1099511627776
 body:0≤k.body∧k.body≤1099511627776
theorem wu {b:Bk} (hb:BkFull b) (s:Stt):My b (bB b s):=by
 have h1:=hb.h1;have h2:=hb.h2;have hn:b.nodes.length≤100000:=by have:=hb.tB.1; omega
 unfold bB;split
 ·exact ⟨by simp,by simp,rfl,by simp,by simp; omega⟩
 ·unfold qL;split
  ·rename_i hc;obtain ⟨_,h3,h4⟩:=hc;generalize (atG b.atoms (min s.atom ((b.atoms.length:Int) - 1))).node=a at *;have ha:a.toNat < b.nodes.length:=by omega
   have hrg:∀x∈abv b.nodes a.toNat,∃n:Nat,x=n∧n < b.nodes.length:=fun x hx=>by
    obtain ⟨n,h1,h2⟩:=nP ha x hx;exact ⟨n,h1,by omega⟩
   have hi:=nK hb.isb hrg (by omega:0≤b.h) (abv b.nodes a.toNat).length (Nat.le_refl _);have hl:(abv b.nodes a.toNat).length≤b.nodes.length+1:=ig _ _ _;unfold wE;exact ⟨by omega,fun x hx=>hrg x (rV _ (Nat.le_refl _) x hx),oR _,by omega,by omega⟩
  ·exact ⟨by simp,by simp,rfl,by simp,by simp⟩
def bH (b:Bk) (s:Stt) (hv:V):Wx:=⟨hv,(bB b s).high,(bB b s).body,s,0,(hdK b.nodes b.w (bB b s).heads).1,[],[],0⟩
theorem FH (b:Bk) (hb:BkFull b) (s:Stt) (hs0:0≤s.atom) (σ:af) :
 av prog 40 [.rp (bI b),bo s] σ fun r σ'=>∃i1 vh hv,r=.ptr i1 0 0∧WxJ b σ i1 (bH b s hv) σ' vh .aC .aC:=by
 refine e40.r (by simp [c40]) ?_;have hs:=aa.refl σ;have hbk:bI b=.agg [aJ b.nodes,vI b.w,vI b.h,bt b.atoms,aK b.fls,vI b.height,bM b.brks]:=rfl;have hsc:(bo s).cells=[vI s.atom,vI s.done, .bool s.free]:=rfl;have hss:(bo s).stays=true:=rfl;have hln:=gT b.atoms;have hlen:=hb.len;refine ad.mix 11 ?_;apply sR;simp only [go_sem,seval,c40,hsc,hss];refine ae fun i3 σ3 s3 a3 f3=>?_;have z3:=hs.none f3;replace hs:=hs.trans s3;rw [bo] at a3;simp only [go_sem,seval,a3,hbk];refine bz fun i19 σ19 s19 a19 f19=>?_;have n319:=ao a3 f19;replace a3:=s19 _ _ a3;have z19:=hs.none f19;replace hs:=hs.trans s19;have hr:=wu hb s;unfold bH;have hJ0:∀(hv:V) (k:Kp) (τ:af),τ i19=some (cN b ⟨hv,k.high,k.body,s,0,[],[],[],0⟩ .aC .aC .aC)→aa σ τ→WxJ b σ i19 ⟨hv,k.high,k.body,s,0,[],[],[],0⟩ τ .aC .aC .aC:=fun hv k τ h h2 =>
  ⟨h,aM.start,aM.start,aM.start,dr.aC _,dr.aC _,dr.aC _,h2,z19⟩
 have fin:∀(S:Nat→V) (τ:af) (hv:V),dK false hv=some (.int .i64 (bB b s).heads.length)→(∀(j:Nat) (h:j < (bB b s).heads.length) (σ:af),bF σ 1 hv (.int .i64 j)=some (.rp (vI (bB b s).heads[j]))) →
  τ i19=some (cN b ⟨hv,(bB b s).high,(bB b s).body,s,0,[],[],[],0⟩ .aC .aC .aC)→aa σ τ→S 0=.rp (bI b)→S 5=.ptr i19 0 0→S 7=vI 0→S 57=hv→S 58=vI (bB b s).heads.length→S 59=vI 0 →
  ad prog 96 [It.code c40.code.rt.rt.rt.rt.lt.rt.bd,It.inBlock 0,It.code c40.code.rt.rt.rt.rt.rt] ⟨S,τ⟩ fun st=>Ret [.tmp (.t 4)] st fun r σ'=>∃i1 vh hv,r=.ptr i1 0 0∧WxJ b σ i1 ⟨hv,(bB b s).high,(bB b s).body,s,0,(hdK b.nodes b.w (bB b s).heads).1,[],[],0⟩ σ' vh .aC .aC:=by
  intro S τ hv hlL hix h19 hsτ t0 t5 t7 t57 t58 t59;have hJ:=hJ0 _ _ _ h19 hsτ;clear hJ0 h19 hsτ hs a3 a19;generalize bB b s=k at *;obtain ⟨L,high,body⟩:=k;obtain ⟨r1,r2,r3,⟨r4,r5⟩,_⟩:=hr;simp only at r1 r2 r3 r4 r5 hJ hlL hix t58 ⊢;have hh0:∀a∈L,0≤(stA b.nodes a).head:=fun a ha=>by
   obtain ⟨n,rfl,hn⟩:=r2 a ha;rw [iL hn]; exact (fI hb.isb hn).st.head.1
  have a19:=hJ.row;rw [cN] at a19;refine ad.mix 60 ?_;simp only [c40,bx.rt,bx.lt,bx.bd];refine ad.loop (fun m st=>∃(j:Nat) (vh:V),j≤L.length∧m=L.length - j∧WxJ b σ i19 ⟨hv,high,body,s,0,(hdK b.nodes b.w (L.take j)).1,[],[],0⟩ st.σ vh .aC .aC∧st.s 0=.rp (bI b)∧st.s 5=.ptr i19 0 0∧st.s 7=vI (hdK b.nodes b.w (L.take j)).2∧st.s 57=hv∧st.s 58=vI L.length∧st.s 59=vI j) L.length ?_ ?_
  ·exact ⟨0, .aC,by omega,rfl,hJ,t0,t5,t7,t57,t58,t59⟩
  ·clear hJ a19 t0 t5 t7 t57 t58 t59;rintro m ⟨S,τ⟩ ⟨j,vh,hj,rfl,hJ,t0,t5,t7,t57,t58,t59⟩;simp only at hJ t0 t5 t7 t57 t58 t59;refine ad.mix 60 ?_;by_cases hlt:j < L.length
   ·have q:((j:Int) < L.length)=True:=eq_true (by omega);obtain ⟨n,hn,hnl⟩:=r2 _ (List.getElem_mem hlt);have hidx:=hix j hlt;have hnd:=fun σ=>iH b.nodes hnl σ;have iG:=Bz b.nodes b.w L hh0 j;have hsum1:=Bz b.nodes b.w L hh0 (j+1);have hlk:=Gn b.nodes b.w (L.take j);have hlt2:(L.take j).length=j:=by rw [List.length_take]; omega
    have htk:L.take (j+1)=L.take j++[(n:Int)]:=by rw [List.take_succ_eq_append_getElem hlt,hn]
    have hstep:hdK b.nodes b.w (L.take (j+1))=hdS b.nodes b.w (hdK b.nodes b.w (L.take j)) n:=by rw [htk,zo]
    rw [r3] at iG hsum1;rw [hstep] at hsum1;rw [hn] at hidx;generalize hdK b.nodes b.w (L.take j)=X at *;obtain ⟨F,y⟩:=X;simp only [hdS,iL hnl] at iG hsum1 hlk hJ t7 hstep;have q1:inR .i64 (y+b.nodes[n].st.head):=ak (by omega) (by omega);have q2:inR .i64 ((j:Int)+1):=ak (by omega) (by omega);have a19:=hJ.row;rw [cN] at a19;obtain ⟨cv,sv⟩:=hJ.oh.vc;generalize b.nodes[n]=nd at *;have hs:=aa.refl τ;apply sR;simp only [go_sem,seval,t0,t5,t7,t57,t58,t59,q,hidx,hnd,Nd.cells,a19,hbk,Mq,cv,sv];refine bz fun i86 σ86 s86 a86 f86=>?_;have hJ5:=hJ.mono s86;obtain ⟨idA,hda,hgr⟩:=yx hJ5.sub hJ5.no hJ5.row hJ5.oh;have hfl:(F.map aX).length≤1000000:=by rw [List.length_map]; omega
    generalize hrw:F.map aX=rows at *;have hb2:(rows.length+1)*57≤140737488355328:=by omega
    simp only [go_sem,seval,hda,di a86,hb2];refine iW fun i87 σ87 s87 a87 f87=>?_;obtain ⟨b1,hg⟩:=hgr σ87 i87 _ s87 a87 f87;rw [cN] at b1;obtain ⟨g1,g2,g3⟩:=hg (cN b ⟨hv,high,body,s,0,F++[⟨n, -1,0,0,y,b.w,nd.st.head⟩],[],[],0⟩ (.own i87 0 (rows.length+1)) .aC .aC);simp only [go_sem,seval,b1,t0,t5,t7,t57,t58,t59,cv,sv,q1,q2];refine ⟨_,?_,j+1, .own i87 0 (rows.length+1),by omega,rfl,?_,rfl,?_,rfl⟩
    ·omega
    ·rw [hstep];rw [List.length_append] at g2;refine ⟨ag,?_,aM.start,aM.start,(dr.aC _).symm,(dr.aC _).symm,dr.aC _,g1,hJ.no⟩;show aM _ _ _ _ _ ((F++[_]).map aX);rw [List.map_append,hrw];exact g2
    ·rw [hstep]
   ·have q:((j:Int) < L.length)=False:=eq_false (by omega);have hje:j=L.length:=by omega
    rw [hje,List.take_length] at hJ;apply sR;simp only [go_sem,seval,t0,t5,t7,t57,t58,t59,q];exact ⟨_,_,aa.refl _,Wk.refl (aa.refl _) _,i19,vh,hv,rfl,hJ⟩
 by_cases he:b.atoms=[]
 ·have q:((b.atoms.length:Int) > 0)=False:=by rw [he]; simp
  have hre:bB b s=⟨[],0,b.h⟩:=if_pos he;simp only [go_sem,seval,a19,a3,fD,hln,hbk,q];rw [hre] at fin ⊢;rw [←hbk] at a19;refine fin _ _ .aC rfl (fun j h=>by simp at h) a19 hs ?_ ?_ ?_ ?_ ?_ ?_ <;> rfl
 ·have hl0:0 < b.atoms.length:=List.length_pos_iff.2 he;have q:((b.atoms.length:Int) > 0)=True:=eq_true (by omega);have r1:inR .i64 ((b.atoms.length:Int) - 1):=ak (by omega) (by omega);obtain ⟨k,hk⟩:∃k:Nat,min s.atom ((b.atoms.length:Int) - 1)=k:=⟨(min s.atom ((b.atoms.length:Int) - 1)).toNat,by omega⟩
  have hkl:k < b.atoms.length:=by omega
  have hidx:=fun σ=>gQ (σ:=σ) hkl;have hre:bB b s=qL b.nodes b.atoms[k].node b.h:=by rw [bB,if_neg he,hk,bj hkl]
  have hc:=Mc b.nodes hb.tB b.atoms[k].node b.h;rw [←hre] at hc;simp only [go_sem,seval,a19,a3,fD,hln,hbk,q,cW];refine ad.qK (by kernel_rfl) [0,1,2,3,4,5,6,7,8,9,10,11,12,13,14,15,16,17,18,19,20,21,22,23,24,25] [[],[],[1],[1,2],[1,2,3],[],[5],[5,6],[5,6,7],[5,6,7,8],[],[10],[],[12],[10,11,12,13],[5,6,7,8,9,10,11,12,13,14],[5,6,7,8,9,10,11,12,13,14,15],[5,6,7,8,9,10,11,12,13,14,15,16],[],[18],[18,19],[18,19,20],[1,2,3,4,5,6,7,8,9,10,11,12,13,14,15,16,17,18,19,20,21],[0,1,2,3,4,5,6,7,8,9,10,11,12,13,14,15,16,17,18,19,20,21,22],[0,1,2,3,4,5,6,7,8,9,10,11,12,13,14,15,16,17,18,19,20,21,22,23],[0,1,2,3,4,5,6,7,8,9,10,11,12,13,14,15,16,17,18,19,20,21,22,23,24]] [0,2,4,6,8,10,12,14,16,18,20,22,24,26,28,30,32,34,36,38,40,42,44,46,48,50] (by kernel_rfl) (by kernel_rfl) ?_;refine RE.seg (n:=0) [44,46,48,50] [0,2,4,6,8,10,12,14,16,18,20,22,24,26,28,30,32,34,36,38,40,42] [⟨(.some 28),(.mov (.t 5)),.none⟩,⟨(.some 29),(.mov (.t 0)),.none⟩,⟨(.some 30),(.nilCheck (.t 29)),.none⟩,⟨(.some 31),(.fldA .false 0 1 (.t 30)),.none⟩,⟨(.some 32),(.load .false 1 (.t 31)),.none⟩,⟨(.some 33),(.mov (.t 0)),.none⟩,⟨(.some 34),(.nilCheck (.t 33)),.none⟩,⟨(.some 35),(.fldA .true 3 3 (.t 34)),.none⟩,⟨(.some 36),(.fldA .false 0 1 (.t 35)),.none⟩,⟨(.some 37),(.load .false 1 (.t 36)),.none⟩,⟨(.some 38),(.fldA .false 0 1 (.t 3)),.none⟩,⟨(.some 39),(.load .false 1 (.t 38)),.none⟩,⟨(.some 40),(.mov (.t 6)),.none⟩,⟨(.some 41),(.bin .sub (.t 40) (.c (.int .i64 1))),.none⟩,⟨(.some 42),(.minmax .false (.t 39) (.t 41)),.none⟩,⟨(.some 43),(.idxA 8 (.t 37) (.t 42)),.none⟩,⟨(.some 44),(.fldA .false 1 1 (.t 43)),.none⟩,⟨(.some 45),(.load .false 1 (.t 44)),.none⟩,⟨(.some 46),(.mov (.t 0)),.none⟩,⟨(.some 47),(.nilCheck (.t 46)),.none⟩,⟨(.some 48),(.fldA .false 2 1 (.t 47)),.none⟩,⟨(.some 49),(.load .false 1 (.t 48)),.none⟩] rfl rfl ?_;apply sG;simp only [go_sem,seval,a19,a3,hbk,fD,Mq,r1,ew,hk,hidx,db];rw [rH] at hc;refine RE.az rfl rfl rfl rfl rfl (hc _) ?_;refine RE.seg (n:=0) [] [46,48,50] [⟨(.some 51),(.nilCheck (.t 28)),.none⟩,⟨(.some 52),(.fldA .true 0 3 (.t 51)),.none⟩,⟨.none,(.store 3 (.t 52) (.t 50)),.none⟩] rfl rfl ?_;apply sG;simp only [go_sem,seval,a19,aj,al];have hlL:=eS (bB b s).heads;apply sR;simp only [go_sem,seval,hlL];rw [←hbk];refine fin _ _ (bh (bB b s).heads) hlL (fun j h σ=>gk h) ag (hs.aD z19) ?_ ?_ ?_ ?_ ?_ ?_ <;> rfl
open Go.Proofs Go.Proofs.Tryz
theorem bkE (b:Bk):bI b=.agg [aJ b.nodes,vI b.w,vI b.h,bt b.atoms,aK b.fls,vI b.height,bM b.brks]:=rfl
theorem qW (b:Bk) (hb:1≤b.h):aV prog 31 [.rp (bI b)] (.bool false):=fun σ=>by
 refine e31.r (by simp [c31]) ?_;have q:(b.h=0)=False:=eq_false (by omega);refine ad.mix 3 ?_;apply sR;simp only [go_sem,seval,c31,bkE,q,Bv];exact au.same rfl
theorem B7 (b:Bk) (hb:BkFull b) (σ:af):av prog 65 [.rp (bI b)] σ fun r σ'=>aa σ σ'∧aM σ σ' 67 3 r (b.brks.map fC):=by
 refine e65.r (by simp [c65]) ?_;have h1:=hb.brk;have h2:=hb.len;refine ad.mix 3 ?_;apply sR;simp only [go_sem,seval,c65];refine ad.az rfl rfl rfl (qW b hb.h1 _) ?_;apply sR;simp only [go_sem,seval,bkE,FE];refine ad.call rfl rfl rfl (si func97 (e97.b.trans rfl) e97.c (b.brks.map fC) (by simp; omega) _) ?_;rintro r σ' ⟨hs,ho⟩;apply sR;simp only [go_sem,seval];exact ⟨_,_,aa.refl _,Wk.refl (aa.refl _) _,hs,ho⟩
def kD (b:Bk):V:=.agg [bt b.atoms,aK b.fls,vI b.height]
theorem Cx (b:Bk) (hb:BkFull b):aV prog 9 [.rp (bI b)] (kD b):=fun σ=>by
 refine e9.r (by simp [c9]) ?_;have hs:=aa.refl σ;have h2:=hb.len;have h3:=hb.flen;refine ad.mix 4 ?_;apply sR;simp only [go_sem,seval,c9];refine ae fun i2 σ2 s2 a2 f2=>?_;have z2:=hs.none f2;replace hs:=hs.trans s2;simp only [go_sem,seval];refine ad.az rfl rfl rfl (qW b hb.h1 _) ?_;apply sR;simp only [go_sem,seval,bkE];refine ae fun i3 σ3 s3 a3 f3=>?_;have n23:=ao a2 f3;replace a2:=s3 _ _ a2;have z3:=hs.none f3;replace hs:=hs.trans s3;simp only [go_sem,seval,a3,ax,aS,ay,aU];generalize hq3:upd _ i3 _=τ3;replace a3:=(congrFun hq3 i3).symm.trans ag;replace a2:=((congrFun hq3 i2).symm.trans (ab n23)).trans a2;replace hs:=Eq.subst (motive:=aa _) hq3 (hs.aD z3);clear hq3;refine Go.ct rfl rfl rfl (Ee b.atoms (by omega)) ?_;apply sG;simp only [go_sem,seval,a3];refine Go.ct rfl rfl rfl (xm b.fls (by omega)) ?_;apply sG;simp only [go_sem,seval,a3,a2,ax,aS,ay,aU,ab n23,ab n23];exact au.pure ((hs.aD z3).aD z2) rfl
theorem Dc (b:Bk) (hb:BkFull b):aV prog 10 [.rp (bI b)] (cI ⟨⟨0,0,true⟩,[]⟩):=fun σ=>by
 refine e10.r (by simp [c10]) ?_;have hs:=aa.refl σ;refine ad.mix 4 ?_;apply sR;simp only [go_sem,seval,c10];refine ae fun i2 σ2 s2 a2 f2=>?_;have z2:=hs.none f2;replace hs:=hs.trans s2;simp only [go_sem,seval];refine ad.az rfl rfl rfl (qW b hb.h1 _) ?_;apply sR;simp only [go_sem,seval,a2];refine ⟨_,σ,hs.aD z2,Wk.agg (vs':=[vI 0,vI 0, .bool true,aK []]) ⟨Wk.refl (hs.aD z2) _,Wk.refl (hs.aD z2) _,Wk.refl (hs.aD z2) _,Wk.aC 7,trivial⟩,rfl,rfl⟩
theorem nO (a:Flo):∀(p:List Flo) (i:Nat),jZ a p i = -1∨∃k:Nat,jZ a p i=((i+k:Nat):Int)∧k < p.length
 | [],_=>.inl rfl
 | q::r,i=>by
   rw [jZ];split
   ·exact .inr ⟨0,rfl,by simp⟩
   ·rcases nO a r (i+1) with h | ⟨k,h1,h2⟩
    ·exact .inl h
    ·exact .inr ⟨k+1,by rw [h1]; congr 1; omega,by simp; omega⟩
def kG (fls:List Flo):List Flo→Nat→Bool
 | [],_=>true
 | x::r,at'=>if jZ x (fls.drop at') 0 < 0 then false else kG fls r (at'+(jZ x (fls.drop at') 0).toNat+1)
def iC (b:Bk) (s:Sta):Prop:=kG b.fls s.bK 0=true∧(dp b.atoms s.s∨s.s.atom=b.atoms.length∧s.s.done=0)
instance (b:Bk) (s:Sta):Decidable (iC b s):=by unfold iC; infer_instance
theorem HQ (b:Bk) (hb:BkFull b) (s:Sta) (hp:s.bK.length≤1000000):aV prog 34 [.rp (bI b),cI s] (.bool (decide (iC b s))):=fun σ=>by
 refine e34.r (by simp [c34]) ?_;have hs:=aa.refl σ;have h2:=hb.len;have h3:=hb.flen;have hlp:=fB s.bK;have hla:=gT b.atoms;refine ad.mix 13 ?_;apply sR;simp only [go_sem,seval,c34,cI,aS,aU];refine ae fun i3 σ3 s3 a3 f3=>?_;have z3:=hs.none f3;replace hs:=hs.trans s3;simp only [go_sem,seval,a3,hlp];refine ad.loop (fun m st=>∃(j at':Nat),j≤s.bK.length∧m=s.bK.length - j∧at'≤b.fls.length∧kG b.fls s.bK 0=kG b.fls (s.bK.drop j) at'∧aa σ st.σ∧st.σ i3=some ⟨27,4,[.agg [vI s.s.atom,vI s.s.done, .bool s.s.free,aK s.bK]]⟩∧st.s 0=.rp (bI b)∧st.s 3=.ptr i3 0 0∧st.s 5=vI at'∧st.s 10=aK s.bK∧st.s 11=vI s.bK.length∧st.s 12=vI j) s.bK.length ?_ ?_
 ·exact ⟨0,0,by omega,rfl,by omega,rfl,hs,a3,rfl,rfl,rfl,rfl,rfl,rfl⟩
 ·clear hs a3;rintro m ⟨S,τ⟩ ⟨j,at',hj,rfl,hat,heq,hs,a3,t0,t3,t5,t10,t11,t12⟩;simp only at hs a3 t0 t3 t5 t10 t11 t12;refine ad.mix 13 ?_;by_cases hlt:j < s.bK.length
  ·have q:((j:Int) < s.bK.length)=True:=eq_true (by omega);have hidx:=fun σ=>iI (σ:=σ) hlt;have hfl:aO s.bK[j]=.agg [vI s.bK[j].node,vI s.bK[j].side,vI s.bK[j].anchor,vI s.bK[j].x,vI s.bK[j].y,vI s.bK[j].w,vI s.bK[j].h]:=rfl;have hd:s.bK.drop j=s.bK[j]::s.bK.drop (j+1):=List.drop_eq_getElem_cons hlt;rw [hd,kG] at heq;have hsl:=pq hat;generalize s.bK[j]=f at *;have hic:=DZ (b.fls.drop at') (by rw [List.length_drop]; omega) f;rw [hfl] at hic;have r1:inR .i64 ((j:Int)+1):=ak (by omega) (by omega);apply sR;simp only [go_sem,seval,t0,t3,t5,t10,t11,t12,q,hidx,hfl];refine ae fun i7 σ7 s7 a7 f7=>?_;have n37:=ao a3 f7;replace a3:=s7 _ _ a3;have z7:=hs.none f7;replace hs:=hs.trans s7;simp only [BB,seval,←decide_not,bp,eP,aE,cF,eA,ed,ez,dL,cb,j9,gl,bC,fF,dI,et,cH,bu,iq,dd,cE,bZ,eff,jU,cV,bR,jK,dV,cd,dD,cU,kO,binBV,bS,dg,V.cells,V.stays,a7,bkE,Bl,t0,t3,t5,t10,t11,t12,hsl];generalize hq7:upd _ i7 _=τ7;replace a7:=(congrFun hq7 i7).symm.trans ag;replace a3:=((congrFun hq7 i3).symm.trans (ab n37)).trans a3;replace hs:=Eq.subst (motive:=aa _) hq7 (hs.aD z7);clear hq7;refine Go.ct rfl rfl rfl hic ?_;have hln:(b.fls.drop at').length=b.fls.length - at':=List.length_drop;rcases nO f (b.fls.drop at') 0 with h | ⟨k,h,hk⟩
   ·rw [h] at heq ⊢;rw [if_pos (by omega)] at heq;have hf:decide (iC b s)=false:=decide_eq_false fun hm=>by rw [iC,heq] at hm; cases hm.1
    apply sG;simp only [go_sem,seval,t0,t3,t5,t10,t11,t12];rw [hf];exact au.pure hs rfl
   ·rw [h,Nat.zero_add] at heq ⊢;rw [if_neg (by omega),Int.toNat_natCast] at heq;have q1:((k:Int) < 0)=False:=eq_false (by omega);have r2:inR .i64 ((k:Int)+1):=ak (by omega) (by omega);have r3:inR .i64 ((at':Int)+(k+1)):=ak (by omega) (by omega);apply sG;simp only [go_sem,seval,t0,t3,t5,t10,t11,t12,q1,r1,r2,r3];refine ⟨_,?_,j+1,at'+k+1,by omega,rfl,by omega,heq,hs,a3,rfl,?_,rfl⟩
    ·omega
    ·show V.int _ _=V.int _ _;congr 1
  ·have q:((j:Int) < s.bK.length)=False:=eq_false (by omega);have hje:j=s.bK.length:=by omega
   rw [hje,List.drop_length,kG] at heq;have hmc:=pd b.atoms s.s;rw [bo] at hmc;apply sR;simp only [go_sem,seval,t0,t3,t5,t10,t11,t12,q,a3,bkE,fD];refine Go.ct rfl rfl rfl hmc ?_;have fin:∀v:Bool,decide (iC b s)=v→au (.bool v) τ fun r σ'=>r=.bool (decide (iC b s))∧σ'=σ:=fun v h=>by rw [h]; exact au.pure hs rfl
   by_cases hm:dp b.atoms s.s
   ·have f:=fin true (decide_eq_true ⟨heq, .inl hm⟩);rw [decide_eq_true hm];generalize decide (iC b s)=B at *;apply sG;simp only [go_sem,seval];exact f
   rw [decide_eq_false hm];by_cases ha:s.s.atom=b.atoms.length
   ·by_cases hd:s.s.done=0
    ·have f:=fin true (decide_eq_true ⟨heq, .inr ⟨ha,hd⟩⟩);generalize decide (iC b s)=B at *;have q1:(s.s.atom=(b.atoms.length:Int))=True:=eq_true ha;have q2:(s.s.done=0)=True:=eq_true hd;apply sG;simp only [go_sem,seval,t0,t3,a3,bkE,fD,hla,q1,q2];exact f
    ·have f:=fin false (decide_eq_false fun h=>by rcases h.2 with h | h; exact hm h; exact hd h.2)
     generalize decide (iC b s)=B at *;have q1:(s.s.atom=(b.atoms.length:Int))=True:=eq_true ha;have q2:(s.s.done=0)=False:=eq_false hd;apply sG;simp only [go_sem,seval,t0,t3,a3,bkE,fD,hla,q1,q2];exact f
   ·have f:=fin false (decide_eq_false fun h=>by rcases h.2 with h | h; exact hm h; exact ha h.1)
    generalize decide (iC b s)=B at *;have q1:(s.s.atom=(b.atoms.length:Int))=False:=eq_false ha;apply sG;simp only [go_sem,seval,t0,t3,a3,bkE,fD,hla,q1];exact f
def fM (b:Bk) (s:Sta):Prop:=¬iC b s∨s.s.atom=b.atoms.length∧s.s.free=false∧s.bK=[]
instance (b:Bk) (s:Sta):Decidable (fM b s):=by unfold fM; infer_instance
theorem BG (b:Bk) (hb:BkFull b) (s:Sta) (hp:s.bK.length≤1000000):aV prog 11 [.rp (bI b),cI s] (.bool (decide (fM b s))):=fun σ=>by
 refine e11.r (by simp [c11]) ?_;have hs:=aa.refl σ;have h2:=hb.len;have hlp:=fB s.bK;have hla:=gT b.atoms;have hmc:=HQ b hb s hp;rw [cI] at hmc;refine ad.mix 5 ?_;apply sR;simp only [go_sem,seval,c11,cI,aS,aU];refine ae fun i3 σ3 s3 a3 f3=>?_;have z3:=hs.none f3;replace hs:=hs.trans s3;simp only [go_sem,seval];refine ad.az rfl rfl rfl (qW b hb.h1 _) ?_;apply sR;simp only [go_sem,seval,a3];refine ad.az rfl rfl rfl (hmc _) ?_;have fin:∀v:Bool,decide (fM b s)=v→au (.bool v) σ3 fun r σ'=>r=.bool (decide (fM b s))∧σ'=σ:=fun v h=>by rw [h]; exact au.pure hs rfl
 by_cases hm:iC b s
 ·rw [decide_eq_true hm];by_cases ha:s.s.atom=b.atoms.length
  ·have q1:(s.s.atom=(b.atoms.length:Int))=True:=eq_true ha;by_cases hf:s.s.free=true
   ·have f:=fin false (decide_eq_false fun h=>by rcases h with h | h; exact h hm; rw [hf] at h; cases h.2.1)
    generalize decide (fM b s)=B at *;rw [hf] at a3;apply sR;simp only [go_sem,seval,a3,bkE,fD,hla,q1];exact f
   ·have hf':s.s.free=false:=by simpa using hf
    by_cases hn:s.bK=[]
    ·have f:=fin true (decide_eq_true (.inr ⟨ha,hf',hn⟩));generalize decide (fM b s)=B at *;have q2:((s.bK.length:Int)=0)=True:=eq_true (by rw [hn]; rfl);rw [hf'] at a3;apply sR;simp only [go_sem,seval,a3,bkE,fD,hla,q1,hlp,q2];exact f
    ·have f:=fin false (decide_eq_false fun h=>by rcases h with h | h; exact h hm; exact hn h.2.2)
     generalize decide (fM b s)=B at *;have q2:((s.bK.length:Int)=0)=False:=eq_false (by have:=List.length_pos_iff.2 hn; omega);rw [hf'] at a3;apply sR;simp only [go_sem,seval,a3,bkE,fD,hla,q1,hlp,q2];exact f
  ·have f:=fin false (decide_eq_false fun h=>by rcases h with h | h; exact h hm; exact ha h.1)
   generalize decide (fM b s)=B at *;have q1:(s.s.atom=(b.atoms.length:Int))=False:=eq_false ha;apply sR;simp only [go_sem,seval,a3,bkE,fD,hla,q1];exact f
 ·rw [decide_eq_false hm];have f:=fin true (decide_eq_true (.inl hm));generalize decide (fM b s)=B at *;apply sR;simp only [go_sem,seval];exact f
open Go.Proofs Go.Proofs.Tryz
structure Pag where
 (no kind:Int)
 (hs fs ls:List Frg)
def aQ (l:List Frg):V:=.sl 7 (l.map aX)
def bN (p:Pag):V:=.agg [vI p.no,vI p.kind,aQ p.hs,aQ p.fs,aQ p.ls]
theorem rb {s:Nat→V} {σ:af} {a1 a2:Bool} {n1 n2 d e t:Nat} {Post:V→af→Prop} :
 Ret [.cell a1 n1 (.t d), .cell a2 n2 (.t e), .tmp (.t t)] ⟨s,σ⟩ Post=dv (bO σ a1 n1 (s d)) fun v=>dv (bO σ a2 n2 (s e)) fun w=>au (.tup [v,w,s t]) σ Post:=by
 unfold Ret au mu;simp only [eh,fV,VX.ev];cases bO σ a1 n1 (s d) <;> cases bO σ a2 n2 (s e) <;> simp [dv]
theorem wx {body:Int}:∀(l:List Flo) (sh:Int),0≤sh→sh≤body→(∀f∈l,0≤f.h)→(cQ body l sh).1.length≤l.length∧(∀m∈(cQ body l sh).1,0≤m.y∧m.y≤body)∧0≤(cQ body l sh).2.2∧(cQ body l sh).2.2≤body
 | [],sh,h0,h1,_=>by simp [cQ]; omega
 | f::r,sh,h0,h1,hh=>by
   rw [cQ];have hf:=hh f (by simp);split
   ·simp; omega
   ·rename_i hc;obtain ⟨g1,g2,g3,g4⟩:=wx (body:=body) r (sh+min f.h body) (by omega) (by omega) (fun g hg=>hh g (by simp [hg]));refine ⟨by simp; omega,fun m hm=>?_,g3,g4⟩;rcases List.mem_cons.1 hm with rfl | hm
    ·simp only; omega
    ·exact g2 m hm
theorem Au {l:List Nd} {x:Kp} {a:Int} (h:1≤x.body):1≤(iy l x a).body:=by
 unfold iy;split
 ·exact h
 ·simp only; omega
theorem pn {l:List Nd} {L:List Int} {h:Int} (hh:1≤h):∀m,1≤(fP l L h m).body
 | 0=>hh
 | m+1=>Au (pn hh m)
theorem gN {b:Bk} (hb:BkFull b) (s:Stt) (h0:0≤s.atom):1≤(bB b s).body:=by
 have h1:=hb.h1;unfold bB;split
 ·exact h1
 ·rename_i he;have hl0:0 < b.atoms.length:=List.length_pos_iff.2 he;obtain ⟨k,hk⟩:∃k:Nat,min s.atom ((b.atoms.length:Int) - 1)=k:=⟨(min s.atom ((b.atoms.length:Int) - 1)).toNat,by omega⟩
  have hkl:k < b.atoms.length:=by omega
  have hn:=hb.nod _ (List.getElem_mem hkl);rw [hk,bj hkl];have hm:iB b.nodes b.h=true:=by simp [iB,hb.isb,hb.h1,hb.h2]
  unfold qL;rw [if_pos ⟨hm,hn⟩];exact pn h1 _
theorem oT {fls:List Flo}:∀(p:List Flo) (at':Nat),kG fls p at'=true→∀f∈p,f∈fls
 | [],_,_,f,hf=>by cases hf
 | x::r,at',h,f,hf=>by
   rw [kG] at h;split at h
   ·cases h
   ·rename_i hk;rcases List.mem_cons.1 hf with rfl | hf
    ·have key:∀(l:List Flo) (i:Nat),¬jZ f l i < 0→f∈l:=by
      intro l
      induction l with
      | nil=>intro i h; simp [jZ] at h
      | cons q l ih =>
        intro i h;rw [jZ] at h;split at h
        ·rename_i e; simp [e]
        ·exact List.mem_cons_of_mem _ (ih _ h)
     exact List.mem_of_mem_drop (key _ _ hk)
    ·exact oT r _ h f hf
def lx (x:Wx):Pag:=⟨0,x.kind,x.hs,x.fs,x.ls⟩
def cM (b:Bk) (s:Sta):Wx:={ (({ bH b s.s .aC with shift:=(cQ (bB b s.s).body s.bK 0).2.2 }:Wx).put (cQ (bB b s.s).body s.bK 0).1) with kind:=0 }
def oD (b:Bk) (s:Sta):Prop:=s.s.atom=b.atoms.length∨(cQ (bB b s.s).body s.bK 0).2.1≠[]∨(cQ (bB b s.s).body s.bK 0).2.2 > 0∧ie b.atoms s.s > (bB b s.s).body - (cQ (bB b s.s).body s.bK 0).2.2
instance (b:Bk) (s:Sta):Decidable (oD b s):=by unfold oD; infer_instance
def bE (b:Bk) (s:Sta):Pag×Sta :=
 if b.atoms=[]∧s.s.free=true then (lx (uI b (bH b s.s .aC)),j6 b (bH b s.s .aC))
 else if oD b s then (lx { cM b s with kind:=2 },⟨⟨s.s.atom,s.s.done,s.s.free && decide (s.s.atom < b.atoms.length)⟩,(cQ (bB b s.s).body s.bK 0).2.1⟩)
 else (lx (ek b (cM b s)),ee b (cM b s))
theorem qs (b:Bk) (x:Wx) (h:V):lx (ek b { x with heads:=h })=lx (ek b x)∧ee b { x with heads:=h }=ee b x:=by
 unfold ek ee;by_cases hc:eQ b.brks x.s.atom (dF b x)
 ·rw [if_pos (show eQ b.brks ({ x with heads:=h }:Wx).s.atom (dF b { x with heads:=h }) from hc),if_pos (show eQ b.brks ({ x with heads:=h }:Wx).s.atom (dF b { x with heads:=h }) from hc),if_pos hc,if_pos hc];exact ⟨rfl,rfl⟩
 ·rw [if_neg (show ¬eQ b.brks ({ x with heads:=h }:Wx).s.atom (dF b { x with heads:=h }) from hc),if_neg (show ¬eQ b.brks ({ x with heads:=h }:Wx).s.atom (dF b { x with heads:=h }) from hc),if_neg hc,if_neg hc];exact ⟨rfl,rfl⟩
theorem WxJ.aD {b:Bk} {K:af} {ix:Nat} {x:Wx} {σ:af} {vh vf vl:V} (h:WxJ b K ix x σ vh vf vl) {i:Nat} {o:Ob} (hi:K i=some o) (o':Ob):WxJ b (upd K i o') ix x (upd σ i o') vh vf vl:=by
 have hn:ix≠i:=fun e=>by have:=h.no; subst e; rw [this] at hi; cases hi
 have key:∀ {v rows},aM (bb K ix) σ 57 7 v rows→aM (bb (upd K i o') ix) (upd σ i o') 57 7 v rows:=fun hv=>by
  rcases hv with h | ⟨a,e,h3,h4⟩
  ·exact .inl h
  ·have hk:=(aF.1 h4).2;have ha:a≠i:=fun e=>by subst e; rw [hk] at hi; cases hi
   exact .inr ⟨a,e,(Vc.ab ha).trans h3,aF.2 ⟨(aF.1 h4).1,(Vc.ab ha).trans hk⟩⟩
 refine ⟨(Vc.ab hn).trans h.row,key h.oh,key h.of,key h.ol,h.hf,h.hl,h.fl,fun a q ha=>?_,(Vc.ab hn).trans h.no⟩;by_cases e:a=i
 ·subst e; rw [Vc.ag] at ha ⊢; exact ha
 ·rw [Vc.ab e] at ha ⊢; exact h.sub _ _ ha
theorem WxJ.ret {b:Bk} {K σ0:af} {ix:Nat} {x:Wx} {σ:af} {vh vf vl:V} (h:WxJ b K ix x σ vh vf vl) (h0:aa σ0 K) (S:V) (e:Int) :
 au (.tup [.agg [vI 0,vI x.kind,vh,vf,vl],S,vI e]) σ fun r σ'=>r=.tup [bN (lx x),S,vI e]∧σ'=σ0:=by
 have hs:=h0.trans h.sub;have hK:aa σ0 (bb K ix):=fun i o hh=>by
  rw [bb,if_neg (fun e=>by rw [e] at hh; have:=h0 _ _ hh; rw [h.no] at this; cases this)]; exact h0 _ _ hh
 exact ⟨_,σ0,hs,Wk.tup (vs':=[bN (lx x),S,vI e]) ⟨Wk.agg (vs':=[vI 0,vI x.kind,aQ x.hs,aQ x.fs,aQ x.ls]) ⟨Wk.refl hs _,Wk.refl hs _,h.oh.wk hK hs,h.of.wk hK hs,h.ol.wk hK hs,trivial⟩,Wk.refl hs _,Wk.refl hs _,trivial⟩,rfl,rfl⟩
theorem GC (b:Bk) (hb:BkFull b) (hfh:∀f∈b.fls,0≤f.h) (s:Sta) (hp:s.bK.length≤1000000) :
 aV prog 13 [.rp (bI b),cI s] (if fM b s then .tup [bN ⟨0,0,[],[],[]⟩,cI ⟨⟨0,0,false⟩,[]⟩,vI 4] else .tup [bN (bE b s).1,cI (bE b s).2,vI 0]):=fun σ=>by
 refine e13.r (by simp [c13]) ?_;have hs:=aa.refl σ;have h2:=hb.len;have hlp:=fB s.bK;have hla:=gT b.atoms;have hec:=BG b hb s hp;rw [cI] at hec;refine ad.mix 12 ?_;apply sR;simp only [go_sem,seval,c13,cI,aS,aU];refine ae fun i3 σ3 s3 a3 f3=>?_;have z3:=hs.none f3;replace hs:=hs.trans s3;simp only [go_sem,seval];refine ae fun i4 σ4 s4 a4 f4=>?_;have n34:=ao a3 f4;replace a3:=s4 _ _ a3;have z4:=hs.none f4;replace hs:=hs.trans s4;simp only [go_sem,seval];refine ae fun i5 σ5 s5 a5 f5=>?_;have n35:=ao a3 f5;replace a3:=s5 _ _ a3;have n45:=ao a4 f5;replace a4:=s5 _ _ a4;have z5:=hs.none f5;replace hs:=hs.trans s5;simp only [go_sem,seval,a3];refine ad.az rfl rfl rfl (hec _) ?_;by_cases hm:fM b s
 ·rw [if_pos hm,decide_eq_true hm];have n54:=n45.symm;apply sR;simp only [go_sem,seval,a4,a5,ab n45,ab n54,rb];have hs':=(hs.aD (o:=⟨43,5,[.agg [vI 0,vI 0, .aC, .aC, .aC]]⟩) z4).aD (o:=⟨27,4,[.agg [vI 0,vI 0, .bool false, .aC]]⟩) z5;exact ⟨_,σ,hs',Wk.tup (vs':=[bN ⟨0,0,[],[],[]⟩,cI ⟨⟨0,0,false⟩,[]⟩,vI 4]) ⟨Wk.agg (vs':=[vI 0,vI 0,aQ [],aQ [],aQ []]) ⟨Wk.refl hs' _,Wk.refl hs' _,Wk.aC 7,Wk.aC 7,Wk.aC 7,trivial⟩,Wk.agg (vs':=[vI 0,vI 0, .bool false,aK []]) ⟨Wk.refl hs' _,Wk.refl hs' _,Wk.refl hs' _,Wk.aC 7,trivial⟩,Wk.refl hs' _,trivial⟩,rfl,rfl⟩
 ·rw [if_neg hm,decide_eq_false hm];have hmay:iC b s:=Decidable.byContradiction fun h=>hm (.inl h);have hnot:¬(s.s.atom=b.atoms.length∧s.s.free=false∧s.bK=[]):=fun h=>hm (.inr h);have hat:0≤s.s.atom:=by rcases hmay.2 with h | h; exact h.1.1; omega
  have hph:∀f∈s.bK,0≤f.h:=fun f hf=>hfh f (oT _ _ hmay.1 f hf);have hro:=wu hb s.s;have hr1:=gN hb s.s hat;have hbc:=FH b hb s.s hat σ5;rw [bo] at hbc;apply sR;simp only [go_sem,seval,a3,bkE,fD];refine ad.call rfl rfl rfl hbc ?_;rintro r σ6 ⟨i1,vh,hv,rfl,hJ⟩;have c3:=hJ.sub _ _ a3;have xs:(bH b s.s hv).s=s.s:=rfl;have xb:(bH b s.s hv).body=(bB b s.s).body:=rfl;have xh:(bH b s.s hv).high=(bB b s.s).high:=rfl;have xl:(bH b s.s hv).ls=[]:=rfl;have xf:(bH b s.s hv).fs=[]:=rfl;have xk:(bH b s.s hv).kind=0:=rfl;have hs5:aa σ σ5:=hs;by_cases h0:b.atoms=[]∧s.s.free=true
  ·obtain ⟨h01,h02⟩:=h0;have q1:((b.atoms.length:Int)=0)=True:=eq_true (by rw [h01]; rfl);rw [bE,if_pos ⟨h01,h02⟩];have hlc:=Ga b hb.toBkOk (bH b s.s hv) (by rw [xl]; simp) (by rw [xh]; have:=hro.high; omega) hJ;have e1:lx (uI b (bH b s.s .aC))=lx (uI b (bH b s.s hv)):=rfl;have e2:j6 b (bH b s.s .aC)=j6 b (bH b s.s hv):=rfl;rw [e1,e2];generalize uI b (bH b s.s hv)=X at *;generalize j6 b (bH b s.s hv)=Z at *;rw [h02] at c3;apply sR;simp only [go_sem,seval,q1,hla,c3,bkE,fD];refine ad.call rfl rfl rfl hlc ?_;rintro r σ7 ⟨vl',rfl,hJ7⟩;have d5:=hJ7.sub _ _ a5;apply sR;simp only [go_sem,seval,d5,cI,aS,aU,cW];have hJ8:=hJ7.aD a5 ⟨27,4,[.agg [vI Z.s.atom,vI Z.s.done, .bool Z.s.free,aK Z.bK]]⟩;generalize hq8:upd σ7 i5 _=τ8 at *;have b1:=hJ8.row;rw [cN] at b1;have b5:=hJ8.sub _ _ ag;have b4:=hJ8.sub i4 _ ((ab n45).trans a4);obtain ⟨ch,sh⟩:=hJ8.oh.vc;obtain ⟨cf,sf⟩:=hJ8.of.vc;obtain ⟨cl,sl⟩:=hJ8.ol.vc;have n54:=n45.symm;refine ad.qK (by kernel_rfl) [0,1,2,3,4,5,6,7] [[],[0],[0,1],[0,1,2],[],[0,1,2,3],[0,1,2,3,4,5],[0,1,2,3,4,5,6]] [0,2,4,6,8,10,9,12,14] (by kernel_rfl) (by kernel_rfl) ?_;refine RE.seg (n:=0) [9,12,14] [0,2,4,6,8,10] [⟨(.some 36),(.mov (.t 8)),.none⟩,⟨(.some 37),(.nilCheck (.t 36)),.none⟩,⟨(.some 38),(.fldA .true 7 5 (.t 37)),.none⟩,⟨(.some 39),(.load .true 5 (.t 38)),.none⟩,⟨(.some 40),(.load .true 4 (.t 5)),.none⟩,⟨.none,(.store 5 (.t 4) (.t 39)),.none⟩] rfl rfl ?_;apply sG;simp only [go_sem,seval,b1,b4,b5,ch,sh,cf,sf,cl,sl,aS,aU,ab n54,ab n45];refine RE.chk rfl rfl rfl rfl rfl trivial (by simp only [go_sem,seval,b1,b4,b5,ab n54,ab n45]) ?_;refine RE.seg (n:=0) [] [12,14] [⟨.none,(.store 4 (.t 5) (.t 40)),.none⟩,⟨(.some 6),(.mov (.c (.int .i64 0))),.none⟩] rfl rfl ?_;apply sG;simp only [go_sem,seval,b1,b4,b5,ch,sh,cf,sf,cl,sl,aS,aU,ab n54,ab n45];apply sR;simp only [go_sem,seval,b1,b4,b5,rb,ab n54,ab n45];exact ((hJ8.aD ((ab n45).trans a4) _).aD ((ab n54).trans ag) _).ret (((hs5.aD z5).aD z4).aD z5) _ _
  ·have hpr:bE b s=if oD b s then (lx { cM b s with kind:=2 },⟨⟨s.s.atom,s.s.done,s.s.free && decide (s.s.atom < b.atoms.length)⟩,(cQ (bB b s.s).body s.bK 0).2.1⟩) else (lx (ek b (cM b s)),ee b (cM b s)):=by rw [bE,if_neg h0]
   have htc:=IX s.bK hp (bB b s.s).body hr1 (by have:=hro.body; omega) hph;obtain ⟨g1,g2,g3,g4⟩:=wx (body:=(bB b s.s).body) s.bK 0 (Int.le_refl _) (by omega) hph;have hlc:=GZ b.atoms hb.at' s.s (by
    rcases hmay.2 with h | h
    ·have:=uv hb.toBkOk h; omega
    ·omega)
   rw [bo] at hlc;have b1:=hJ.row;simp only [cN,bH] at b1;have hfw:=HP b hb.toBkOk;have hX:∀x:Wx,x=({ bH b s.s hv with shift:=(cQ (bB b s.s).body s.bK 0).2.2 }:Wx).put (cQ (bB b s.s).body s.bK 0).1→lx { x with kind:=2 }=lx { cM b s with kind:=2 }∧lx (ek b x)=lx (ek b (cM b s))∧ee b x=ee b (cM b s):=fun x hx=>by
    subst hx;exact ⟨rfl,(qs b (cM b s) hv).1,(qs b (cM b s) hv).2⟩
   have hp1:oD b s→bE b s=_:=fun h=>hpr.trans (if_pos h);have hp2:¬oD b s→bE b s=_:=fun h=>hpr.trans (if_neg h);clear hpr;unfold oD at hp1 hp2;generalize cM b s=TX at *;generalize cQ (bB b s.s).body s.bK 0=T at *;obtain ⟨put,left,sh'⟩:=T;simp only at htc g1 g2 g3 g4 hX hp1 hp2;have hll:=fB left;have hq:(((b.atoms.length:Int)=0)=True∧s.s.free=false)∨(((b.atoms.length:Int)=0)=False∧True):=by
    by_cases he:b.atoms=[]
    ·exact .inl ⟨eq_true (by rw [he]; rfl),by
      cases hfr:s.s.free
      ·rfl
      ·exact absurd ⟨he,hfr⟩ h0⟩
    ·exact .inr ⟨eq_false (by have:=List.length_pos_iff.2 he; omega),trivial⟩
   rcases hq with ⟨q,hf⟩ | ⟨q,hf⟩
   all_goals
    apply sR;simp only [go_sem,seval,q,hf,hla,c3,b1,bkE,fD];refine Go.ct rfl rfl rfl htc ?_;apply sG;simp only [go_sem,seval,b1];generalize hq7:upd σ6 i1 _=τ7;have hJ7:WxJ b σ5 i1 { bH b s.s hv with shift:=sh' } τ7 vh .aC .aC:=by
     rw [←hq7]; exact hJ.set _ rfl rfl rfl
    refine ad.call rfl rfl rfl (lU b put (by omega) { bH b s.s hv with shift:=sh' } (by simp [bH]) (fun f hf=>by
     have:=g2 f hf;have:=hro.high;have:=hro.body;exact ak (by show _≤f.y+(bB b s.s).high; omega) (by show f.y+(bB b s.s).high≤_; omega)) hJ7) ?_
    rintro - σ8 ⟨vl',hJ8⟩;obtain ⟨x1,x2,x3⟩:=hX _ rfl;have c3:=hJ8.sub _ _ a3;have d5:=hJ8.sub _ _ a5;have b1:=hJ8.row;have ys:(Wx.put { bH b s.s hv with shift:=sh' } put).s=s.s:=rfl;have yb:(Wx.put { bH b s.s hv with shift:=sh' } put).body=(bB b s.s).body:=rfl;have yh:(Wx.put { bH b s.s hv with shift:=sh' } put).high=(bB b s.s).high:=rfl;have yw:(Wx.put { bH b s.s hv with shift:=sh' } put).shift=sh':=rfl;have yf:(Wx.put { bH b s.s hv with shift:=sh' } put).fs.length≤1000000:=by simp [Wx.put,bH]
    have yl:(Wx.put { bH b s.s hv with shift:=sh' } put).ls.length≤1000000:=by simp [Wx.put,bH]; omega
    generalize Wx.put { bH b s.s hv with shift:=sh' } put=Y at *;rw [cN] at b1;have n15:i1≠i5:=fun e=>by have:=hJ8.no; rw [e,a5] at this; cases this
    have n51:=n15.symm;have n54:=n45.symm;have r1:inR .i64 ((bB b s.s).body - sh'):=ak (by omega) (by have:=hro.body; omega);rw [←yb] at r1 hp1 hp2;by_cases hfull:s.s.atom=b.atoms.length∨left≠[]∨sh' > 0∧ie b.atoms s.s > Y.body - sh'
    ·rw [hp1 hfull,←x1];have hw:((s.s.atom=(b.atoms.length:Int))=True∧True∧True∧True)∨((s.s.atom=(b.atoms.length:Int))=False∧((left.length:Int) > 0)=True∧True∧True) ∨
      ((s.s.atom=(b.atoms.length:Int))=False∧((left.length:Int) > 0)=False∧(sh' > 0)=True∧(ie b.atoms s.s > Y.body - sh')=True):=by
      by_cases hA:s.s.atom=b.atoms.length
      ·exact .inl ⟨eq_true hA,trivial,trivial,trivial⟩
      by_cases hB:left=[]
      ·obtain ⟨hC,hD⟩:=(hfull.resolve_left hA).resolve_left (fun h=>h hB);exact .inr (.inr ⟨eq_false hA,eq_false (by rw [hB]; simp),eq_true hC,eq_true hD⟩)
      ·exact .inr (.inl ⟨eq_false hA,eq_true (by have:=List.length_pos_iff.2 hB; omega),trivial,trivial⟩)
     obtain ⟨VAL,hV⟩:∃VAL:Bool,VAL=(s.s.free && decide (s.s.atom < b.atoms.length)):=⟨_,rfl⟩
     have n13:i3≠i1:=fun e=>by have:=hJ8.no; rw [←e,a3] at this; cases this
     cases hfr:s.s.free
     all_goals
      simp only [hfr,Bool.false_and,Bool.true_and] at hV;rw [hfr] at hlc;rcases hw with ⟨qA,qB,qC,qD⟩ | ⟨qA,qB,qC,qD⟩ | ⟨qA,qB,qC,qD⟩
      all_goals
       apply sR;simp only [go_sem,seval,c3,d5,b1,hla,hll,qA,qB,qC,bkE,fD,hfr,ab n15,ab n51,ab n13,ab n35,cW,aS,aU]
       try
        refine Go.ct rfl rfl rfl hlc ?_;apply sG;simp only [go_sem,seval,c3,d5,b1,r1,qD,hla,hll,bkE,fD,hfr,ab n15,ab n51,ab n13,ab n35,cW,aS,aU]
       generalize hq8:upd (upd σ8 i1 _) i5 _=τ8;have hJ8:WxJ b (upd σ5 i5 ⟨27,4,[.agg [vI s.s.atom,vI s.s.done, .bool VAL,aK left]]⟩) i1 { Y with kind:=2 } τ8 vh .aC vl':=by
        rw [←hq8,hV]; exact (hJ8.set { Y with kind:=2 } rfl rfl rfl).aD a5 _
       clear hq8;have b1:=hJ8.row;rw [cN] at b1;have b5:=hJ8.sub _ _ ag;rw [hV] at b5;have b4:=hJ8.sub i4 _ ((ab n45).trans a4);obtain ⟨ch,sh⟩:=hJ8.oh.vc;obtain ⟨cf,sf⟩:=hJ8.of.vc;obtain ⟨cl,sl⟩:=hJ8.ol.vc;refine ad.qK (by kernel_rfl) [0,1,2,3,4,5,6,7] [[],[0],[0,1],[0,1,2],[],[0,1,2,3],[0,1,2,3,4,5],[0,1,2,3,4,5,6]] [0,2,4,6,8,10,9,12,14] (by kernel_rfl) (by kernel_rfl) ?_;refine RE.seg (n:=0) [9,12,14] [0,2,4,6,8,10] [⟨(.some 110),(.mov (.t 8)),.none⟩,⟨(.some 111),(.nilCheck (.t 110)),.none⟩,⟨(.some 112),(.fldA .true 7 5 (.t 111)),.none⟩,⟨(.some 113),(.load .true 5 (.t 112)),.none⟩,⟨(.some 114),(.load .true 4 (.t 5)),.none⟩,⟨.none,(.store 5 (.t 4) (.t 113)),.none⟩] rfl rfl ?_;apply sG;simp only [go_sem,seval,b1,b4,b5,ch,sh,cf,sf,cl,sl,aS,aU,ab n54,ab n45];refine RE.chk rfl rfl rfl rfl rfl trivial (by simp only [go_sem,seval,b1,b4,b5,ab n54,ab n45]) ?_;refine RE.seg (n:=0) [] [12,14] [⟨.none,(.store 4 (.t 5) (.t 114)),.none⟩,⟨(.some 6),(.mov (.c (.int .i64 0))),.none⟩] rfl rfl ?_;apply sG;simp only [go_sem,seval,b1,b4,b5,ch,sh,cf,sf,cl,sl,aS,aU,ab n54,ab n45];apply sR;simp only [go_sem,seval,b1,b4,b5,rb,ab n54,ab n45];exact ((hJ8.aD ((ab n45).trans a4) _).aD ((ab n54).trans ag) _).ret (((hs5.aD z5).aD z4).aD z5) _ _
    ·rw [hp2 hfull,←x2,←x3];have hA:¬s.s.atom=b.atoms.length:=fun h=>hfull (.inl h);have hm':dp b.atoms s.s:=hmay.2.resolve_right fun h=>hA h.1;have hw:((s.s.atom=(b.atoms.length:Int))=False∧((left.length:Int) > 0)=False∧(sh' > 0)=False∧True)∨((s.s.atom=(b.atoms.length:Int))=False∧((left.length:Int) > 0)=False∧(sh' > 0)=True∧(ie b.atoms s.s > Y.body - sh')=False):=by
      have hB:left=[]:=Decidable.byContradiction fun h=>hfull (.inr (.inl h));have hB':((left.length:Int) > 0)=False:=eq_false (by rw [hB]; simp);by_cases hC:sh' > 0
      ·exact .inr ⟨eq_false hA,hB',eq_true hC,eq_false fun h=>hfull (.inr (.inr ⟨hC,h⟩))⟩
      ·exact .inl ⟨eq_false hA,hB',eq_false hC,trivial⟩
     have hwf:=hfw Y (by rw [ys]; exact hm') yf yl (by rw [yh]; have:=hro.high; omega) (by rw [yb]; have:=hro.body; omega) (by rw [yw]; have:=hro.body; omega) hJ8;generalize ek b Y=X at *;generalize ee b Y=Z at *;rcases hw with ⟨qA,qB,qC,qD⟩ | ⟨qA,qB,qC,qD⟩
     all_goals
      apply sR;simp only [go_sem,seval,c3,hla,qA,hll,qB,qC,bkE,fD]
      try
       refine Go.ct rfl rfl rfl hlc ?_;apply sG;simp only [go_sem,seval,b1,r1,qD]
      refine ad.call rfl rfl rfl hwf ?_;rintro - σ9 ⟨vf',vl'',rfl,hJ9⟩;have e5:=hJ9.sub _ _ a5;apply sR;simp only [go_sem,seval,e5,cI,aS,aU,cW];have hJ8:=hJ9.aD a5 ⟨27,4,[.agg [vI Z.s.atom,vI Z.s.done, .bool Z.s.free,aK Z.bK]]⟩;generalize hq8:upd σ9 i5 _=τ8 at *;have b1:=hJ8.row;rw [cN] at b1;have b5:=hJ8.sub _ _ ag;have b4:=hJ8.sub i4 _ ((ab n45).trans a4);obtain ⟨ch,sh⟩:=hJ8.oh.vc;obtain ⟨cf,sf⟩:=hJ8.of.vc;obtain ⟨cl,sl⟩:=hJ8.ol.vc;refine ad.qK (by kernel_rfl) [0,1,2,3,4,5,6,7] [[],[0],[0,1],[0,1,2],[],[0,1,2,3],[0,1,2,3,4,5],[0,1,2,3,4,5,6]] [0,2,4,6,8,10,9,12,14] (by kernel_rfl) (by kernel_rfl) ?_;refine RE.seg (n:=0) [9,12,14] [0,2,4,6,8,10] [⟨(.some 117),(.mov (.t 8)),.none⟩,⟨(.some 118),(.nilCheck (.t 117)),.none⟩,⟨(.some 119),(.fldA .true 7 5 (.t 118)),.none⟩,⟨(.some 120),(.load .true 5 (.t 119)),.none⟩,⟨(.some 121),(.load .true 4 (.t 5)),.none⟩,⟨.none,(.store 5 (.t 4) (.t 120)),.none⟩] rfl rfl ?_;apply sG;simp only [go_sem,seval,b1,b4,b5,ch,sh,cf,sf,cl,sl,aS,aU,ab n54,ab n45];refine RE.chk rfl rfl rfl rfl rfl trivial (by simp only [go_sem,seval,b1,b4,b5,ab n54,ab n45]) ?_;refine RE.seg (n:=0) [] [12,14] [⟨.none,(.store 4 (.t 5) (.t 121)),.none⟩,⟨(.some 6),(.mov (.c (.int .i64 0))),.none⟩] rfl rfl ?_;apply sG;simp only [go_sem,seval,b1,b4,b5,ch,sh,cf,sf,cl,sl,aS,aU,ab n54,ab n45];apply sR;simp only [go_sem,seval,b1,b4,b5,rb,ab n54,ab n45];exact ((hJ8.aD ((ab n45).trans a4) _).aD ((ab n54).trans ag) _).ret (((hs5.aD z5).aD z4).aD z5) _ _
def blk (cnt:Nat→Nat) (a n:Nat):List Int:=(List.range' a n).flatMap fun i=>List.replicate (cnt i) (i:Int)
theorem iV (cnt:Nat→Nat) (a:Nat):blk cnt a 0=[]:=rfl
theorem gv (cnt:Nat→Nat) (a n:Nat):blk cnt a (n+1)=List.replicate (cnt a) (a:Int)++blk cnt (a+1) n:=by
 simp [blk,List.range'_succ]
theorem l3 {f g:Nat→Nat}:∀(n a:Nat),(∀i,a≤i→i < a+n→f i=g i)→blk f a n=blk g a n
 | 0,_,_=>rfl
 | n+1,a,h=>by
   rw [gv,gv,h a (Nat.le_refl a) (by omega),l3 n (a+1) (fun i h1 h2=>h i (by omega) (by omega))]
theorem zm (cnt:Nat→Nat):∀(n a m:Nat),blk cnt a (n+m)=blk cnt a n++blk cnt (a+n) m
 | 0,a,m=>by simp [iV]
 | n+1,a,m=>by
   rw [show n+1+m=(n+m)+1 by omega,gv,gv,zm cnt n (a+1) m,List.append_assoc,show a+1+n=a+(n+1) by omega]
theorem Gl (f g:Nat→Nat) (a n m:Nat):blk f a n++blk g (a+n) m=blk (fun i=>if i < a+n then f i else g i) a (n+m):=by
 rw [zm];congr 1
 ·exact l3 n a fun i h1 h2=>by simp [h2]
 ·exact l3 m (a+n) fun i h1 h2=>by simp [show ¬i < a+n by omega]
structure AtI (C:Int) (x:Atm):Prop where
 y0:0≤x.y
 y1:x.y≤C
 h0:1≤x.h
 h1:x.h≤1099511627776
theorem AtI.mono {B C:Int} {x:Atm} (h:AtI B x) (hB:B≤C):AtI C x:=⟨h.y0,Int.le_trans h.y1 hB,h.h0,h.h1⟩
theorem kU (a:Nat) (h:Int):∀(L:List Ln) (s:WS),(gj a h s L).atoms=s.atoms++L.map (eB a h)
 | [],s=>by simp [gj]
 | x::L,s=>by
   have:=kU a h L (s.put (eB a h x));simp only [gj,List.foldl_cons] at this ⊢;rw [this];simp [WS.put]
theorem Hj (a:Nat) (h:Int) (L:List Ln):(L.map (eB a h)).map (·.node)=List.replicate L.length (a:Int):=by
 rw [List.map_map]
 induction L with
 | nil=>rfl
 | cons x L ih=>rw [List.map_cons,ih]; rfl
theorem CG {l:List Nd} {a e:Nat} (he:e≤l.length) (h:bT l a e=true) (hae:a < e) (hk:(ndA l a).kind≠1):szI l a≤1:=by
 have ha:a < l.length:=by omega
 rw [ij ha] at hk;rw [bT,dif_pos hae] at h;simp only [List.getElem?_eq_getElem ha] at h;split at h
 ·simp only [Ba,Bool.or_eq_true,decide_eq_true_eq] at h;have:=h.1.1.resolve_left hk;simp only [szI,List.getElem?_eq_getElem ha,Option.map_some,Option.getD_some];omega
 ·cases h
structure yq (l:List Nd) (s t:WS) (a e C:Nat):Prop where
 at':∀x∈t.atoms,AtI (1099511627776*(C:Int)) x
 nodes:∃cnt,t.atoms.map (·.node)=s.atoms.map (·.node)++blk cnt a (e - a)∧∀i,a≤i→i < e→okN (ndA l i) (cnt i)=true
theorem yq.join {l:List Nd} {s t u:WS} {a m e C D:Nat} (h1:a≤m) (h2:m≤e) (hA:yq l s t a m C) (hB:yq l t u m e D):yq l s u a e D:=by
 obtain ⟨_,f,hf,hfo⟩:=hA;obtain ⟨hat,g,hg,hgo⟩:=hB;refine ⟨hat,fun i=>if i < m then f i else g i,?_,fun i h3 h4=>?_⟩
 ·rw [hg,hf,List.append_assoc];congr 1;obtain ⟨n,rfl⟩:∃n,m=a+n:=⟨m - a,by omega⟩
  obtain ⟨k,rfl⟩:∃k,e=a+n+k:=⟨e - (a+n),by omega⟩
  rw [show a+n - a=n by omega,show a+n+k - (a+n)=k by omega,show a+n+k - a=n+k by omega,Gl]
 ·simp only;split
  ·exact hfo i h3 (by omega)
  ·exact hgo i (by omega) h4
theorem qX {l:List Nd} {rs:List Rm} (hD:DOk l rs):∀(k a e:Nat) (s:WS) (C:Nat),e - a≤k→a≤e→e≤l.length→bT l a e=true→fa s C→(∀x∈s.atoms,AtI (1099511627776*(C:Int)) x)→yq l s (de l rs k a e s) a e (C+cst l a e)
 | 0,a,e,s,C,hk,hae,_,_,h,hx=>by
   obtain rfl:a=e:=by omega
   refine ⟨fun x hx'=>(hx x hx').mono (by omega),fun _=>0,by simp [de,iV],fun i h1 h2=>by omega⟩
 | k+1,a,e,s,C,hk,hae,he,hr,h,hx=>by
   rw [de];by_cases hlt:a < e
   ·rw [if_pos hlt];obtain ⟨h1,h2⟩:=cJ he hr (Nat.le_refl a) hlt;obtain ⟨h3,h4⟩:=dC he hr hlt;have hno:NOk (ndA l a):=by rw [ij (by omega)]; exact fI hD.isb (by omega)
    have hc1:cst l a e=cst l a (a+(szI l a).toNat)+cst l (a+(szI l a).toNat) e:=j7 (by omega) (by omega) he;have hc2:cst l a (a+(szI l a).toNat)=4+(ndA l a).words.length+cst l (a+1) (a+(szI l a).toNat):=tD (by omega) (by omega);have step:∀t,fa t (C+cst l a (a+(szI l a).toNat))→yq l s t a (a+(szI l a).toNat) (C+cst l a (a+(szI l a).toNat))→yq l s (de l rs k (a+(szI l a).toNat) e t) a e (C+cst l a e):=fun t ht hA=>by
     rw [hc1,←Nat.add_assoc];exact hA.join (by omega) (by omega) (qX hD k _ e t _ (by omega) (by omega) he h3 ht hA.at')
    have one:∀(t:WS) (n:Nat),okN (ndA l a) n=true→(szI l a).toNat=1→t.atoms.map (·.node)=s.atoms.map (·.node)++List.replicate n (a:Int)→(∀x∈t.atoms,AtI (1099511627776*((C+cst l a (a+(szI l a).toNat):Nat):Int)) x)→yq l s t a (a+(szI l a).toNat) (C+cst l a (a+(szI l a).toNat)):=fun t n hn hs1 hm hat=>by
     refine ⟨hat,fun _=>n,?_,fun i h5 h6=>?_⟩
     ·rw [hm,hs1,show a+1 - a=1 by omega,gv,iV,List.append_nil]
     ·obtain rfl:i=a:=by omega
      exact hn
    obtain ⟨⟨hf,p1,p2,p3,p4⟩,p5,p6⟩:=h;have hI:fa s C:=⟨⟨hf,p1,p2,p3,p4⟩,p5,p6⟩
    by_cases k1:(ndA l a).kind=1
    ·rw [if_pos k1];have hI2:=fL hD k (a+1) (a+(szI l a).toNat) _ _ (by omega) (by omega) (by omega) h4 (eC hI hno.st);have hA2:=qX hD k (a+1) (a+(szI l a).toNat) (s.enter (ndA l a).st) (C+2) (by omega) (by omega) (by omega) h4 (eC hI hno.st) (fun x hx'=>(hx x hx').mono (by omega));refine step _ ((ja hI2 hno.st).more (by omega)) ?_;obtain ⟨hat,cnt,hc,hco⟩:=hA2;refine ⟨fun x hx'=>(hat x hx').mono (by omega),fun i=>if i=a then 0 else cnt i,?_,fun i h5 h6=>?_⟩
     ·have e1:(s.enter (ndA l a).st).atoms=s.atoms:=rfl;rw [e1] at hc;show (de l rs k (a+1) (a+(szI l a).toNat) (s.enter (ndA l a).st)).atoms.map (·.node)=_;rw [hc];congr 1;obtain ⟨m,hm⟩:∃m,(szI l a).toNat=m+1:=⟨(szI l a).toNat - 1,by omega⟩
      rw [hm,show a+(m+1) - (a+1)=m by omega,show a+(m+1) - a=m+1 by omega,gv];simp only [if_true,List.replicate_zero,List.nil_append];exact l3 m (a+1) fun i h5 h6=>by simp [show i≠a by omega]
     ·simp only;split
      ·rename_i e; subst e;simp [okN,k1]
      ·exact hco i (by omega) h6
    ·rw [if_neg k1];have hs1:(szI l a).toNat=1:=by
      have:=CG he hr hlt k1;omega
     by_cases k2:(ndA l a).kind=2
     ·rw [if_pos k2];refine step _ ((jX hI hno a).more (by omega)) ?_;have hl:=hno.line;obtain ⟨hw0,hl1⟩:=hno.text k2;have hLl:=iS s.floats (ndA l a).words (ndA l a).space (ndA l a).line (dR rs a) (ndA l a).words.length 0 (s.pen.y+s.pen.m);have hLb:=iD (ws:=(ndA l a).words) (space:=(ndA l a).space) (s:=dR rs a) (fun f hf'=>(hf f hf').yB) hl.1 (ndA l a).words.length 0 (s.pen.y+s.pen.m);have hLn:da s.floats (ndA l a).words (ndA l a).space (ndA l a).line (dR rs a) (ndA l a).words.length 0 (s.pen.y+s.pen.m)≠[]:=by
       obtain ⟨m,hm⟩:∃m,(ndA l a).words.length=m+1:=⟨(ndA l a).words.length - 1,by omega⟩
       rw [hm,da,if_pos (by omega)];simp
      have hte:(s.text rs a (ndA l a)).atoms=s.atoms++(da s.floats (ndA l a).words (ndA l a).space (ndA l a).line (dR rs a) (ndA l a).words.length 0 (s.pen.y+s.pen.m)).map (eB a (ndA l a).line):=kU a _ _ s;generalize da s.floats (ndA l a).words (ndA l a).space (ndA l a).line (dR rs a) (ndA l a).words.length 0 (s.pen.y+s.pen.m)=L at *;have hL0:=List.length_pos_iff.2 hLn;have hmul:(ndA l a).line*((ndA l a).words.length:Int)≤1099511627776*((ndA l a).words.length:Int):=Int.mul_le_mul_of_nonneg_right hl.2 (by omega);refine one _ L.length (by simp only [okN,k2,if_true,decide_eq_true_eq]; omega) hs1 (by rw [hte,List.map_append,Hj]) (fun x hx'=>?_);rw [hte] at hx';rcases List.mem_append.1 hx' with hx' | hx'
      ·exact (hx x hx').mono (by omega)
      ·obtain ⟨y,hy,rfl⟩:=List.mem_map.1 hx';have:=hLb y hy;refine ⟨?_,?_,hl1,hl.2⟩ <;> simp only [eB] <;> omega
     ·rw [if_neg k2];by_cases k3:(ndA l a).kind=3
      ·rw [if_pos k3];refine step _ ((kg hI hno a).more (by omega)) ?_;have hyr:=fm (w:=(ndA l a).w) (high:=(ndA l a).h) (y:=s.pen.y+s.pen.m) (s:=dR rs a) (fun f hf'=>(hf f hf').yB);have hbx:=hno.box (.inl k3);have hh:=hno.h;refine one _ 1 (by simp [okN,k3]) hs1 (by simp [WS.mono,WS.put]) (fun x hx'=>?_);simp only [WS.mono,WS.put] at hx';rcases List.mem_append.1 hx' with hx' | hx'
       ·exact (hx x hx').mono (by omega)
       ·simp only [List.mem_singleton] at hx';subst hx';refine ⟨?_,?_,?_,?_⟩ <;> simp only <;> omega
      ·rw [if_neg k3];have k4:(ndA l a).kind=4:=by rcases hno.kind with h | h | h | h; exact absurd h k1; exact absurd h k2; exact absurd h k3; exact h
       refine step _ ((jm hD hI (by omega) hno k4).more (by omega)) ?_;exact one _ 0 (by simp [okN,k4]) hs1 (by simp [WS.float]) (fun x hx'=>(hx x hx').mono (by omega))
   ·rw [if_neg hlt];obtain rfl:a=e:=by omega
    exact ⟨fun x hx'=>(hx x hx').mono (by omega),fun _=>0,by simp [iV],fun i h1 h2=>by omega⟩
theorem EJ (i:Int) (L:List Int) (h:∀x∈L,x≠i):∀k,tG i (List.replicate k i++L)=k
 | 0=>by
   cases L with
   | nil=>rfl
   | cons x L=>rw [List.replicate_zero,List.nil_append,tG,if_neg (h x (by simp))]
 | k+1=>by rw [List.replicate_succ,List.cons_append,tG,if_pos rfl,EJ i L h k]
theorem wo {cnt:Nat→Nat}:∀ {n a:Nat} {x:Int},x∈blk cnt a n→∃i:Nat,x=i∧a≤i∧i < a+n
 | 0,_,_,h=>by simp [iV] at h
 | n+1,a,x,h=>by
   rw [gv] at h;rcases List.mem_append.1 h with h | h
   ·exact ⟨a,(List.mem_replicate.1 h).2,by omega,by omega⟩
   ·obtain ⟨i,h1,h2,h3⟩:=wo h;exact ⟨i,h1,by omega,by omega⟩
theorem yZ {cnt:Nat→Nat} {of:List Int}:∀(r:List Nd) (i at':Nat),of.drop at'=blk cnt i r.length→at'≤of.length→(∀j (h:j < r.length),okN r[j] (cnt (i+j))=true)→wN of r i at'=true
 | [],i,at',h,hl,_=>by
   have:of.length≤at':=by
    have:=congrArg List.length h;simp [iV] at this; omega
   simp [wN]; omega
 | x::r,i,at',h,hl,ho=>by
   rw [List.length_cons,gv] at h;have ht:kv of at' i=cnt i:=by
    rw [kv,h];exact EJ _ _ (fun y hy=>by obtain ⟨j,h1,h2,_⟩:=wo hy; omega) _
   rw [wN,ht];have h0:=ho 0 (by simp);simp only [List.getElem_cons_zero,Nat.add_zero] at h0;rw [h0,Bool.true_and];have hd:of.drop (at'+cnt i)=blk cnt (i+1) r.length:=by
    rw [←List.drop_drop,h,List.drop_append_of_le_length (by simp)];simp
   refine yZ r (i+1) _ hd ?_ (fun j hj=>?_)
   ·have:=congrArg List.length h;simp at this; omega
   ·have:=ho (j+1) (by simpa using hj);simp only [List.getElem_cons_succ] at this
    rwa [show i+1+j=i+(j+1) by omega]
structure Lu (l:List Nd) (w:Int):Prop where
 may:px l ((cm l w).atoms.map (·.node))=true
 nod:∀a∈(cm l w).atoms,0≤a.node∧a.node < l.length
 at':∀x∈(cm l w).atoms,AtI (1099511627776*((cst l 0 l.length:Nat):Int)) x
 len:(cm l w).atoms.length≤cst l 0 l.length
 flen:(cm l w).floats.length≤cst l 0 l.length
 flo:∀f∈(cm l w).floats,FOk (1099511627776*((cst l 0 l.length:Nat):Int)) f
theorem vk {l:List Nd} (hb:isB l=true) (hn:l.length≤2000) {w:Int} (h1:1≤w) (h2:w≤1099511627776):Lu l w:=by
 have hD:=rE hb hn h1 h2;have hr:bT l 0 l.length=true:=by simp only [isB,Ba] at hb; exact hb.2
 have hI:fa ⟨[],[],0,⟨0,0⟩⟩ 0:=⟨⟨by simp,by simp,by simp,by simp,by simp⟩,by simp,by simp⟩
 have hA:=qX hD l.length 0 l.length ⟨[],[],0,⟨0,0⟩⟩ 0 (by omega) (by omega) (Nat.le_refl _) hr hI (by simp);have hJ:=fL hD l.length 0 l.length ⟨[],[],0,⟨0,0⟩⟩ 0 (by omega) (by omega) (Nat.le_refl _) hr hI;rw [Nat.zero_add] at hA hJ;have ha:(cm l w).atoms=(de l (gA l w) l.length 0 l.length ⟨[],[],0,⟨0,0⟩⟩).atoms:=rfl;have hf:(cm l w).floats=(de l (gA l w) l.length 0 l.length ⟨[],[],0,⟨0,0⟩⟩).floats.map (mJ (de l (gA l w) l.length 0 l.length ⟨[],[],0,⟨0,0⟩⟩).atoms.length):=rfl;obtain ⟨hat,cnt,hc,hco⟩:=hA;rw [List.map_nil,List.nil_append,Nat.sub_zero] at hc;refine ⟨?_,fun a hm=>?_,by rw [ha]; exact hat,by rw [ha]; exact hJ.at',by rw [hf,List.length_map]; exact hJ.fl,fun f hm=>?_⟩
 ·rw [ha,hc];refine yZ (cnt:=cnt) l 0 0 (by simpa using hc) (Nat.zero_le _) (fun j hj=>?_);have:=hco j (Nat.zero_le _) hj;rw [ij hj] at this
  rwa [Nat.zero_add]
 ·have hm':a.node∈blk cnt 0 l.length:=by rw [←hc,←ha]; exact List.mem_map_of_mem hm
  obtain ⟨i,e,_,hi⟩:=wo hm';omega
 ·rw [hf] at hm;obtain ⟨g,hg,rfl⟩:=List.mem_map.1 hm;have:=hJ.bd.fl g hg;exact ⟨this.1,this.2,this.3,this.4,this.5,this.6,this.7,this.8⟩
theorem tE:∀(l:List Nd),(∀x∈l,NOk x)→((l.map fun n=>4+n.words.length).sum:Nat)≤4*(l.length:Int)+jO l∧∀x∈l,(x.words.length:Int)≤jO l
 | [],_=>by simp [jO]
 | x::l,h=>by
   obtain ⟨h1,h2⟩:=tE l (fun y hy=>h y (by simp [hy]));have hx:=h x (by simp);have hp:(x.words.length:Int)≤pof x∧0≤pof x:=by
    unfold pof;by_cases k1:x.kind=1
    ·have:=hx.nowords (by omega); simp [k1,this]
    ·by_cases k2:x.kind=2
     ·simp [k2]
     ·have:=hx.nowords k2; simp [k1,k2,this]
   have hp0:0≤jO l:=by
    have:∀l:List Nd,0≤jO l:=by
     intro l
     induction l with
     | nil=>simp [jO]
     | cons y l ih =>
       have:0≤pof y:=by unfold pof; split; omega; split; omega; omega
       simp only [jO]; omega
    exact this l
   refine ⟨by simp only [List.map_cons,List.sum_cons,List.length_cons,jO]; omega,fun y hy=>?_⟩;rcases List.mem_cons.1 hy with rfl | hy
   ·simp only [jO]; omega
   ·have:=h2 y hy; simp only [jO]; omega
structure Mf (l:List Nd):Prop where
 isb:isB l=true
 len:l.length≤2000
 words:∀x∈l,x.words.length≤2000
 cst:cst l 0 l.length≤10000
theorem rG {l:List Nd} (h:gy l=0):Mf l:=by
 unfold gy at h;split at h
 ·rename_i hb;split at h
  ·cases h
  ·rename_i hc;have hall:l.all Nd.ok=true:=by simp only [isB,Ba] at hb; exact hb.1
   rw [gX,if_pos hb,sX l hall l.length (Nat.le_refl _),List.take_length] at hc;simp only [not_or] at hc;obtain ⟨h1,h2⟩:=tE l (fun x hx=>by obtain ⟨i,hi,rfl⟩:=List.getElem_of_mem hx; exact fI hb hi);refine ⟨hb,by omega,fun x hx=>by have:=h2 x hx; omega,?_⟩;have:Vc.cst l 0 l.length=(l.map fun n=>4+n.words.length).sum:=by unfold Vc.cst; rw [List.take_length,List.drop_zero]
   omega
 ·cases h
open Go.Proofs Go.Proofs.Tryz
theorem ad.Gm {P:Program} {n:Nat} {Q:St→Prop} {s:Nat→V} {σ K:af} {todo:List It} (l ds:List Nat) {e sz:Nat} {v:V} {rows:List V} (hK:aa K σ) (ho:aM K σ e sz v rows)
 (hs:∀d∈ds,s d=v) (hr:ad P n todo ⟨fun i=>if ds.contains i then .sl sz rows else A2 l s i,K⟩ Q):ad P n todo ⟨s,σ⟩ Q:=by
 refine ad.weaken ⟨hK,fun i=>?_⟩ hr;show Wk σ K (s i) _;by_cases hi:ds.contains i=true
 ·simp only [if_pos hi];rw [hs i (by simpa using hi)];exact ho.wk (aa.refl K) hK
 ·simp only [if_neg hi];unfold A2;split
  ·exact Wk.refl hK _
  ·exact Wk.undef _
def ofR (l:List Nd) (w:Int):List Int:=(cm l w).atoms.map (·.node)
def cz (l:List Nd) (w h:Int):Bk:=⟨l,w,h,(cm l w).atoms,(cm l w).floats,(cm l w).height,qG l (ofR l w)⟩
def xJ (n:Int):Prop:=1≤n∧n≤1099511627776
instance (n:Int):Decidable (xJ n):=by unfold xJ; infer_instance
def gu (l:List Nd) (w h:Int):Int:=if ¬(xJ w∧xJ h) then 3 else if gy l≠0 then gy l else if (gX l).1.heights > mulR (gx l h) 32768 then 2 else 0
def Cu (l:List Nd) (w h:Int):V:=if gu l w h=0 then .rp (bI (cz l w h)) else .nilp
theorem fi.DT {K σ:af} {id:Nat} {o:Ob} (hK:K id≠none):∀ {l:List Nd} {rows:List V},fi K σ l rows→fi K (upd σ id o) l rows
 | [],[],_=>trivial
 | _::_,_::_,⟨⟨w,h1,h2⟩,h⟩=>⟨⟨w,h1,h2.ab hK⟩,fi.DT hK h⟩
 | [],_::_,h=>h.elim
 | _::_,[],h=>h.elim
theorem zC.DT {K σ:af} {id:Nat} {o:Ob} (hK:K id≠none) {v:V} {l:List Nd} (h:zC K σ v l):zC K (upd σ id o) v l:=by
 obtain ⟨rows,ho,hr⟩:=h;exact ⟨rows,ho.ab hK,hr.DT hK⟩
theorem lz {α:Type} {f:α→V} (h:∀a,(f a).dX=true):∀l:List α,fH (l.map f)=true
 | []=>rfl
 | a::l=>by simp only [List.map_cons,fH,h a,lz h l,Bool.and_self]
theorem Nc (l:List Int) (σ:af):bO σ false 1 (.rp (bh l))=some (bh l):=rfl
def sI (vn:V) (w h:Int) (va vf:V) (ht:Int) (vb:V):Ob:=⟨88,7,[.agg [vn,vI w,vI h,va,vf,vI ht,vb]]⟩
theorem D9 {σ τ:af} {ib:Nat} {b:Bk} {vn:V} (hs:aa σ τ) (z:σ ib=none) (hr:τ ib=some (sI vn b.w b.h (bt b.atoms) (aK b.fls) b.height (bM b.brks))) (ho:zC (bb σ ib) τ vn b.nodes) :
 au (.tup [.ptr ib 0 0,vI 0]) τ fun r σ'=>r=.tup [.rp (bI b),vI 0]∧σ'=σ:=by
 have hN:∀id,bb σ ib id=none→σ id=none:=fun id h=>(aF.1 h).2;have n1:fH [bt b.atoms,aK b.fls,vI b.height,bM b.brks]=true:=by
  have a1:(bt b.atoms).dX=true:=lz (f:=db) (fun _=>rfl) b.atoms;have a2:(aK b.fls).dX=true:=lz (f:=aO) (fun _=>rfl) b.fls;have a3:(bM b.brks).dX=true:=lz (f:=fC) (fun _=>rfl) b.brks;simp only [fH,a1,a2,a3]; rfl
 have hf:Fz τ (fun id=>σ id=none) (.tup [.ptr ib 0 0,vI 0]) (.tup [.rp (bI b),vI 0]):=by
  refine .tup _ _ (.cons _ _ _ _ (.ptr ib 0 _ _ _ hr z rfl (.agg _ _ ?_)) (FzL.same [vI 0] rfl));exact .cons _ _ _ _ (ho.fz hN) (.cons _ _ _ _ (.same _ rfl) (.cons _ _ _ _ (.same _ rfl) (FzL.same _ n1)))
 exact ⟨_,σ,hs,hf.wk hs (fun _ h=>h),rfl,rfl⟩
theorem LZ (l:List Nd) (hl:dJ l) (w h:Int):aV prog 8 [aJ l,vI w,vI h] (.tup [Cu l w h,vI (gu l w h)]):=fun σ=>by
 refine e8.r (by simp [c8]) ?_;have hs:=aa.refl σ;have bad:∀n:Int,gu l w h=n→n≠0→(Cu l w h=.nilp∧gu l w h=n):=fun n hn h0=>⟨by rw [Cu,if_neg (by rw [hn]; exact h0)],hn⟩
 refine ad.mix 16 ?_;by_cases hw:xJ w
 ·have mw:=pk w;rw [show decide (1≤w∧w≤1099511627776)=true from decide_eq_true hw] at mw;apply sR;simp only [go_sem,seval,c8];refine ad.az rfl rfl rfl (mw _) ?_;apply sR;simp only [go_sem,seval];by_cases hh:xJ h
  ·have mh:=pk h;rw [show decide (1≤h∧h≤1099511627776)=true from decide_eq_true hh] at mh;refine ad.az rfl rfl rfl (mh _) ?_;apply sR;simp only [go_sem,seval];refine ad.az rfl rfl rfl (tk l hl _) ?_;by_cases hc:gy l=0
   ·have q:(gy l≠0)=False:=eq_false (fun h=>h hc);have hck:=tk l hl;rw [hc] at hck q ⊢;apply sR;simp only [go_sem,seval,q];refine ad.az rfl rfl rfl (yR l hl _) ?_;apply sR;simp only [go_sem,seval,Sm.cells];refine ae fun i9 σ9 s9 a9 f9=>?_;have z9:=hs.none f9;replace hs:=hs.trans s9;simp only [go_sem,seval,a9];generalize hq9:upd _ i9 _=τ9;replace a9:=(congrFun hq9 i9).symm.trans ag;replace hs:=Eq.subst (motive:=aa _) hq9 (hs.aD z9);clear hq9;refine Go.ct rfl rfl rfl (F0 l hl h) ?_;apply sG;simp only [go_sem,seval];refine Go.ct rfl rfl rfl (Ly (gx l h) 32768) ?_;have hE:gu l w h=if (gX l).1.heights > mulR (gx l h) 32768 then 2 else 0:=by rw [gu,if_neg (fun h=>h ⟨hw,hh⟩),if_neg (fun h=>h hc)]
    by_cases hlim:(gX l).1.heights > mulR (gx l h) 32768
    ·have q1:((gX l).1.heights > mulR (gx l h) 32768)=True:=eq_true hlim;obtain ⟨e1,e2⟩:=bad 2 (by rw [hE,if_pos hlim]) (by decide);rw [e1,e2];apply sG;simp only [go_sem,seval,a9,q1];exact au.pure hs rfl
    have q1:((gX l).1.heights > mulR (gx l h) 32768)=False:=eq_false hlim;have e2:gu l w h=0:=by rw [hE,if_neg hlim]
    have e1:Cu l w h=.rp (bI (cz l w h)):=by rw [Cu,if_pos e2]
    rw [e1,e2];obtain ⟨hisb,hn2,hwo,hcs⟩:=rG hc;have hG:=vk hisb hn2 hw.1 hw.2;have hfl:=Eh l hl hisb hn2 (fun x hx=>by have:=hwo x hx; omega) (by omega) hck w hw.1 hw.2;apply sG;simp only [go_sem,seval,a9,q1];refine ad.call rfl rfl rfl (Hx l hl.1 _) ?_;rintro vn σ10 ⟨hs10,ho10⟩;replace ho10:=ho10.LP hs;replace hs:=hs.trans hs10;obtain ⟨cn,sn⟩:=ho10.vc;have hnl:=ho10.len;rw [List.length_map] at hnl;apply sR;simp only [go_sem,seval,cn,sn];refine ae fun i46 σ46 s46 a46 f46=>?_;have z46:=hs.none f46;replace hs:=hs.trans s46;have ho46:aM (bb σ i46) σ46 73 20 vn (l.map gP):=by
     rcases ho10 with h | ⟨id,h3,h4,h5⟩
     ·exact .inl h
     ·exact .inr ⟨id,h3,s46 _ _ h4,aF.2 ⟨fun e=>(by rw [e,f46] at h4; cases h4),h5⟩⟩
    have k46:bb σ i46 i46≠none:=fun h=>(aF.1 h).1 rfl;simp only [go_sem,seval,a46,hnl];refine ad.eD (fun st=>aa σ st.σ∧zC (bb σ i46) st.σ vn l∧st.σ i46=some (sI vn w h .aC .aC 0 .aC)∧st.s 0=aJ l∧st.s 1=vI w∧st.s 11=.ptr i46 0 0)
     (fun m st=>∃(i:Nat) (rows:List V),i≤l.length∧m=l.length - i∧aa σ st.σ∧aM (bb σ i46) st.σ 73 20 vn rows∧rows.length=l.length∧fi (bb σ i46) st.σ (l.take i) (rows.take i)∧rows.drop i=(l.drop i).map gP∧st.σ i46=some (sI vn w h .aC .aC 0 .aC) ∧
       st.s 0=aJ l∧st.s 1=vI w∧st.s 11=.ptr i46 0 0∧st.s 51=vI l.length∧st.s 52=vI i) l.length ?_ ?_ ?_
    ·exact ⟨0,l.map gP,by omega,rfl,hs,ho46,by simp,trivial,by simp,a46,rfl,rfl,rfl,rfl,rfl⟩
    ·clear hs ho46 a46 ho10 a9;rintro m ⟨S,τ⟩ ⟨i,rows,hi,rfl,hs,ho,hn,hr,hd,hb,t0,t1,t11,t51,t52⟩;simp only at hs ho hr hb t0 t1 t11 t51 t52;refine ad.mix 60 ?_;by_cases hlt:i < l.length
     ·have q:((i:Int) < l.length)=True:=eq_true (by omega);obtain ⟨id,rfl,hid,hkid⟩:∃id,vn=.own id 0 rows.length∧τ id=some ⟨73,20,rows⟩∧bb σ i46 id=none:=by
       rcases ho with ⟨_,h0⟩ | h
       ·rw [h0] at hn; simp at hn; omega
       ·exact h
      have hdc:(l.drop i)=l[i]::l.drop (i+1):=List.drop_eq_getElem_cons hlt;have hw':=hwo _ (List.getElem_mem hlt);have htk:l.take (i+1)=l.take i++[l[i]]:=List.take_succ_eq_append_getElem hlt;have hnd:=fun σ=>iH l hlt σ;generalize hxe:l[i]=x at *;have hrow':rows[i]?=some (.agg x.cells):=by
       have:(rows.drop i)[0]?=some (gP x):=by rw [hd,hdc]; rfl
       rw [List.getElem?_drop] at this;exact this
      have hne:id≠i46:=(aF.1 hkid).1;have hio:∀τ':af,τ' id=some ⟨73,20,rows⟩→bF τ' 20 (.own id 0 rows.length) (.int .i64 i)=some (.ptr id i 0):=fun τ' h=>jB h (by omega);have r1:inR .i64 ((i:Int)+1):=ak (by omega) (by omega);rw [sI] at hb;apply sR;simp only [go_sem,seval,t0,t1,t11,t51,t52,q,cW];refine ad.qK (by kernel_rfl) [0,1,2,3,4,5,6,7,8,9,10,11,12,13] [[],[0],[0,1],[0,1,2],[],[],[],[5,6],[5,6,7],[5,6,7,8],[5,6,7,8,9],[0,1,2,3,4,5,6,7,8,9,10],[0,1,2,3,4,5,6,7,8,9,10,11],[0,1,2,3,4,5,6,7,8,9,10,11,12]] [0,2,4,6,8,10,12,14,16,18,20,7,22,24,26] (by kernel_rfl) (by kernel_rfl) ?_;refine RE.seg (n:=0) [20,7,22,24,26] [0,2,4,6,8,10,12,14,16,18] [⟨(.some 55),(.mov (.t 11)),.none⟩,⟨(.some 56),(.nilCheck (.t 55)),.none⟩,⟨(.some 57),(.fldA .false 0 1 (.t 56)),.none⟩,⟨(.some 58),(.load .false 1 (.t 57)),.none⟩,⟨(.some 59),(.mov (.t 12)),.none⟩,⟨(.some 60),(.mov (.t 0)),.none⟩,⟨(.some 61),(.mov (.t 12)),.none⟩,⟨(.some 62),(.idxA 20 (.t 60) (.t 61)),.none⟩,⟨(.some 63),(.fldA .false 16 1 (.t 62)),.none⟩,⟨(.some 64),(.load .false 1 (.t 63)),.none⟩] rfl rfl ?_;apply sG;simp only [go_sem,seval,t0,t11,hb,hnd,Nd.cells,Nc];refine RE.call rfl rfl rfl rfl rfl (EV x.words (by omega) _) ?_;rintro wv σ2 ⟨hs2,hw2⟩;simp only at hs2 hw2;have hid2:=hs2 _ _ hid;have hb2:=hs2 _ _ hb;obtain ⟨cw,sw⟩:=hw2.vc;have hio2:=hio _ hid2;refine RE.chk rfl rfl rfl rfl rfl trivial (by simp only [go_sem,seval,t0,t11,hb2]) ?_;refine RE.seg (n:=0) [] [22,24,26] [⟨(.some 66),(.idxA 20 (.t 58) (.t 59)),.none⟩,⟨(.some 67),(.fldA .false 16 1 (.t 66)),.none⟩,⟨.none,(.store 1 (.t 67) (.t 65)),.none⟩] rfl rfl ?_;apply sG;simp only [go_sem,seval,t0,t11,hb2,hio2,hid2,hrow',Nd.cells,cw,sw];have hk46:bb σ i46 id=none:=hkid;have hsf:aa σ (upd σ2 id ⟨73,20,rows.set i (ndW x wv)⟩):=(hs.trans hs2).aD (aF.1 hkid).2;have hk2:∀j,j≠id→∀o,σ2 j=some o→upd σ2 id ⟨73,20,rows.set i (ndW x wv)⟩ j=some o:=fun j hj o hjo=>by rw [ab hj]; exact hjo
      have h1:=(hr.mono hs2).kept hid2 hk2;have hkl:aa (bb σ i46) (bb τ i46):=fun j o hj=>by
       unfold bb at hj ⊢;split
       ·rename_i e; rw [if_pos e] at hj; exact hj
       ·rename_i e; rw [if_neg e] at hj; exact hs _ _ hj
      have h2:aM (bb σ i46) (upd σ2 id ⟨73,20,rows.set i (ndW x wv)⟩) 3 1 wv (x.words.map vI):=by
       rcases hw2 with h | ⟨iw,e1,e2,e3⟩
       ·exact .inl h
       ·have n1:iw≠id:=fun e=>by rw [e,hid2] at e2; simp at e2
        refine .inr ⟨iw,e1,by rw [ab n1]; exact e2,aF.2 ⟨fun e=>(by rw [e,hb] at e3; cases e3),hs.none e3⟩⟩
      have h3:(rows.set i (ndW x wv)).take (i+1)=rows.take i++[ndW x wv]:=by
       rw [List.take_succ_eq_append_getElem (by simp; omega),List.take_set_of_le (by omega)];simp
      apply sR;simp only [go_sem,seval,t0,t1,t11,t51,t52,r1];refine ⟨_,?_,i+1,rows.set i (ndW x wv),by omega,rfl,hsf, .inr ⟨id,by rw [List.length_set],ag,hkid⟩,by simp [hn],?_,?_,?_,rfl⟩
      ·omega
      ·rw [h3,htk];exact h1.app ⟨⟨wv,rfl,h2⟩,trivial⟩
      ·rw [List.drop_set_of_lt (by omega)];have:rows.drop (i+1)=(rows.drop i).drop 1:=by simp
       rw [this,hd,hdc];rfl
      ·exact (ab hne.symm).trans hb2
     ·have q:((i:Int) < l.length)=False:=eq_false (by omega);have hie:i=l.length:=by omega
      subst hie;rw [List.take_length,List.take_of_length_le (by omega)] at hr;apply sR;simp only [go_sem,seval,t0,t1,t11,t51,t52,q];exact ⟨hs,⟨rows,ho,hr⟩,hb⟩
    ·clear hs ho46 a46 ho10 a9;rintro ⟨S,τ⟩ ⟨hs,how,hb,t0,t1,t11⟩;simp only at hs how hb t0 t1 t11;have hla:=gT (cm l w).atoms;have hal:=hG.len;have hbr:=KS l hl hisb (ofR l w) (by rw [ofR,List.length_map]; omega) (fun x hx=>by
      obtain ⟨a,ha,rfl⟩:=List.mem_map.1 hx;exact hG.nod a ha) hG.may
     have hofe:ofR l w=(cm l w).atoms.map (·.node):=rfl;rw [sI] at hb;rw [Ei] at hfl;refine ad.mix 16 ?_;apply sR;simp only [go_sem,seval,t0,t1,t11];refine ad.az rfl rfl rfl (hfl _) ?_;apply sR;simp only [go_sem,seval,t11,hb,hla,ax,ay,aS,aU];generalize hq:upd τ i46 _=τ0;have hb0:τ0 i46=some (sI vn w h (bt (cm l w).atoms) (aK (cm l w).floats) (cm l w).height .aC):=by rw [←hq]; exact ag
     have hs0:aa σ τ0:=hq ▸ hs.aD z46;have how0:zC (bb σ i46) τ0 vn l:=hq ▸ how.DT k46;clear hq hs how hb;refine ad.eD (fun st=>aa τ0 st.σ∧aM τ0 st.σ 3 1 (st.s 13) ((ofR l w).map vI)∧st.s 0=aJ l∧st.s 11=.ptr i46 0 0)
      (fun m st=>∃j:Nat,j≤(cm l w).atoms.length∧m=(cm l w).atoms.length - j∧aa τ0 st.σ∧aM τ0 st.σ 3 1 (st.s 13) ((((cm l w).atoms.take j).map (·.node)).map vI)∧st.s 0=aJ l∧st.s 11=.ptr i46 0 0∧st.s 82=bt (cm l w).atoms∧st.s 83=vI (cm l w).atoms.length∧st.s 84=vI j) (cm l w).atoms.length ?_ ?_ ?_
     ·exact ⟨0,by omega,rfl,aa.refl _,aM.start,t0,t11,rfl,rfl,rfl⟩
     ·clear t0 t1 t11;rintro m ⟨S,τ⟩ ⟨j,hj,rfl,hsj,ho,t0,t11,t82,t83,t84⟩;simp only at hsj ho t0 t11 t82 t83 t84;generalize hv13:S 13=v13 at ho;refine ad.mix 85 ?_;by_cases hlt:j < (cm l w).atoms.length
      ·have q:((j:Int) < (cm l w).atoms.length)=True:=eq_true (by omega);have hidx:=fun σ=>gQ (σ:=σ) hlt;have hrows:(((cm l w).atoms.take (j+1)).map (·.node)).map vI=(((cm l w).atoms.take j).map (·.node)).map vI++[vI (cm l w).atoms[j].node]:=by
        rw [List.take_succ_eq_append_getElem hlt,List.map_append,List.map_append]; rfl
       have hlm:((((cm l w).atoms.take j).map (·.node)).map vI).length=j:=by rw [List.length_map,List.length_map,List.length_take]; omega
       have hat:db (cm l w).atoms[j]=.agg [vI (cm l w).atoms[j].kind,vI (cm l w).atoms[j].node,vI (cm l w).atoms[j].fr,vI (cm l w).atoms[j].to,vI (cm l w).atoms[j].x,vI (cm l w).atoms[j].y,vI (cm l w).atoms[j].w,vI (cm l w).atoms[j].h]:=rfl;generalize (((cm l w).atoms.take j).map (·.node)).map vI=rows at *;generalize (cm l w).atoms[j]=x at *;have r1:inR .i64 ((j:Int)+1):=ak (by omega) (by omega);have hs:=aa.refl τ;apply sR;simp only [go_sem,seval,t0,t11,t82,t83,t84,hv13,q,hidx,hat];refine ae fun i15 σ15 s15 a15 f15=>?_;have z15:=hs.none f15;replace hs:=hs.trans s15;simp only [go_sem,seval,a15,t0,t11,t82,t83,t84,hv13];generalize hq15:upd _ i15 _=τ15;replace a15:=(congrFun hq15 i15).symm.trans ag;replace hs:=Eq.subst (motive:=aa _) hq15 (hs.aD z15);clear hq15;refine ae fun i91 σ91 s91 a91 f91=>?_;obtain ⟨idA,hda,hdel⟩:=ho.dst (hs.trans s91);have hb2:(rows.length+1)*9≤140737488355328:=by omega
       simp only [go_sem,seval,hda,di a91,hb2];refine er fun i92 σ92 s92 a92 f92=>?_;have k92:=(hdel τ0 (aa.refl _) σ91 (hsj.trans (hs.trans s91))).trans s92;have n92:τ0 i92=none:=(hsj.trans (hs.trans s91)).none f92;simp only [go_sem,seval,t0,t11,t82,t83,t84,r1];refine ⟨_,?_,j+1,by omega,rfl,k92,?_,rfl⟩
       ·omega
       ·rw [hrows];exact aM.new (by simp) a92 n92
      ·have q:((j:Int) < (cm l w).atoms.length)=False:=eq_false (by omega);have hje:j=(cm l w).atoms.length:=by omega
       rw [hje,List.take_length,←hofe] at ho;apply sR;simp only [go_sem,seval,t0,t11,t82,t83,t84,hv13,q];exact ⟨hsj,ho⟩
     ·clear t0 t1 t11;rintro ⟨S,τ⟩ ⟨hsj,ho,t0,t11⟩;simp only at hsj ho t0 t11;refine ad.Gm [0,11] [13] hsj ho (by simp) ?_;generalize hS:(fun i=>if [13].contains i then V.sl 1 ((ofR l w).map vI) else A2 [0,11] S i)=S';have u0:S' 0=aJ l:=by rw [←hS]; exact t0
      have u11:S' 11=.ptr i46 0 0:=by rw [←hS]; exact t11
      have u13:S' 13=bh (ofR l w):=by rw [←hS]; rfl
      clear hS t0 t11;refine ad.mix 16 ?_;rw [sI] at hb0;apply sR;simp only [go_sem,seval,u0,u11,u13];refine ad.az rfl rfl rfl (hbr _) ?_;apply sR;simp only [go_sem,seval,u11,hb0,gw,gr];exact D9 (b:=cz l w h) (hs0.aD z46) z46 ag (how0.DT k46)
   ·have q:(gy l≠0)=True:=eq_true hc;obtain ⟨e1,e2⟩:=bad (gy l) (by rw [gu,if_neg (fun h=>h ⟨hw,hh⟩),if_pos hc]) hc;rw [e1,e2];apply sR;simp only [go_sem,seval,q];exact au.pure hs rfl
  ·have mh:=pk h;rw [show decide (1≤h∧h≤1099511627776)=false from decide_eq_false hh] at mh;obtain ⟨e1,e2⟩:=bad 3 (by rw [gu,if_pos (fun h=>hh h.2)]) (by decide);rw [e1,e2];refine ad.az rfl rfl rfl (mh _) ?_;apply sR;simp only [go_sem,seval];exact au.pure hs rfl
 ·have mw:=pk w;rw [show decide (1≤w∧w≤1099511627776)=false from decide_eq_false hw] at mw;obtain ⟨e1,e2⟩:=bad 3 (by rw [gu,if_pos (fun h=>hw h.1)]) (by decide);rw [e1,e2];apply sR;simp only [go_sem,seval,c8];refine ad.az rfl rfl rfl (mw _) ?_;apply sR;simp only [go_sem,seval];exact au.pure hs rfl
theorem ml {l:List Nd} {w h:Int} (he:gu l w h=0):xJ w∧xJ h∧gy l=0:=by
 unfold gu at he;split at he
 ·cases he
 ·rename_i h1;split at he
  ·rename_i h2; exact absurd he h2
  ·rename_i h2;exact ⟨Decidable.byContradiction fun h=>h1 (fun g=>h g.1),Decidable.byContradiction fun h=>h1 (fun g=>h g.2),Decidable.byContradiction h2⟩
theorem Dp {l:List Nd} (hl:dJ l) {w h:Int} (he:gu l w h=0):BkFull (cz l w h)∧∀f∈(cz l w h).fls,0≤f.h:=by
 obtain ⟨hw,hh,hc⟩:=ml he;obtain ⟨hisb,hn,hwo,hcs⟩:=rG hc;have hG:=vk hisb hn hw.1 hw.2;have hl1:=hG.len;have hl2:=hG.flen;have hb:(1099511627776:Int)*((cst l 0 l.length:Nat):Int)≤10995116277760000:=by omega
 have ht:∀a∈(cm l w).atoms, -18014398509481984≤a.y∧a.y≤18014398509481984∧0≤a.h∧a.h≤18014398509481984:=fun a ha=>by
  have:=hG.at' a ha;have h0:=this.y0; have h1:=this.y1; have h2:=this.h0; have h3:=this.h1;omega
 refine ⟨⟨⟨⟨?_,fun a ha=>?_⟩,ht,?_,?_,fun f hf=>(hG.flo f hf).ok (by omega),?_⟩,hl,hisb,hh.1,hh.2,hG.nod⟩,fun f hf=>(hG.flo f hf).h0⟩
 ·show (cm l w).atoms.length≤_; omega
 ·have:=ht a ha; omega
 ·show (cm l w).atoms.length≤_; omega
 ·show (cm l w).floats.length≤_; omega
 ·show (qG l (ofR l w)).length=(cm l w).atoms.length+1;unfold qG ofR;simp
def ej (b:Bk) (a:Nat):Int:=((b.atoms.drop a).map (·.h)).sum
theorem sD {b:Bk} {a:Nat} (h:a < b.atoms.length):ej b a=(b.atoms[a]).h+ej b (a+1):=by
 unfold ej; rw [List.drop_eq_getElem_cons h,List.map_cons,List.sum_cons]
theorem nU {b:Bk} (hp:∀a∈b.atoms,1≤a.h) (a:Nat):0≤ej b a:=by
 have key:∀l:List Atm,(∀a∈l,1≤a.h)→0≤(l.map (·.h)).sum:=by
  intro l
  induction l with
  | nil=>intro _; simp
  | cons x l ih =>
    intro h;have h1:=h x (by simp);have h2:=ih (fun y hy=>h y (by simp [hy]));simp only [List.map_cons,List.sum_cons]; omega
 exact key _ fun x hx=>hp x (List.mem_of_mem_drop hx)
theorem ze {b:Bk} (hp:∀a∈b.atoms,1≤a.h) (a:Nat):∀n,ej b (a+n)≤ej b a
 | 0=>Int.le_refl _
 | n+1=>by
   have ih:=ze hp a n;by_cases h:a+n < b.atoms.length
   ·have h1:=sD h;have h2:=hp _ (List.getElem_mem h);rw [←Nat.add_assoc]; omega
   ·have:ej b (a+(n+1))=ej b (a+n):=by
     unfold ej; rw [List.drop_of_length_le (by omega),List.drop_of_length_le (by omega)]
    omega
theorem oZ {body:Int} (f:Flo) (r:List Flo):(cQ body (f::r) 0).2.1.length < (f::r).length:=by
 have key:∀(l:List Flo) (sh:Int),(cQ body l sh).2.1.length≤l.length:=by
  intro l
  induction l with
  | nil=>intro sh; simp [cQ]
  | cons g l ih =>
    intro sh;rw [cQ];split
    ·simp
    ·have:=ih (sh+min g.h body); simp only [List.length_cons]; omega
 rw [cQ,if_neg (by omega)];have:=key r (0+min f.h body);simp only [List.length_cons];omega
theorem kX {b:Bk} {s:Stt} {to kept shift body:Int}:(dO b.atoms b.fls s to kept shift body).2.length≤b.fls.length:=by
 unfold dO;split
 ·have h1:=pf (su b.atoms s kept) shift body (eU b.fls s to);have h2:(eU b.fls s to).length≤b.fls.length:=pC _ _ _;omega
 ·simp
inductive iO (b:Bk) (x:Wx):Sta→Prop
 | whole (c:Nat) (fr:Bool) (p:List Flo) (h1:x.s.atom < c) (h2:c≤b.atoms.length) (h3:p.length≤b.fls.length):iO b x ⟨⟨c,0,fr⟩,p⟩
 | more (d:Int) (p:List Flo) (h1:x.s.done < d) (h2:d < (atG b.atoms x.s.atom).h) (h3:p.length≤b.fls.length):iO b x ⟨⟨x.s.atom,d,false⟩,p⟩
theorem pB {b:Bk} (hb:BkOk b) {x:Wx} (hm:dp b.atoms x.s) (hpos:∀a∈b.atoms,1≤a.h) (hbody:1≤x.body):iO b x (ee b x):=by
 have hrl:dF b x≤b.atoms.length:=l4;have hbl:=hb.brk;unfold ee;split
 ·rename_i hok;obtain ⟨c,h1,h2,h3⟩:=nC hok (by omega);rw [show vP b x=c from h1,Int.toNat_natCast];exact .whole c _ _ h2 (by omega) kX
 ·unfold ux dT;have hso:oF b.atoms x.s x.body:=⟨hm,hbody⟩
  rw [if_pos (show oF b.atoms ({ x with kind:=1 }:Wx).s ({ x with kind:=1 }:Wx).body from hso)];obtain ⟨⟨h0,h1⟩,h2,h3⟩:=hm;obtain ⟨k,hk⟩:∃k:Nat,x.s.atom=k:=⟨x.s.atom.toNat,by omega⟩
  have hkl:k < b.atoms.length:=by omega
  have hp:=hpos _ (List.getElem_mem hkl);have ha:atG b.atoms x.s.atom=b.atoms[k]:=by rw [hk,bj hkl]
  rw [ha] at h3;have hph:(fg b.atoms x.s.atom).h=b.atoms[k].h:=by rw [fg,ha]
  unfold iM;have e1:(eN b.atoms x.s x.body).fr=x.s.done:=rfl;have e2:(eN b.atoms x.s x.body).atom=x.s.atom:=rfl;have e3:(eN b.atoms x.s x.body).h=min (b.atoms[k].h - x.s.done) x.body:=by rw [←hph]; rfl
  split
  ·rename_i hlt;have hlt':x.s.done+min (b.atoms[k].h - x.s.done) x.body < (atG b.atoms x.s.atom).h:=by rw [←e3]; exact hlt
   have:=iO.more (b:=b) (x:=x) (x.s.done+min (b.atoms[k].h - x.s.done) x.body) (dO b.atoms b.fls x.s (x.s.atom+1) 0 0 x.body).2 (by omega) hlt' kX;rw [←e3] at this;exact this
  ·have:=iO.whole (b:=b) (x:=x) (k+1) false (dO b.atoms b.fls x.s (x.s.atom+1) 0 0 x.body).2 (by omega) (by omega) kX;have e4:((k+1:Nat):Int)=x.s.atom+1:=by omega
   rw [e4] at this;exact this
structure SkI (s:WS):Prop where
 pw:s.atoms.Pairwise fun a b=>a.y+a.h≤b.y
 q:∀a∈s.atoms,a.y+a.h≤s.pen.y
theorem SkI.put {s:WS} (h:SkI s) {a:Atm} (h1:s.pen.y≤a.y) (h2:0≤a.h):SkI (s.put a):=by
 refine ⟨?_,fun x hx=>?_⟩
 ·simp only [WS.put];rw [List.pairwise_append];refine ⟨h.pw,by simp,fun x hx y hy=>?_⟩;simp only [List.mem_singleton] at hy;subst hy;have:=h.q x hx;omega
 ·simp only [WS.put] at hx ⊢;rcases List.mem_append.1 hx with hx | hx
  ·have:=h.q x hx; omega
  ·simp only [List.mem_singleton] at hx; subst hx; omega
theorem SkI.pen {s:WS} (h:SkI s) {p:Pn} (hp:s.pen.y≤p.y):SkI { s with pen:=p }:=⟨h.pw,fun a ha=>by have:=h.q a ha; simp only; omega⟩
theorem Bb {p:Pn} {m d:Int} (h0:0≤p.m) (hd:0≤d):p.y≤(dQ p m d).y:=by
 simp only [dQ,tJ]; (repeat' split) <;> omega
theorem GK {p:Pn} {m d:Int} (h0:0≤p.m) (hd:0≤d):p.y≤(kj p m d).y:=by
 simp only [kj,tJ]; (repeat' split) <;> (try simp only) <;> omega
theorem SkI.enter {s:WS} (h:SkI s) (h0:0≤s.pen.m) {t:Sty} (ht:SOk t):SkI (s.enter t):=by
 have hp:=ht.padTop.1;unfold WS.enter;simp only;refine h.pen ?_;split
 ·have hc:s.pen.y≤(iK s.pen (dH (kK t.clear) s.floats).1).y∧0≤(iK s.pen (dH (kK t.clear) s.floats).1).m:=by
   unfold iK; split <;> (try simp only) <;> omega
  exact Int.le_trans hc.1 (Bb hc.2 hp)
 ·exact Bb h0 hp
theorem SkI.leave {s:WS} (h:SkI s) (h0:0≤s.pen.m) {t:Sty} (ht:SOk t):SkI (s.leave t):=h.pen (GK h0 ht.padBottom.1)
theorem SkI.text {rs:List Rm} {s:WS} {C:Nat} (h:fa s C) (hk:SkI s) {n:Nd} (hn:NOk n) (a:Nat):SkI (s.text rs a n):=by
 obtain ⟨⟨hf,h1,h2,h3,h4⟩,h5,h6⟩:=h;have hl:=hn.line;have key:∀(k i:Nat) (y:Int) (t:WS),t.pen.y≤y→SkI t→SkI ((da s.floats n.words n.space n.line (dR rs a) k i y).foldl (fun s x=>s.put (eB a n.line x)) t):=by
  intro k
  induction k with
  | zero=>intro i y t _ ht; exact ht
  | succ k ih =>
    intro i y t hy ht;rw [da];split
    ·rw [List.foldl_cons];have hyr:y≤(mO s.floats n.words n.space n.line i y (dR rs a)).y:=(fm (fun f hf'=>(hf f hf').yB)).1;refine ih _ _ _ ?_ (ht.put (by simp only [eB]; omega) hl.1);simp only [WS.put,eB];omega
    ·exact ht
 exact key _ _ _ s (by omega) hk
theorem rR {l:List Nd} {rs:List Rm} (hD:DOk l rs):∀(k a e:Nat) (s:WS) (C:Nat),e - a≤k→a≤e→e≤l.length→bT l a e=true→fa s C→SkI s→SkI (de l rs k a e s)
 | 0,a,e,s,C,_,hae,_,_,_,h=>h
 | k+1,a,e,s,C,hk,hae,he,hr,h,hs=>by
   rw [de];by_cases hlt:a < e
   ·rw [if_pos hlt];obtain ⟨h1,h2⟩:=cJ he hr (Nat.le_refl a) hlt;obtain ⟨h3,h4⟩:=dC he hr hlt;have hno:NOk (ndA l a):=by rw [ij (by omega)]; exact fI hD.isb (by omega)
    have step:∀t,(∃D,fa t D)→SkI t→SkI (de l rs k (a+(szI l a).toNat) e t):=fun t ⟨D,ht⟩ hA =>
     rR hD k _ e t D (by omega) (by omega) he h3 ht hA
    have hm:=h.bd.m0;split
    ·have hI2:=fL hD k (a+1) (a+(szI l a).toNat) _ _ (by omega) (by omega) (by omega) h4 (eC h hno.st);have hS2:=rR hD k (a+1) (a+(szI l a).toNat) _ _ (by omega) (by omega) (by omega) h4 (eC h hno.st) (hs.enter hm hno.st);exact step _ ⟨_,ja hI2 hno.st⟩ (hS2.leave hI2.bd.m0 hno.st)
    ·split
     ·exact step _ ⟨_,jX h hno a⟩ (SkI.text h hs hno a)
     ·split
      ·refine step _ ⟨_,kg h hno a⟩ ?_;have hyr:=fm (w:=(ndA l a).w) (high:=(ndA l a).h) (y:=s.pen.y+s.pen.m) (s:=dR rs a) (fun f hf'=>(h.bd.fl f hf').yB);exact hs.put (by simp only; omega) hno.h.1
      ·have k4:(ndA l a).kind=4:=by rename_i g1 g2 g3; rcases hno.kind with h | h | h | h; exact absurd h g1; exact absurd h g2; exact absurd h g3; exact h
       exact step _ ⟨_,jm hD h (by omega) hno k4⟩ ⟨hs.pw,hs.q⟩
   ·rw [if_neg hlt]; exact hs
theorem HH {l:List Nd} (hb:isB l=true) (hn:l.length≤2000) {w:Int} (h1:1≤w) (h2:w≤1099511627776):(cm l w).atoms.Pairwise fun a b=>a.y+a.h≤b.y:=by
 have hD:=rE hb hn h1 h2;have hr:bT l 0 l.length=true:=by simp only [isB,Ba] at hb; exact hb.2
 have hI:fa ⟨[],[],0,⟨0,0⟩⟩ 0:=⟨⟨by simp,by simp,by simp,by simp,by simp⟩,by simp,by simp⟩
 exact (rR hD l.length 0 l.length ⟨[],[],0,⟨0,0⟩⟩ 0 (by omega) (by omega) (Nat.le_refl _) hr hI ⟨by simp,by simp⟩).pw
theorem v8 {l:List Atm} (h:l.Pairwise fun a b=>a.y+a.h≤b.y) {i j:Nat} (hij:i < j) (hj:j < l.length):l[i].y+l[i].h≤l[j].y:=List.pairwise_iff_getElem.1 h i j (by omega) hj hij
theorem pc {p:Nat→Bool} {n:Nat} (hm:∀i j,i≤j→j < n→p i=true→p j=true):∀(f i j:Nat),j - i≤f→i≤j→j≤n→(∀x,x < i→p x=false)→(j < n→p j=true) →
 (∀x,x < jL p f i j→p x=false)∧(jL p f i j < n→p (jL p f i j)=true)∧jL p f i j≤j
 | 0,i,j,hf,hij,_,h1,h2=>by
   obtain rfl:i=j:=by omega
   exact ⟨h1,h2,Nat.le_refl _⟩
 | f+1,i,j,hf,hij,hjn,h1,h2=>by
   rw [jL];split
   ·rename_i hlt;split
    ·rename_i hp;obtain ⟨g1,g2,g3⟩:=pc hm f i ((i+j) / 2) (by omega) (by omega) (by omega) h1 (fun _=>hp);exact ⟨g1,g2,by omega⟩
    ·rename_i hp;have hp':p ((i+j) / 2)=false:=by simpa using hp
     refine pc hm f ((i+j) / 2+1) j (by omega) (by omega) hjn (fun x hx=>?_) h2;cases hx':p x with
     | false=>rfl
     | true=>rw [hm x ((i+j) / 2) (by omega) (by omega) hx'] at hp'; cases hp'
   ·obtain rfl:i=j:=by omega
    exact ⟨h1,h2,Nat.le_refl _⟩
theorem zR {b:Bk} (hk:b.atoms.Pairwise fun x y=>x.y+x.h≤y.y) (hpos:∀a∈b.atoms,1≤a.h) {s:Stt} (hm:dp b.atoms s) (kept shift body:Int) :
 ∃r:Nat,ly b.atoms s kept shift body=r∧s.atom≤r∧r≤b.atoms.length∧(∀k (h:k < b.atoms.length),s.atom≤k→k < r→du b.atoms s kept shift k+b.atoms[k].h≤body)∧∀h:r < b.atoms.length,du b.atoms s kept shift r+b.atoms[r].h > body:=by
 have hm0:=hm;obtain ⟨⟨h0,h1⟩,h2,h3⟩:=hm;obtain ⟨a,ha⟩:∃a:Nat,s.atom=a:=⟨s.atom.toNat,by omega⟩
 have hal:a < b.atoms.length:=by omega
 have hpl:∀k (h:k < b.atoms.length),a≤k→du b.atoms s kept shift k=b.atoms[k].y - b.atoms[a].y - s.done+kept+shift:=fun k h hak=>by
  rw [du,if_pos ⟨hm0,by omega,by omega⟩,fT,if_pos ⟨⟨h0,h1⟩,by omega,by omega⟩,ha,bj h,bj hal]
 have hby:∀n (h:a+n < b.atoms.length),eR b.atoms s kept shift body n=decide (b.atoms[a+n].y - b.atoms[a].y - s.done+kept+shift+b.atoms[a+n].h > body):=fun n h=>by
  have e:s.atom+(n:Int)=((a+n:Nat):Int):=by omega
  rw [eR,e,hpl _ h (by omega),bj h]
 have hmono:∀i j,i≤j→j < b.atoms.length - a→eR b.atoms s kept shift body i=true→eR b.atoms s kept shift body j=true:=fun i j hij hj hb=>by
  rcases Nat.eq_or_lt_of_le hij with rfl | hlt
  ·exact hb
  ·have hi2:a+i < b.atoms.length:=by omega
   have hj2:a+j < b.atoms.length:=by omega
   rw [hby i hi2] at hb;rw [hby j hj2];have h5:=v8 hk (show a+i < a+j by omega) hj2;have h6:=hpos _ (List.getElem_mem hj2);have hb':=of_decide_eq_true hb;exact decide_eq_true (by omega)
 have hs:=pc hmono (b.atoms.length - a) 0 (b.atoms.length - a) (by omega) (by omega) (Nat.le_refl _) (fun x hx=>by omega) (fun h=>by omega);have hsr:jL (eR b.atoms s kept shift body) (b.atoms.length - a) 0 (b.atoms.length - a)=Ad (eR b.atoms s kept shift body) (b.atoms.length - a):=rfl;rw [hsr] at hs;obtain ⟨g1,g2,g3⟩:=hs;refine ⟨a+Ad (eR b.atoms s kept shift body) (b.atoms.length - a),?_,by omega,by omega,fun k h hak hkr=>?_,fun h=>?_⟩
 ·rw [ly,if_pos hm0,ha,Int.toNat_natCast]; rfl
 ·have hka:a≤k:=by omega
  have:=g1 (k - a) (by omega);rw [hby (k - a) (by omega)] at this;have h5:=of_decide_eq_false this;rw [hpl k h hka];have e:a+(k - a)=k:=by omega
  simp only [e] at h5;omega
 ·have:=g2 (by omega);rw [hby _ h] at this;have h5:=of_decide_eq_true this;rw [hpl _ h (by omega)];omega
theorem ku {l:List Nd} {a:Nat}:∀(k:Nat) (x:Int),x∈fX l a k→gq l x a=true
 | 0,_,h=>by simp [fX] at h
 | k+1,x,h=>by
   rw [fX] at h;split at h
   ·rename_i hk;rcases List.mem_cons.1 h with rfl | h
    ·exact hk
    ·exact ku k x h
   ·exact ku k x h
theorem EH (l:List Nd) (of:List Int) (k:Nat):0≤cY l of k 3∧cY l of k 3≤7:=by
 simp only [cY,E4];cases ju l of k 0 <;> cases ju l of k 1 <;> cases ju l of k 2 <;> simp
theorem wC:∀(all:List Int),cO all=0∨2≤cO all∧cO all≤4:=by
 have key:∀(all:List Int) (o:Int),(o=0∨2≤o∧o≤4)→(all.foldl jx o=0∨2≤all.foldl jx o∧all.foldl jx o≤4):=by
  intro all
  induction all with
  | nil=>intro o h; exact h
  | cons x all ih =>
    intro o h;rw [List.foldl_cons];refine ih _ ?_;unfold jx lQ
    (repeat' split) <;> omega
 exact fun all=>key all 0 (.inl rfl)
theorem He {l:List Nd} (hb:isB l=true) {of:List Int} (hof:∀x∈of,0≤x∧x < l.length):tX (qG l of)=true:=by
 have hlen:(qG l of).length=of.length+1:=by simp [qG]
 simp only [tX,Ba,List.all_eq_true,List.mem_range,decide_eq_true_eq];refine ⟨fun k hk=>?_,by omega⟩;rw [hlen] at hk;have hg:bkG (qG l of) k=bkR l of k:=by simp [bkG,qG,hk]
 unfold gm;rw [hg,hlen];refine decide_eq_true ?_;have hsame:0 < k→k < of.length→of.getD k 0=of.getD (k - 1) 0→iJ l of k=0:=fun h0 h1 he=>by
  have hk1:of.getD k 0=of[k]:=by simp [h1]
  have hr:=hof _ (List.getElem_mem h1);have hh:∀x∈abv l (of.getD k 0).toNat,hAt l of x k=true∧hAt l of x ((k:Int) - 1)=true:=fun x hx=>by
   rw [hk1] at hx;have hlt:of[k].toNat < l.length:=by omega
   rw [IG hb hlt] at hx;have hx':=ku _ _ hx;rw [kC] at hx';have e1:((k:Int) - 1).toNat=k - 1:=by omega
   have e2:((k:Int)).toNat=k:=by omega
   have e3:(of[k].toNat:Int)=of[k]:=by omega
   rw [e3] at hx';unfold hAt vV;rw [if_pos (by omega),if_pos (by omega),e1,e2,←he,hk1];exact ⟨decide_eq_true ⟨hx'.2.2.1,hx'.2.2.2⟩,decide_eq_true ⟨hx'.2.2.1,hx'.2.2.2⟩⟩
  have e1:((k:Int) - 1).toNat=k - 1:=by omega
  have e2:((k:Int)).toNat=k:=by omega
  have he1:chR l of ((k:Int) - 1) (fun b=>!hAt l of b k)=[]:=by
   unfold chR;rw [if_pos (by omega),e1,←he,List.filter_eq_nil_iff];intro x hx;rw [(hh x hx).1]; simp
  have he2:chR l of k (fun b=>!hAt l of b ((k:Int) - 1))=[]:=by
   unfold chR;rw [if_pos (by omega),e2,List.filter_eq_nil_iff];intro x hx;rw [(hh x hx).2]; simp
  unfold iJ jf;rw [if_neg (by omega),dS,he1,he2];rfl
 have hend:k=of.length→iJ l of k=0:=fun h=>by
  unfold iJ jf; rw [if_pos h]; rfl
 have hfv:=wC (jf l of k);have hbr:=EH l of k;change iJ l of k=0∨2≤iJ l of k∧iJ l of k≤4 at hfv;unfold nm bkR;simp only [decide_eq_true_eq,decide_eq_false_iff_not];unfold o5 pg;by_cases h0:k=0
 ·rw [if_pos h0,if_pos (show k=0∨k=of.length from .inl h0)];refine ⟨fun _=>rfl,fun h=>absurd (by omega) h,fun h=>absurd (by omega) h,?_, .inl (by split <;> rfl)⟩;rcases hfv with h | h
  ·exact .inl h
  ·exact .inr ⟨h.1,h.2,by omega,by omega⟩
 ·rw [if_neg h0];by_cases h1:k=of.length
  ·rw [if_pos h1,if_pos (show k=0∨k=of.length from .inr h1)];exact ⟨fun h=>absurd h (by omega),fun _ _=>rfl,fun _ h=>absurd (by omega) h, .inl (hend h1), .inl (by split <;> rfl)⟩
  ·rw [if_neg h1,if_neg (show ¬(k=0∨k=of.length) by omega)];by_cases h2:of.getD k 0=of.getD (k - 1) 0
   ·rw [if_pos h2];have hf:=hsame (by omega) (by omega) h2;refine ⟨fun h=>absurd h (by omega),fun _ h=>absurd h (by omega),fun _ _=>.inr rfl, .inl hf,?_⟩;rw [if_pos hf];rcases Int.lt_or_le 0 (cY l of k 3) with h | h
    ·exact .inr ⟨.inr rfl,hf,h,by omega⟩
    ·exact .inl (by omega)
   ·rw [if_neg h2];refine ⟨fun h=>absurd h (by omega),fun _ h=>absurd h (by omega),fun _ _=>.inl rfl,?_,?_⟩
    ·rcases hfv with h | h
     ·exact .inl h
     ·exact .inr ⟨h.1,h.2,by omega,by omega⟩
    ·by_cases hf:iJ l of k=0
     ·rw [if_pos hf];rcases Int.lt_or_le 0 (cY l of k 3) with h | h
      ·exact .inr ⟨.inl rfl,hf,h,by omega⟩
      ·exact .inl (by omega)
     ·rw [if_neg hf]; exact .inl rfl
def inF (top e:Int) (l:List Frg):Prop:=∀f∈l,top≤f.y∧0≤f.h∧f.y+f.h≤e
theorem wb {top e:Int} {l m:List Frg} (h1:inF top e l) (h2:inF top e m):inF top e (l++m):=fun f hf=>(List.mem_append.1 hf).elim (h1 f) (h2 f)
theorem wQ {l:List Nd} {x:Kp} {a:Int} (h:∀n∈x.heads,1≤(stA l n).head):∀n∈(iy l x a).heads,1≤(stA l n).head:=fun n hn=>by
 unfold iy at hn;split at hn
 ·exact h n hn
 ·rename_i hc;rcases List.mem_append.1 hn with hn | hn
  ·exact h n hn
  ·rw [List.mem_singleton.1 hn]; omega
theorem tm {l:List Nd} {L:List Int} {h:Int}:∀m,∀n∈(fP l L h m).heads,1≤(stA l n).head
 | 0=>fun n hn=>by simp [fP] at hn
 | m+1=>by rw [fP]; exact wQ (tm m)
theorem JL {l:List Nd} {w:Int}:∀(L:List Int),(∀n∈L,1≤(stA l n).head)→0≤(hdK l w L).2∧(∀f∈(hdK l w L).1,0≤f.y∧0≤f.h∧f.y+f.h≤(hdK l w L).2)∧((hdK l w L).1.map (·.h)).sum=(hdK l w L).2:=fun L=>by
 suffices key:∀(L:List Int) (p:List Frg×Int),(∀n∈L,1≤(stA l n).head)→0≤p.2→(∀f∈p.1,0≤f.y∧0≤f.h∧f.y+f.h≤p.2)→(p.1.map (·.h)).sum=p.2 →
  0≤(L.foldl (hdS l w) p).2∧(∀f∈(L.foldl (hdS l w) p).1,0≤f.y∧0≤f.h∧f.y+f.h≤(L.foldl (hdS l w) p).2)∧((L.foldl (hdS l w) p).1.map (·.h)).sum=(L.foldl (hdS l w) p).2 from
  fun h=>key L ([],0) h (Int.le_refl _) (fun f hf=>by cases hf) rfl
 intro L
 induction L with
 | nil=>intro p _ h1 h2 h3; exact ⟨h1,h2,h3⟩
 | cons a L ih =>
   intro p h h1 h2 h3;have ha:=h a (by simp);refine ih _ (fun n hn=>h n (by simp [hn])) ?_ (fun f hf=>?_) ?_
   ·simp only [hdS]; omega
   ·simp only [hdS] at hf ⊢;rcases List.mem_append.1 hf with hf | hf
    ·have:=h2 f hf; omega
    ·rw [List.mem_singleton.1 hf]; simp only; omega
   ·simp only [hdS,List.map_append,List.sum_append,h3,List.map_cons,List.map_nil,List.sum_cons,List.sum_nil]; omega
theorem y6 {b:Bk} (hb:BkFull b) (s:Stt) (h0:0≤s.atom):0≤(bB b s).high∧1≤(bB b s).body∧(bB b s).high+(bB b s).body=b.h∧inF 0 (bB b s).high (hdK b.nodes b.w (bB b s).heads).1∧((hdK b.nodes b.w (bB b s).heads).1.map (·.h)).sum=(bB b s).high:=by
 have hk:=wu hb s;have hbd:=gN hb s h0;have hh:∀n∈(bB b s).heads,1≤(stA b.nodes n).head:=by
  unfold bB;split
  ·intro n hn; cases hn
  ·unfold qL;split
   ·exact tm _
   ·intro n hn; cases hn
 obtain ⟨g1,g2,g3⟩:=JL (l:=b.nodes) (w:=b.w) _ hh;rw [hk.sum] at g2 g3;refine ⟨hk.high.1,hbd,?_,g2,g3⟩;have h1:=hb.h1;revert hbd;unfold bB;split
 ·intro _; simp
 ·unfold qL;split
  ·rename_i hc;intro _;obtain ⟨_,h3,h4⟩:=hc;generalize (atG b.atoms (min s.atom ((b.atoms.length:Int) - 1))).node=a at *;have ha:a.toNat < b.nodes.length:=by omega
   have hrg:∀x∈abv b.nodes a.toNat,∃n:Nat,x=n∧n < b.nodes.length:=fun x hx=>by
    obtain ⟨n,h1,h2⟩:=nP ha x hx;exact ⟨n,h1,by omega⟩
   exact (nK hb.isb hrg (by omega:0≤b.h) (abv b.nodes a.toNat).length (Nat.le_refl _)).2.2.2
  ·intro h; exact absurd h (by simp)
theorem A5 {body:Int} (hb:0≤body):∀(l:List Flo) (sh:Int),0≤sh→sh≤body→(∀f∈l,0≤f.h)→∀m∈(cQ body l sh).1,0≤m.y∧0≤m.h∧m.y+m.h≤body
 | [],sh,_,_,_=>fun m hm=>by simp [cQ] at hm
 | f::r,sh,h0,h1,hf=>fun m hm=>by
   rw [cQ] at hm;have:=hf f (by simp);split at hm
   ·cases hm
   ·rename_i hc;rcases List.mem_cons.1 hm with rfl | hm
    ·simp only; omega
    ·exact A5 hb r _ (by omega) (by omega) (fun g hg=>hf g (by simp [hg])) m hm
theorem Ff {top shift body:Int} (hsh:0≤shift):∀ {L:List Flo},(∀f∈L,0≤f.h)→∀m∈(ic top shift body L).1,0≤m.y∧0≤m.h∧m.y+m.h≤body:=by
 suffices key:∀(L:List Flo) (x:List Flo×List Flo),(∀f∈L,0≤f.h)→(∀m∈x.1,0≤m.y∧0≤m.h∧m.y+m.h≤body) →
  ∀m∈(L.foldl (fun x f=>jz body x f (dG top shift f)) x).1,0≤m.y∧0≤m.h∧m.y+m.h≤body from
  fun {L} h=>key L ([],[]) h (fun m hm=>by cases hm)
 intro L
 induction L with
 | nil=>intro x _ h m hm; exact h m hm
 | cons f L ih =>
   intro x hL h;refine ih _ (fun g hg=>hL g (by simp [hg])) fun m hm=>?_;have hf:=hL f (by simp);simp only [jz] at hm;split at hm
   ·exact h m hm
   ·rename_i hl;rcases List.mem_append.1 hm with hm | hm
    ·exact h m hm
    ·rw [List.mem_singleton.1 hm];unfold mA at hl;have hl':¬(x.2≠[]∨(dG top shift f).y+(dG top shift f).h > body):=fun h=>hl (decide_eq_true h);simp only [dG] at hl' ⊢;omega
theorem Dj:∀ {l:List Flo} {a b:Int} {f:Flo},f∈rB l a b→f∈l:=fun h=>(List.mem_filter.1 h).1
theorem xX {b:Bk} (hfh:∀f∈b.fls,0≤f.h) {s:Stt} {to kept shift body:Int} (hsh:0≤shift):∀m∈(dO b.atoms b.fls s to kept shift body).1,0≤m.y∧0≤m.h∧m.y+m.h≤body:=by
 unfold dO;split
 ·exact Ff hsh fun f hf=>hfh f (Dj hf)
 ·intro m hm; cases hm
theorem vD {high body:Int} {l:List Flo} (h:∀m∈l,0≤m.y∧0≤m.h∧m.y+m.h≤body):inF high (high+body) (l.map (lq high)):=fun f hf=>by
 obtain ⟨m,hm,rfl⟩:=List.mem_map.1 hf;have:=h m hm;simp only [lq]; omega
theorem rz:∀(xs:List Fd) (d:Fd),(eT gn xs d=(d,false)∧∀x∈xs,x.b.forced=0)∨∃L x R,xs=L++x::R∧(∀y∈L,y.b.forced=0)∧x.b.forced≠0∧eT gn xs d=(x,true)
 | [],d=>.inl ⟨rfl,fun x h=>(by cases h)⟩
 | a::xs,d=>by
   have stay:∀(l:List Fd) (x:Fd),l.foldl (fE gn) (x,true)=(x,true):=by
    intro l
    induction l with
    | nil=>intro x; rfl
    | cons y l ih=>intro x; rw [List.foldl_cons]; exact ih x
   by_cases h:a.b.forced=0
   ·have e:eT gn (a::xs) d=eT gn xs d:=by
     unfold eT;rw [List.foldl_cons,fE,gn];simp [h]
    rw [e];rcases rz xs d with ⟨h1,h2⟩ | ⟨L,x,R,h1,h2,h3,h4⟩
    ·exact .inl ⟨h1,fun x hx=>(List.mem_cons.1 hx).elim (fun e=>e ▸ h) (h2 x)⟩
    ·exact .inr ⟨a::L,x,R,by rw [h1]; rfl,fun y hy=>(List.mem_cons.1 hy).elim (fun e=>e ▸ h) (h2 y),h3,h4⟩
   ·refine .inr ⟨[],a,xs,rfl,fun y hy=>(by cases hy),h,?_⟩;unfold eT;rw [List.foldl_cons,fE,gn];simp only [h,Bool.not_false,ne_eq,not_false_eq_true,decide_true,Bool.and_self,if_true];exact stay xs a
theorem Cl (d:Fd):∀(xs:List Fd) (a:Fd) ,∃L x R,xs++[a]=L++x::R∧eT iu (xs++[a]) d=(x,true)∧(∀y∈L,x.b.rank≤y.b.rank)∧∀y∈R,x.b.rank < y.b.rank:=by
 suffices key:∀n (xs:List Fd) (a:Fd),xs.length=n→∃L x R,xs++[a]=L++x::R∧eT iu (xs++[a]) d=(x,true)∧(∀y∈L,x.b.rank≤y.b.rank)∧∀y∈R,x.b.rank < y.b.rank from
  fun xs a=>key _ xs a rfl
 intro n
 induction n with
 | zero =>
   intro xs a h;obtain rfl:=List.length_eq_zero_iff.1 h;exact ⟨[],a,[],rfl,by simp [eT,fE,iu],fun y h=>(by cases h),fun y h=>by cases h⟩
 | succ n ih =>
   intro xs a h;rcases List.eq_nil_or_concat xs with rfl | ⟨ys,z,rfl⟩
   ·cases h
   ·rw [List.concat_eq_append] at h ⊢;obtain ⟨L,x,R,h1,h2,h3,h4⟩:=ih ys z (by simpa using h);rw [sq,h2];unfold fE iu;by_cases hr:a.b.rank≤x.b.rank
    ·refine ⟨ys++[z],a,[],rfl,by simp [hr],fun y hy=>?_,fun y hy=>by cases hy⟩;rw [h1] at hy;rcases List.mem_append.1 hy with hy | hy
     ·have:=h3 y hy; omega
     ·rcases List.mem_cons.1 hy with rfl | hy
      ·exact hr
      ·have:=h4 y hy; omega
    ·refine ⟨L,x,R++[a],by rw [h1]; simp,by simp [hr],h3,fun y hy=>?_⟩;rcases List.mem_append.1 hy with hy | hy
     ·exact h4 y hy
     ·rw [List.mem_singleton.1 hy]; omega
theorem vj {b:List Brk} {fr to:Int} {L R:List Fd} {x:Fd} (h:(btw b fr to).map (kS b)=L++x::R) :
 ∃c:Nat,x=kS b c∧max fr 0≤c∧c < max fr 0+tY b fr to∧(∀k:Nat,max fr 0≤k→k < c→kS b k∈L)∧∀k:Nat,c < k→k < max fr 0+tY b fr to→kS b k∈R:=by
 have hlen:=congrArg List.length h;simp only [btw,List.length_map,List.length_range',List.length_append,List.length_cons] at hlen;have hget:∀k:Nat,max fr 0≤k→k < max fr 0+tY b fr to→(L++x::R)[k - (max fr 0).toNat]?=some (kS b k):=fun k h1 h2=>by
  rw [←h,btw,List.getElem?_map,List.getElem?_range' (by omega)];simp only [Option.map_some,Nat.one_mul];rw [show (max fr 0).toNat+(k - (max fr 0).toNat)=k by omega]
 refine ⟨(max fr 0).toNat+L.length,?_,by omega,by omega,fun k h1 h2=>?_,fun k h1 h2=>?_⟩
 ·have:=hget ((max fr 0).toNat+L.length) (by omega) (by omega);rw [show (max fr 0).toNat+L.length - (max fr 0).toNat=L.length by omega] at this;simpa using this
 ·have:=hget k h1 (by omega);rw [List.getElem?_append_left (by omega)] at this;exact List.mem_of_getElem? this
 ·have:=hget k (by omega) (by omega);rw [List.getElem?_append_right (by omega),show k - (max fr 0).toNat - L.length=(k - ((max fr 0).toNat+L.length) - 1)+1 by omega,List.getElem?_cons_succ] at this;exact List.mem_of_getElem? this
theorem E2 {b:List Brk} {i fit:Int} (h:eQ b i fit) (hf:fit≤(b.length:Int) - 1) :
 ∃c:Nat,tS b i fit=c∧i < c∧(c:Int)≤fit∧∀k:Nat,i < k→(k:Int)≤fit→(k < c→(bkG b k).forced=0)∧((bkG b c).forced=0→k≠c→(bkG b k).forced=0∧(bkG b c).rank≤(bkG b k).rank∧(c < k→(bkG b k).rank≠(bkG b c).rank)):=by
 obtain ⟨_,h1,h2,h3⟩:=h;have hn:max (i+1) 0=i+1:=by omega
 have hb:tY b (i+1) fit=(fit - i).toNat:=by unfold tY; omega
 unfold tS ky Dy;rcases rz ((btw b (i+1) fit).map (kS b)) yy with ⟨e,hz⟩ | ⟨L,x,R,e1,e2,e3,e4⟩
 ·rw [e,if_pos (show yy.i < 0 by decide)];have hz':∀k:Nat,i < k→(k:Int)≤fit→(bkG b k).forced=0:=fun k g1 g2=>by
   refine hz (kS b k) (List.mem_map.2 ⟨k,?_,rfl⟩);rw [btw,List.mem_range'_1];omega
  have hne:(btw b (i+1) fit).map (kS b)≠[]:=fun e=>by
   have:=congrArg List.length e;simp [btw,hb] at this;omega
  rcases List.eq_nil_or_concat ((btw b (i+1) fit).map (kS b)) with e | ⟨ys,z,e⟩
  ·exact absurd e hne
  ·rw [List.concat_eq_append] at e;obtain ⟨L,x,R,f1,f2,f3,f4⟩:=Cl yy ys z;rw [←e] at f1 f2;obtain ⟨c,rfl,g1,g2,g3,g4⟩:=vj f1;rw [f2];refine ⟨c,rfl,by omega,by omega,fun k k1 k2=>⟨fun _=>hz' k k1 k2,fun _ hk=>⟨hz' k k1 k2,?_,fun hlt=>?_⟩⟩⟩
   ·rcases Nat.lt_or_gt_of_ne hk with hk | hk
    ·exact f3 _ (g3 k (by omega) hk)
    ·exact Int.le_of_lt (f4 _ (g4 k hk (by omega)))
   ·have:=f4 _ (g4 k hlt (by omega));exact fun e=>by simp only [kS] at this; omega
 ·obtain ⟨c,rfl,g1,g2,g3,g4⟩:=vj e1;rw [e4,if_neg (show ¬(kS b c).i < 0 from fun h=>by simp only [kS] at h; omega)];exact ⟨c,rfl,by omega,by omega,fun k k1 k2=>⟨fun hk=>e2 _ (g3 k (by omega) hk),fun hc=>absurd hc e3⟩⟩
inductive rj (b:Bk) (s t:Stt) (fs:List Frg) (top body:Int):Prop
 | more (h1:t.atom=s.atom) (h2:fs.length=1) (h3:ie b.atoms s > body) (h4:∀f,fs[0]?=some f→f.h=body) (h5:t.done=s.done+body)
 | whole (c r:Nat) (y:Int) (h1:t=⟨c,0,decide ((bkG b.brks c).forced≠0)⟩) (h2:s.atom < c) (h3:c≤r) (h4:r≤b.atoms.length) (h5:fs.length+s.atom=c) (h6:∀f,fs[0]?=some f→f.y=top+y)
    (h7:∀k (h:k < b.atoms.length),s.atom≤k→k < r→(if s.atom < k then y+(b.atoms[k].y - (atG b.atoms s.atom).y - s.done) else y)+(if k=s.atom then ie b.atoms s else b.atoms[k].h)≤body)
    (h8:∀(h:r < b.atoms.length),(if s.atom < r then y+(b.atoms[r].y - (atG b.atoms s.atom).y - s.done) else y)+(if r=s.atom then ie b.atoms s else b.atoms[r].h) > body)
    (h9:∀k:Nat,s.atom < k→k≤r→(k < c→(bkG b.brks k).forced=0)∧((bkG b.brks c).forced=0→k≠c→(bkG b.brks k).forced=0∧(bkG b.brks c).rank≤(bkG b.brks k).rank∧(c < k→(bkG b.brks k).rank≠(bkG b.brks c).rank)))
structure ET (b:Bk) (x:Wx) (fs:List Frg) (t:Stt):Prop where
 ne:0 < fs.length
 fin:inF x.high (x.high+x.body) fs
 fst:∀f,fs[0]?=some f→f.atom=x.s.atom∧f.fr=x.s.done
 cut:rj b x.s t fs x.high x.body
structure fK (b:Bk):Prop extends BkFull b where
 stk:b.atoms.Pairwise fun x y=>x.y+x.h≤y.y
 pos:∀a∈b.atoms,1≤a.h
 top:∀a∈b.atoms,0≤a.y
 mayb:tX b.brks=true
 fh:∀f∈b.fls,0≤f.h
 fy:∀f∈b.fls,0≤f.y
theorem Ao {b:Bk} (hb:fK b) (k:Int):0≤mr b.atoms k:=by
 unfold mr;split
 ·rename_i h;obtain ⟨n,rfl⟩:∃n:Nat,k=n:=⟨k.toNat,by omega⟩
  have hn:n < b.atoms.length:=by omega
  rw [bj hn];unfold gi;split
  ·rename_i h2;have e:(n:Int) - 1=((n - 1:Nat):Int):=by omega
   rw [e,bj (by omega)];have:=v8 hb.stk (show n - 1 < n by omega) hn;omega
  ·have:=hb.top _ (List.getElem_mem hn); omega
 ·exact Int.le_refl _
theorem Ct {b:Bk} (hb:fK b) {x:Wx} (hm:dp b.atoms x.s) (hx:x.fs=[])
 (hbody:1≤x.body) (hsh:0≤x.shift) (hnf:¬(x.shift > 0∧ie b.atoms x.s > x.body - x.shift)):ET b x (ek b x).fs (ee b x).s:=by
 have hk:=hb.stk;have hpos:=hb.pos;have hbk:=hb.mayb;obtain ⟨r,hr,hr1,hr2,hr3,hr4⟩:=zR hk hpos hm (dM b x) x.shift x.body;have hm0:=hm;obtain ⟨⟨h0,h1⟩,h2,h3⟩:=hm;obtain ⟨a,ha⟩:∃a:Nat,x.s.atom=a:=⟨x.s.atom.toNat,by omega⟩
 have hal:a < b.atoms.length:=by omega
 have hag:atG b.atoms x.s.atom=b.atoms[a]:=by rw [ha,bj hal]
 have hpa:=hpos _ (List.getElem_mem hal);have hbl:=hb.brk;have hleft:ie b.atoms x.s=b.atoms[a].h - x.s.done:=by rw [ie,if_pos hm0,hag]
 rw [hag] at h3;have hl0:1≤ie b.atoms x.s:=by rw [hleft]; omega
 have hpl:∀kept sh k (h:k < b.atoms.length),a≤k→du b.atoms x.s kept sh k=b.atoms[k].y - b.atoms[a].y - x.s.done+kept+sh:=fun kept sh k h hak=>by
  rw [du,if_pos ⟨hm0,by omega,by omega⟩,fT,if_pos ⟨⟨h0,h1⟩,by omega,by omega⟩,hag,bj h]
 have hkept:dM b x=0∨0≤dM b x∧x.s.done=0∧dM b x+ie b.atoms x.s≤x.body - x.shift:=by
  unfold dM oe;split
  ·rename_i hc;obtain ⟨_,_,hd,hg⟩:=hc;rw [hleft];rw [hag] at hg;exact .inr ⟨Ao hb _,hd,hg⟩
  ·exact .inl rfl
 have hrX:dF b x=r:=hr;unfold ek ee;by_cases hok:eQ b.brks x.s.atom (dF b x)
 ·rw [if_pos hok,if_pos hok];obtain ⟨c,c1,c2,c3,c4⟩:=E2 hok (by rw [hrX]; omega);rw [show vP b x=c from c1,Int.toNat_natCast];rw [hrX] at c3 c4;have hlen:(bX b { x with kind:=1 } (dM b x) (c - x.s.atom.toNat)).length=c - a:=by
   rw [bX,List.length_map,List.length_range,ha,Int.toNat_natCast]
  have hfs:(sk b { x with kind:=1 } (dM b x) c).fs=bX b { x with kind:=1 } (dM b x) (c - x.s.atom.toNat):=by
   simp only [sk,Wx.put,Wx.add,hx,List.nil_append]
  have hat:∀i (h:i < c - a),(bX b { x with kind:=1 } (dM b x) (c - x.s.atom.toNat))[i]?=some (cj x.high (dn b.atoms x.s (dM b x) x.shift ((a+i:Nat):Int))):=fun i h=>by
   rw [bX,List.getElem?_map,List.getElem?_range (by rw [ha]; omega),Option.map_some,ha];rfl
  have hwh:∀k (h:k < b.atoms.length),a≤k→(dn b.atoms x.s (dM b x) x.shift k).y=du b.atoms x.s (dM b x) x.shift k+(if k=a then x.s.done else 0)∧(dn b.atoms x.s (dM b x) x.shift k).h=b.atoms[k].h - (if k=a then x.s.done else 0)∧(dn b.atoms x.s (dM b x) x.shift k).atom=k∧(dn b.atoms x.s (dM b x) x.shift k).fr=if k=a then x.s.done else 0:=fun k h hak=>by
   rw [dn,if_pos ⟨hm0,by omega,by omega⟩];by_cases e:k=a
   ·rw [if_pos (by omega),if_pos e];simp only [Frg.bJ,kJ,fg,bj h];exact ⟨trivial,trivial,trivial,trivial⟩
   ·rw [if_neg (by omega),if_neg e];simp only [kJ,fg,bj h];exact ⟨(Int.add_zero _).symm,(Int.sub_zero _).symm,trivial,trivial⟩
  have hfirst:(bX b { x with kind:=1 } (dM b x) (c - x.s.atom.toNat))[0]?=some (cj x.high (dn b.atoms x.s (dM b x) x.shift ((a:Nat):Int))):=hat 0 (by omega);obtain ⟨w1,w2,w3,w4⟩:=hwh a hal (Nat.le_refl _);rw [if_pos rfl] at w1 w2 w4;have hpa0:=hpl (dM b x) x.shift a hal (Nat.le_refl _);have hk0:0≤dM b x:=by rcases hkept with h | h <;> omega
  refine ⟨by rw [hfs,hlen]; omega,fun f hf=>?_,fun f hf=>?_,?_⟩
  ·rw [hfs] at hf;obtain ⟨i,hi⟩:=List.getElem?_of_mem hf;have hil:i < c - a:=by
    rw [←hlen]; exact (List.getElem?_eq_some_iff.1 hi).1
   rw [hat i hil] at hi;obtain rfl:=Option.some.inj hi;obtain ⟨v1,v2, -, -⟩:=hwh (a+i) (by omega) (by omega);have hpl':=hpl (dM b x) x.shift (a+i) (by omega) (by omega);have hfit:=hr3 (a+i) (by omega) (by omega) (by omega);have hph:=hpos _ (List.getElem_mem (show a+i < b.atoms.length by omega));simp only [cj];rw [v1,v2];rw [hpl'] at hfit ⊢;by_cases e:i=0
   ·subst e;simp only [Nat.add_zero,if_true] at hfit ⊢;omega
   ·rw [if_neg (by omega)];have hst:=v8 hk (show a < a+i by omega) (by omega);omega
  ·rw [hfs,hfirst] at hf;obtain rfl:=Option.some.inj hf;simp only [cj];rw [w3,w4];exact ⟨ha.symm,rfl⟩
  ·refine .whole c r (dM b x+x.shift) rfl c2 (by omega) hr2 (by rw [hfs,hlen]; omega) (fun f hf=>?_) (fun k h h1 h2=>?_) (fun h=>?_) (fun k h1 h2=>c4 k h1 (by omega))
   ·rw [hfs,hfirst] at hf;obtain rfl:=Option.some.inj hf;simp only [cj];rw [w1,hpa0]; omega
   ·have:=hr3 k h h1 h2;rw [hpl _ _ k h (by omega)] at this;rw [hag];by_cases e:(k:Int)=x.s.atom
    ·obtain rfl:k=a:=by omega
     rw [if_neg (by omega),if_pos e,hleft]; omega
    ·rw [if_pos (by omega),if_neg e]; omega
   ·have:=hr4 h;rw [hpl _ _ r h (by omega)] at this;rw [hag];by_cases e:(r:Int)=x.s.atom
    ·obtain rfl:r=a:=by omega
     rw [if_neg (by omega),if_pos e,hleft]; omega
    ·rw [if_pos (by omega),if_neg e]; omega
 ·rw [if_neg hok,if_neg hok];have hra:r=a:=by
   have:¬x.s.atom < dF b x:=fun h=>hok ⟨hbk,h0,by omega,h⟩;omega
  have hgt:=hr4 (by omega);subst hra;rw [hpl _ _ r hal (Nat.le_refl _)] at hgt;have hk0:dM b x=0∧x.shift=0:=by
   rw [hleft] at hkept hnf;rcases hkept with h | h <;> omega
  have hso:oF b.atoms ({ x with kind:=1 }:Wx).s ({ x with kind:=1 }:Wx).body:=⟨hm0,hbody⟩
  have hfs:(sU b { x with kind:=1 }).fs=[cj x.high (iZ b.atoms x.s x.body)]:=by
   simp only [sU,Wx.put,Wx.add,hx,List.nil_append]
  have hsl:iZ b.atoms x.s x.body=⟨b.atoms[r].node,x.s.atom,x.s.done,b.atoms[r].x,0,b.atoms[r].w,x.body⟩:=by
   rw [iZ,if_pos (show oF b.atoms x.s x.body from hso),eN];simp only [Frg.cut,Frg.bJ,fg,hag];congr 1;omega
  have hnx:dT b.atoms x.s x.body=⟨x.s.atom,x.s.done+x.body,false⟩:=by
   rw [dT,if_pos (show oF b.atoms x.s x.body from hso)];rw [iZ,if_pos (show oF b.atoms x.s x.body from hso)] at hsl;rw [hsl];simp only [iM,hag];rw [if_pos (by omega)]
  rw [hsl] at hfs;refine ⟨by rw [hfs]; exact Nat.one_pos,fun f hf=>?_,fun f hf=>?_, .more ?_ (by rw [hfs]; rfl) (by rw [hleft]; omega) (fun f hf=>?_) ?_⟩
  ·rw [hfs,List.mem_singleton] at hf; subst hf; simp only [cj]; omega
  ·rw [hfs] at hf; obtain rfl:=Option.some.inj hf; exact ⟨rfl,rfl⟩
  ·show (dT b.atoms x.s x.body).atom=_; rw [hnx]
  ·rw [hfs] at hf; obtain rfl:=Option.some.inj hf; rfl
  ·show (dT b.atoms x.s x.body).done=_; rw [hnx]
def Mx (s t:Sta) (n:Int):Prop:=t.s.atom > s.s.atom∨t.s.atom=s.s.atom∧t.s.done > s.s.done∨t.s.atom=s.s.atom∧t.s.done=s.s.done∧(t.bK.length < s.bK.length∨t.s.atom=n∧t.s.free=false)
structure Ep (b:Bk) (s:Sta) (p:Pag) (t:Sta):Prop where
 no:p.no=0
 onw:Mx s t b.atoms.length
 sum:(p.hs.map (·.h)).sum=(bB b s.s).high
 hd:inF 0 (bB b s.s).high p.hs
 fl:inF (bB b s.s).high b.h p.fs
 lo:inF (bB b s.s).high b.h p.ls
 kd:p.kind=1∨p.kind=2
 no':p.kind=2→p.fs=[]
 cut:p.kind=1→dp b.atoms s.s∧0 < p.fs.length∧(∀f,p.fs[0]?=some f→f.atom=s.s.atom∧f.fr=s.s.done)∧rj b s.s t.s p.fs (bB b s.s).high (bB b s.s).body
theorem DD {α:Type} {p:α→Bool}:∀(l:List α),∀x∈l.takeWhile p,p x=true
 | [],x,h=>by cases h
 | a::l,x,h=>by
   rw [List.takeWhile_cons] at h;split at h
   ·rename_i ha;rcases List.mem_cons.1 h with rfl | h
    ·exact ha
    ·exact DD l x h
   ·cases h
theorem EY {b:Bk} (hb:fK b) {x:Wx} (hsh:0≤x.shift) (h:inF x.high (x.high+x.body) x.ls):inF x.high (x.high+x.body) (ek b x).ls:=by
 unfold ek;split
 ·exact wb h (vD (xX hb.fh hsh))
 ·exact wb h (vD (xX hb.fh (Int.le_refl _)))
theorem la (b:Bk) (x:Wx):(ek b x).hs=x.hs∧(ek b x).kind=1:=by
 unfold ek; split <;> exact ⟨rfl,rfl⟩
theorem lZ {b:Bk} (hb:fK b) {s:Sta} (he:¬fM b s):Ep b s (bE b s).1 (bE b s).2:=by
 have hmay:iC b s:=Decidable.byContradiction fun h=>he (.inl h);have hnot:¬(s.s.atom=b.atoms.length∧s.s.free=false∧s.bK=[]):=fun h=>he (.inr h);have hat:0≤s.s.atom:=by rcases hmay.2 with h | h; exact h.1.1; omega
 obtain ⟨r1,r2,r3,r4,r5⟩:=y6 hb.toBkFull s.s hat;have hpf:∀f∈s.bK,0≤f.h:=fun f hf=>hb.fh f (oT _ _ hmay.1 f hf);have htop:inF (bB b s.s).high ((bB b s.s).high+(bB b s.s).body) ((cQ (bB b s.s).body s.bK 0).1.map (lq (bB b s.s).high)):=vD (A5 (by omega) _ 0 (Int.le_refl _) (by omega) hpf);have hsh:=(wx (body:=(bB b s.s).body) s.bK 0 (Int.le_refl _) (by omega) hpf).2.2;unfold bE;split
 ·rename_i h0;obtain ⟨h1,h2⟩:=h0;have hn:s.s.atom=0∧s.s.done=0:=by
   rcases hmay.2 with h | h
   ·have:=h.1; rw [h1] at this; simp at this; omega
   ·rw [h1] at h; simpa using h
  have hrv:bB b s.s=⟨[],0,b.h⟩:=by rw [bB,if_pos h1]
  refine ⟨rfl, .inr (.inr ⟨?_,?_, .inr ⟨?_,rfl⟩⟩),r5,r4,fun f hf=>(by cases hf),?_, .inr rfl,fun _=>rfl,fun h=>?_⟩
  ·simp [j6,hn]
  ·simp [j6,hn]
  ·simp [j6,h1]
  ·rw [←r3];refine vD (high:=(bB b s.s).high) (body:=(bB b s.s).body) fun m hm=>?_;have h4:m.y+m.h≤(bB b s.s).body:=of_decide_eq_true (DD _ m hm);have h5:m∈b.fls:=(List.takeWhile_sublist _).mem hm;exact ⟨hb.fy m h5,hb.fh m h5,h4⟩
  ·exact absurd h (show ¬((2:Int)=1) by decide)
 ·split
  ·rename_i hf;refine ⟨rfl,?_,r5,r4,fun f hf=>(by cases hf),by rw [←r3]; exact htop, .inr rfl,fun _=>rfl,fun h=>absurd h (show ¬((2:Int)=1) by decide)⟩;refine .inr (.inr ⟨rfl,rfl,?_⟩);cases hp:s.bK with
   | cons f r=>exact .inl (oZ f r)
   | nil =>
     unfold oD at hf;rw [hp] at hf;simp only [cQ] at hf;have ha:s.s.atom=b.atoms.length:=by
      rcases hf with h | h | h
      ·exact h
      ·exact absurd rfl h
      ·omega
     exact .inr ⟨ha,by simp [ha]⟩
  ·rename_i hf;have hm:dp b.atoms s.s:=hmay.2.resolve_right fun h=>hf (.inl h.1);have hfn:=pB (x:=cM b s) hb.toBkOk hm hb.pos r2;have hfg:=Ct hb (x:=cM b s) hm rfl r2 hsh.1 (fun h=>hf (.inr (.inr h)));have hls:=EY hb (x:=cM b s) hsh.1 (wb (l:=[]) (fun f hf=>(by cases hf)) htop);have hoth:=la b (cM b s);have xs:(cM b s).s=s.s:=rfl;have xh:(cM b s).high=(bB b s.s).high:=rfl;have xb:(cM b s).body=(bB b s.s).body:=rfl;rw [xh,xb,r3] at hls;obtain ⟨f1,f2,f3,f4⟩:=hfg;rw [xh,xb] at f2 f4;rw [r3] at f2;refine ⟨rfl,?_,?_,?_,f2,hls, .inl hoth.2,fun h=>?_,fun _=>⟨hm,f1,f3,f4⟩⟩
   ·generalize ee b (cM b s)=z at hfn;cases hfn with
    | whole c fr p g1 g2 g3=>exact .inl g1
    | more d p g1 g2 g3=>exact .inr (.inl ⟨rfl,g1⟩)
   ·show ((ek b (cM b s)).hs.map _).sum=_;rw [hoth.1]; exact r5
   ·show inF _ _ (ek b (cM b s)).hs;rw [hoth.1]; exact r4
   ·have:(ek b (cM b s)).kind=2:=h;rw [hoth.2] at this; cases this
theorem oL {l:List Nd} (hl:dJ l) {w h:Int} (he:gu l w h=0):fK (cz l w h):=by
 obtain ⟨hw,hh,hc⟩:=ml he;obtain ⟨hisb,hn,hwo,hcs⟩:=rG hc;have hG:=vk hisb hn hw.1 hw.2;obtain ⟨h1,h2⟩:=Dp hl he;refine ⟨h1,HH hisb hn hw.1 hw.2,fun a ha=>(hG.at' a ha).h0,fun a ha=>(hG.at' a ha).y0,?_,h2,fun f hf=>(hG.flo f hf).y0⟩;show tX (qG l (ofR l w))=true;refine He hisb fun x hx=>?_;unfold ofR at hx;obtain ⟨a,ha,rfl⟩:=List.mem_map.1 hx;exact hG.nod a ha
open Go.Proofs Go.Proofs.Tryz
def ui (b:List Brk) (p:Pag) (s:Stt):Int :=
 if p.kind≠1∨s.done > 0 then -1 else if (bkG b s.atom.toNat).forced=3 then 0 else if (bkG b s.atom.toNat).forced=4 then 1 else -1
theorem Gq (b:List Brk) (hb:b.length≤1000000) (p:Pag) (s:Stt) (h0:0≤s.atom) (h1:s.atom < b.length):aV prog 77 [bM b,bN p,bo s] (vI (ui b p s)):=fun σ=>by
 refine e77.r (by simp [c77]) ?_;have hs:=aa.refl σ;obtain ⟨no,kd,hh,ff,ll⟩:=p;obtain ⟨a,d,fr⟩:=s;obtain ⟨k,rfl⟩:∃k:Nat,a=k:=⟨a.toNat,by simp only at h0; omega⟩
 have hk:k < b.length:=by simp only at h1; omega
 have hpc:(bN ⟨no,kd,hh,ff,ll⟩).cells=[vI no,vI kd,aQ hh,aQ ff,aQ ll]:=rfl;have hpp:(bN ⟨no,kd,hh,ff,ll⟩).stays=true:=rfl;have hsc:(bo ⟨k,d,fr⟩).cells=[vI k,vI d, .bool fr]:=rfl;have hss:(bo ⟨k,d,fr⟩).stays=true:=rfl;have hbs:=gr b;have hbc:=gw b;obtain ⟨⟨c,f,r⟩,hf⟩:∃x,b[k]=x:=⟨_,rfl⟩
 have hidx:∀σ,bF σ 3 (bM b) (.int .i64 k)=some (.rp (.agg [vI c,vI f,vI r])):=fun σ=>by rw [wI hk,hf,fC]
 have hg:bkG b ((k:Int)).toNat=⟨c,f,r⟩:=by simp [bkG,hk,hf]
 have hR:ui b ⟨no,kd,hh,ff,ll⟩ ⟨k,d,fr⟩=if kd≠1∨d > 0 then -1 else if f=3 then 0 else if f=4 then 1 else -1:=by simp only [ui,hg]
 generalize ui b ⟨no,kd,hh,ff,ll⟩ ⟨k,d,fr⟩=R at *;refine ad.mix 6 ?_;apply sR;simp only [go_sem,seval,c77,hpc,hpp,hsc,hss,hbs,hbc];refine ae fun i4 σ4 s4 a4 f4=>?_;have z4:=hs.none f4;replace hs:=hs.trans s4;simp only [go_sem,seval,hsc];refine ae fun i5 σ5 s5 a5 f5=>?_;have n45:=ao a4 f5;replace a4:=s5 _ _ a4;have z5:=hs.none f5;replace hs:=hs.trans s5;by_cases q1:kd=1
 ·have q1':(kd≠1)=False:=by simp [q1]
  by_cases q2:d > 0
  ·have q2':(d > 0)=True:=eq_true q2;simp only [go_sem,seval,a4,a5,q1',q2',hpc,hsc];rw [if_pos (.inr q2)] at hR;exact au.pure hs (congrArg vI hR.symm)
  ·have q2':(d > 0)=False:=eq_false q2;rw [if_neg (fun h=>h.elim (fun h=>h q1) q2)] at hR;by_cases q3:f=3
   ·have q3':(f=3)=True:=eq_true q3;simp only [go_sem,seval,a4,a5,q1',q2',q3',hidx,hpc,hsc,hbs,hbc];rw [if_pos q3] at hR;exact au.pure hs (congrArg vI hR.symm)
   ·have q3':(f=3)=False:=eq_false q3;rw [if_neg q3] at hR;by_cases q4:f=4
    ·have q4':(f=4)=True:=eq_true q4;simp only [go_sem,seval,a4,a5,q1',q2',q3',q4',hidx,hpc,hsc,hbs,hbc];rw [if_pos q4] at hR;exact au.pure hs (congrArg vI hR.symm)
    ·have q4':(f=4)=False:=eq_false q4;simp only [go_sem,seval,a4,a5,q1',q2',q3',q4',hidx,hpc,hsc,hbs,hbc];rw [if_neg q4] at hR;exact au.pure hs (congrArg vI hR.symm)
 ·have q1':(kd≠1)=True:=eq_true q1;simp only [go_sem,seval,a4,a5,q1',hpc,hsc];rw [if_pos (.inl q1)] at hR;exact au.pure hs (congrArg vI hR.symm)
open Go.Proofs Go.Proofs.Tryz
theorem vM {idl i1 i2 e1 e2:Nat} {n:Int} {x:V} {σ:af} {Post:Bool→af→Prop} (r1:inR .i64 (n+1)) (h1:σ i1=some ⟨e1,1,[vI n]⟩) (h2:σ i2=some ⟨e2,1,[.yl idl]⟩) (hne:i1≠i2)
 (hy:YC prog idl [x] (upd σ i1 ⟨e1,1,[vI (n+1)]⟩) Post):av prog 76 [x, .ptr i1 0 0, .ptr i2 0 0] σ fun r σ'=>∃b,r=.bool b∧Post b σ':=by
 refine e76.r (by simp [c76]) ?_;refine ad.mix 6 ?_;apply sR;simp only [go_sem,seval,c76,h1,r1,h2,ab hne,ab hne.symm];refine ad.lA (Post:=Post) rfl rfl rfl hy ?_;intro b σ' hb;apply sR;simp only [go_sem,seval];exact ⟨_,σ',aa.refl _,Wk.refl (aa.refl _) _,b,rfl,hb⟩
def htN (x:Nd):Int:=if x.kind=2 then x.line*x.words.length else if x.kind=3 then x.h else 0
def hts (l:List Nd):Nat→Int
 | 0=>0
 | i+1=>hts l i+htN (ndA l i)
theorem mX {x:Nd} (h:NOk x):0≤htN x:=by
 have h1:=h.line.1;have h2:=h.h.1;unfold htN;split
 ·exact Int.mul_nonneg h1 (by omega)
 ·split <;> omega
theorem yS {l:List Nd} (hb:isB l=true) {a:Nat}:∀n,a+n≤l.length→hts l a≤hts l (a+n)
 | 0,_=>Int.le_refl _
 | n+1,h=>by
   have ih:=yS (a:=a) hb n (by omega);have h1:NOk (ndA l (a+n)):=by rw [ij (show a+n < l.length by omega)]; exact fI hb _
   have h2:=mX h1;rw [←Nat.add_assoc,hts]; omega
def htA (l:List Atm):Int:=(l.map (·.h)).sum
theorem AV (l m:List Atm):htA (l++m)=htA l+htA m:=by unfold htA; rw [List.map_append,List.sum_append]
theorem wa {l:List Nd} {rs:List Rm} (hD:DOk l rs):∀(k a e:Nat) (s:WS) (C:Nat),e - a≤k→a≤e→e≤l.length→bT l a e=true→fa s C→htA s.atoms≤hts l a→htA (de l rs k a e s).atoms≤hts l e
 | 0,a,e,s,C,hk,hae,_,_,_,h=>by
   obtain rfl:a=e:=by omega
   exact h
 | k+1,a,e,s,C,hk,hae,he,hr,h,hs=>by
   rw [de];by_cases hlt:a < e
   ·rw [if_pos hlt];obtain ⟨h1,h2⟩:=cJ he hr (Nat.le_refl a) hlt;obtain ⟨h3,h4⟩:=dC he hr hlt;have hno:NOk (ndA l a):=by rw [ij (by omega)]; exact fI hD.isb (by omega)
    have step:∀t,(∃D,fa t D)→htA t.atoms≤hts l (a+(szI l a).toNat)→htA (de l rs k (a+(szI l a).toNat) e t).atoms≤hts l e:=fun t ⟨D,ht⟩ hA =>
     wa hD k _ e t D (by omega) (by omega) he h3 ht hA
    have hs1:htN (ndA l a)+htA s.atoms≤hts l (a+1):=by rw [hts]; omega
    have one:hts l (a+1)≤hts l (a+(szI l a).toNat):=by
     obtain ⟨m,hm⟩:∃m,(szI l a).toNat=1+m:=⟨(szI l a).toNat - 1,by omega⟩
     rw [hm,←Nat.add_assoc];exact yS hD.isb m (by omega)
    split
    ·rename_i k1;have hz:htN (ndA l a)=0:=by rw [htN,if_neg (by omega),if_neg (by omega)]
     have hI2:=fL hD k (a+1) (a+(szI l a).toNat) _ _ (by omega) (by omega) (by omega) h4 (eC h hno.st);have hS2:=wa hD k (a+1) (a+(szI l a).toNat) _ _ (by omega) (by omega) (by omega) h4 (eC h hno.st) (show htA s.atoms≤_ by omega);exact step _ ⟨_,ja hI2 hno.st⟩ hS2
    ·split
     ·rename_i k1 k2;refine step _ ⟨_,jX h hno a⟩ (Int.le_trans ?_ one);have hp:=kU a (ndA l a).line (da s.floats (ndA l a).words (ndA l a).space (ndA l a).line (dR rs a) (ndA l a).words.length 0 (s.pen.y+s.pen.m)) s;have hlen:=iS s.floats (ndA l a).words (ndA l a).space (ndA l a).line (dR rs a) (ndA l a).words.length 0 (s.pen.y+s.pen.m);have e:(s.text rs a (ndA l a)).atoms=_:=hp;rw [e,AV];generalize da s.floats (ndA l a).words (ndA l a).space (ndA l a).line (dR rs a) (ndA l a).words.length 0 (s.pen.y+s.pen.m)=L at *;have iG:htA (L.map (eB a (ndA l a).line))=(ndA l a).line*L.length:=by
       clear e hp hlen
       induction L with
       | nil=>simp [htA]
       | cons x L ih =>
         have:htA ((x::L).map (eB a (ndA l a).line))=(ndA l a).line+htA (L.map (eB a (ndA l a).line)):=rfl;rw [this,ih,List.length_cons,Int.natCast_add,Int.mul_add]; omega
      have hle:(ndA l a).line*(L.length:Int)≤(ndA l a).line*((ndA l a).words.length:Int):=Int.mul_le_mul_of_nonneg_left (by omega) hno.line.1;have hz:htN (ndA l a)=(ndA l a).line*((ndA l a).words.length:Int):=by rw [htN,if_pos k2]
      omega
     ·split
      ·rename_i k1 k2 k3;refine step _ ⟨_,kg h hno a⟩ (Int.le_trans ?_ one);have hz:htN (ndA l a)=(ndA l a).h:=by rw [htN,if_neg k2,if_pos k3]
       have e:(WS.mono l rs s a (ndA l a)).atoms=s.atoms++[⟨2,a,0,0,(dx s.floats (jS s.floats (ndA l a).w (ndA l a).h (dR rs a) (s.pen.y+s.pen.m)) (ndA l a).h (dR rs a)).a,jS s.floats (ndA l a).w (ndA l a).h (dR rs a) (s.pen.y+s.pen.m),(ndA l a).w,(ndA l a).h⟩]:=rfl;rw [e,AV];simp only [htA,List.map_cons,List.map_nil,List.sum_cons,List.sum_nil];simp only [htA] at hs1;omega
      ·have k4:(ndA l a).kind=4:=by rename_i g1 g2 g3; rcases hno.kind with h | h | h | h; exact absurd h g1; exact absurd h g2; exact absurd h g3; exact h
       have hz:=mX hno;exact step _ ⟨_,jm hD h (by omega) hno k4⟩ (show htA s.atoms≤_ by omega)
   ·rw [if_neg hlt];obtain rfl:a=e:=by omega
    exact hs
theorem Jb {l:List Nd} (hb:isB l=true) (hn:l.length≤2000) {w:Int} (h1:1≤w) (h2:w≤1099511627776):htA (cm l w).atoms≤hts l l.length:=by
 have hD:=rE hb hn h1 h2;have hr:bT l 0 l.length=true:=by simp only [isB,Ba] at hb; exact hb.2
 have hI:fa ⟨[],[],0,⟨0,0⟩⟩ 0:=⟨⟨by simp,by simp,by simp,by simp,by simp⟩,by simp,by simp⟩
 exact wa hD l.length 0 l.length ⟨[],[],0,⟨0,0⟩⟩ 0 (by omega) (by omega) (Nat.le_refl _) hr hI (by simp [htA,hts])
theorem xN {l:List Nd} (hb:isB l=true) {s:Sm} (hs:0≤s.heights∧s.heights≤1099511627777):∀i,i≤l.length→0≤(ga l s i).heights∧(ga l s i).heights≤1099511627777∧min (hts l i) 1099511627777≤(ga l s i).heights
 | 0,_=>⟨hs.1,hs.2,by simp only [hts,ga]; omega⟩
 | i+1,hi=>by
   obtain ⟨h1,h2,h3⟩:=xN hb hs i (by omega);have hno:NOk (ndA l i):=by rw [ij (by omega)]; exact fI hb (by omega)
   have hz:=mX hno;have hst:=hno.st;rw [ga,hts,List.getElem?_eq_getElem (by omega)];rw [ij (show i < l.length by omega)] at hno hz hst ⊢;simp only;unfold mR;split
   ·rename_i k1;have e:htN l[i]=0:=by rw [htN,if_neg (by omega),if_neg (by omega)]
    have g1:=hst.top.1; have g2:=hst.bottom.1; have g3:=hst.padTop.1; have g4:=hst.padBottom.1; have g5:=hst.head.1;simp only [jg];omega
   ·split
    ·rename_i k1 k2;have e:htN l[i]=l[i].line*l[i].words.length:=by rw [htN,if_pos k2]
     simp only;rw [qS ⟨h1,h2⟩ hno.line.1];omega
    ·rename_i k1 k2;have hh:=hno.h.1;have e:htN l[i]≤l[i].h:=by rw [htN,if_neg k2]; split <;> omega
     simp only [jg];omega
theorem zD {l:List Nd} (hb:isB l=true) (h:(gX l).1.heights≤1099511627776):hts l l.length≤(gX l).1.heights:=by
 unfold gX at h ⊢;rw [if_pos hb] at h ⊢;have:=(xN hb (s:=⟨0,0,l.length,0⟩) ⟨Int.le_refl _,(by decide:(0:Int)≤1099511627777)⟩ l.length (Nat.le_refl _)).2.2;simp only at h ⊢;omega
theorem A8 {cnt:Nat→Nat}:∀ {n a:Nat} {x:Int},x∈blk cnt a n→∃i:Nat,x=i∧a≤i∧i < a+n∧0 < cnt i
 | 0,a,x,h=>by rw [iV] at h; cases h
 | n+1,a,x,h=>by
   rw [gv] at h;rcases List.mem_append.1 h with h | h
   ·obtain ⟨h1,rfl⟩:=List.mem_replicate.1 h;exact ⟨a,rfl,Nat.le_refl _,by omega,by omega⟩
   ·obtain ⟨i,h1,h2,h3,h4⟩:=A8 h;exact ⟨i,h1,by omega,by omega,h4⟩
theorem FP {l:List Nd} (hb:isB l=true) (hn:l.length≤2000) {w:Int} (h1:1≤w) (h2:w≤1099511627776):∀a∈(cm l w).atoms,∃i:Nat,a.node=i∧i < l.length∧((ndA l i).kind=2∨(ndA l i).kind=3):=fun a ha=>by
 have hD:=rE hb hn h1 h2;have hr:bT l 0 l.length=true:=by simp only [isB,Ba] at hb; exact hb.2
 have hI:fa ⟨[],[],0,⟨0,0⟩⟩ 0:=⟨⟨by simp,by simp,by simp,by simp,by simp⟩,by simp,by simp⟩
 obtain ⟨-,cnt,hc,hco⟩:=qX hD l.length 0 l.length ⟨[],[],0,⟨0,0⟩⟩ 0 (by omega) (by omega) (Nat.le_refl _) hr hI (by simp);have hm:a.node∈(de l (gA l w) l.length 0 l.length ⟨[],[],0,⟨0,0⟩⟩).atoms.map (·.node):=List.mem_map.2 ⟨a,ha,rfl⟩;rw [hc] at hm;simp only [List.map_nil,List.nil_append] at hm;obtain ⟨i,e,_,h3,h4⟩:=A8 hm;refine ⟨i,e,by omega,?_⟩;have:=hco i (Nat.zero_le _) (by omega);unfold okN at this;split at this
 ·rename_i k; exact .inl k
 ·split at this
  ·rename_i k; exact .inr k
  ·have:=of_decide_eq_true this; omega
theorem least_le {l:List Nd} {h:Int}:∀ {n j:Nat},j < n→((ndA l j).kind=2∨(ndA l j).kind=3)→gJ l h n≤(wE l j h).body
 | 0,j,hj,_=>by omega
 | n+1,j,hj,hk=>by
   rw [gJ];by_cases e:j=n
   ·subst e; rw [if_pos hk]; omega
   ·have:=least_le (l:=l) (h:=h) (show j < n by omega) hk;split <;> omega
theorem uD {l:List Nd} {h:Int} (hh:1≤h):∀n,1≤gJ l h n
 | 0=>hh
 | n+1=>by
   have h1:=uD (l:=l) hh n;have h2:1≤(wE l n h).body:=pn hh _;rw [gJ]; split <;> omega
theorem G1 {l:List Nd} {h:Int} (hb:isB l=true) (h1:1≤h) (h2:h≤1099511627776):iB l h=true:=by
 unfold iB; rw [hb]; simp [h1,h2]
structure mn (b:Bk) (L:Int):Prop where
 pos:1≤L
 body:∀s:Stt,0≤s.atom→b.atoms≠[]→L≤(bB b s).body
 rest:ej b 0≤L*32768
 na:b.atoms.length≤10000
 nf:b.fls.length≤10000
theorem Gy {L:Int} (h1:1≤L):mulR L 32768≤L*32768:=by
 have e:dj 32768=32768:=by decide
 have e2:(1099511627776:Int).tdiv (max 32768 (-32768))=33554432:=by decide
 unfold mulR;rw [e,e2];have hc:dj L≤L∧0≤dj L:=by unfold dj; (repeat' split) <;> omega
 split
 ·rename_i h;obtain ⟨_,h | h⟩:=h
  ·split <;> omega
  ·exact absurd h (by have:(-1099511627776:Int).tdiv (max 32768 (-32768)) = -33554432:=by decide
                      rw [this]; omega)
 ·have:=hc.1;omega
theorem tw {l:List Nd} {w h:Int} (he:gu l w h=0):mn (cz l w h) (gx l h):=by
 have he0:=he;obtain ⟨hw,hh,hc⟩:=ml he;obtain ⟨hisb,hn,hwo,hcs⟩:=rG hc;have hG:=vk hisb hn hw.1 hw.2;have hl1:=hG.len;have hl2:=hG.flen;have hm:=G1 hisb hh.1 hh.2;have hL:gx l h=gJ l h l.length:=by rw [gx,if_pos hm]
 have hp:1≤gx l h:=by rw [hL]; exact uD hh.1 _
 refine ⟨hp,fun s h0 hne=>?_,?_,by show (cm l w).atoms.length≤_; omega,by show (cm l w).floats.length≤_; omega⟩
 ·unfold bB;rw [if_neg hne];have hlen:0 < (cz l w h).atoms.length:=List.length_pos_iff.2 hne;obtain ⟨k,hk⟩:∃k:Nat,min s.atom (((cz l w h).atoms.length:Int) - 1)=k:=⟨(min s.atom (((cz l w h).atoms.length:Int) - 1)).toNat,by omega⟩
  have hkl:k < (cz l w h).atoms.length:=by omega
  rw [hk,bj hkl];obtain ⟨i,e1,e2,e3⟩:=FP hisb hn hw.1 hw.2 _ (List.getElem_mem (show k < (cm l w).atoms.length from hkl));have e4:(cz l w h).atoms[k].node=i:=e1;rw [e4,qL,hL];have hm':iB (cz l w h).nodes (cz l w h).h=true:=hm;rw [if_pos ⟨hm',by omega,show ((i:Nat):Int) < (l.length:Nat) by omega⟩,Int.toNat_natCast];exact least_le e2 e3
 ·have h1:ej (cz l w h) 0=htA (cm l w).atoms:=rfl;have h2:=Jb hisb hn hw.1 hw.2;have h3:(gX l).1.heights≤1099511627776:=by
   unfold gy at hc;rw [if_pos hisb] at hc;split at hc
   ·cases hc
   ·omega
  have h4:=zD hisb h3;have h5:¬(gX l).1.heights > mulR (gx l h) 32768:=fun h=>by
   unfold gu at he0;rw [if_neg (fun g=>g ⟨hw,hh⟩),if_neg (fun g=>g hc),if_pos h] at he0;cases he0
  have h6:=Gy hp;omega
def nS (b:Bk) (L:Int) (s:Sta):Int:=((b.atoms.length:Int) - s.s.atom)+(ej b s.s.atom.toNat - s.s.done) / L
def mu2 (b:Bk) (L:Int) (s:Sta):Nat:=(nS b L s).toNat*(2*b.fls.length+3)+(if s.s.free=true then b.fls.length+1 else 0)+s.bK.length
theorem iO.bK {b:Bk} {x:Wx} {t:Sta} (h:iO b x t):t.bK.length≤b.fls.length:=by
 cases h with
 | whole c fr p h1 h2 h3=>exact h3
 | more d p h1 h2 h3=>exact h3
theorem zk {b:Bk} (hb:fK b) {L:Int} (hL:mn b L) {s:Sta} (he:¬fM b s):mu2 b L (bE b s).2 < mu2 b L s:=by
 have hmay:iC b s:=Decidable.byContradiction fun h=>he (.inl h);have hnot:¬(s.s.atom=b.atoms.length∧s.s.free=false∧s.bK=[]):=fun h=>he (.inr h);have hat:0≤s.s.atom:=by rcases hmay.2 with h | h; exact h.1.1; omega
 have hpos:=hb.pos;have hg:=lZ hb he;have hcut:=hg.cut;revert hcut;unfold bE;split
 ·rename_i h0;intro _;obtain ⟨h1,h2⟩:=h0;have hr:∀a,ej b a=0:=fun a=>by unfold ej; rw [h1]; simp
  have hd:s.s.done=0∧s.s.atom=0:=by
   rcases hmay.2 with h | h
   ·have:=h.1; rw [h1] at this; simp at this; omega
   ·rw [h1] at h; simp at h; omega
  have hdl:(b.fls.dropWhile (j4 (bH b s.s .aC).body)).length≤b.fls.length:=(List.dropWhile_sublist _).length_le;simp only [mu2,nS,j6,hr,h2,hd,h1,if_true];simp;omega
 ·split
  ·rename_i hf;intro _;unfold mu2 nS;simp only;cases hp:s.bK with
   | cons f r =>
     have:=oZ (body:=(bB b s.s).body) f r;simp only [List.length_cons] at this;cases s.s.free <;> by_cases h:s.s.atom < b.atoms.length <;> simp [h] <;> omega
   | nil =>
     unfold oD at hf;rw [hp] at hf;simp only [cQ] at hf;have ha:s.s.atom=b.atoms.length:=by
      rcases hf with h | h | h
      ·exact h
      ·exact absurd rfl h
      ·omega
     have hfr:s.s.free=true:=by
      cases h:s.s.free
      ·exact absurd ⟨ha,h,hp⟩ hnot
      ·rfl
     simp [cQ,ha,hfr]
  ·rename_i hf;have hm:dp b.atoms s.s:=hmay.2.resolve_right fun h=>hf (.inl h.1);have hne:b.atoms≠[]:=fun h=>by have:=hm.1; rw [h] at this; simp at this; omega
   have hbd:=hL.body s.s hat hne;have hL1:=hL.pos;have hpd:=(pB (x:=cM b s) hb.toBkOk hm hpos (gN hb.toBkFull s.s hat)).bK;intro hcut;have hkind:(lx (ek b (cM b s))).kind=1:=(la b (cM b s)).2;obtain ⟨-, -, -,hcg⟩:=hcut hkind;obtain ⟨⟨h0,h1⟩,h2,h3⟩:=hm;obtain ⟨k,hk⟩:∃k:Nat,s.s.atom=k:=⟨s.s.atom.toNat,by omega⟩
   have hkl:k < b.atoms.length:=by omega
   have hph:=hpos _ (List.getElem_mem hkl);have hst:=sD hkl;have hnn:=nU hpos (k+1);have hlf:ie b.atoms s.s=b.atoms[k].h - s.s.done:=by rw [ie,if_pos ⟨⟨h0,h1⟩,h2,h3⟩,hk,bj hkl]
   rw [hk,bj hkl] at h3;have key:∀t:Sta,t.bK.length≤b.fls.length→0≤nS b L t→nS b L t+1≤nS b L s→mu2 b L t < mu2 b L s:=fun t hp g1 g2=>by
    unfold mu2;have hlt:(nS b L t).toNat+1≤(nS b L s).toNat:=by omega
    have hmul:((nS b L t).toNat+1)*(2*b.fls.length+3)≤(nS b L s).toNat*(2*b.fls.length+3):=Nat.mul_le_mul_right _ hlt;rw [Nat.add_mul,Nat.one_mul] at hmul;have:(if t.s.free=true then b.fls.length+1 else 0)≤b.fls.length+1:=by split <;> omega
    omega
   refine key _ hpd ?_ ?_
   all_goals
    change rj b s.s (ee b (cM b s)).s _ _ _ at hcg;generalize ee b (cM b s)=z at *;unfold nS;simp only;cases hcg with
    | more q1 q2 q3 q4 q5 =>
      rw [q1,q5,hk,Int.toNat_natCast];rw [hlf] at q3;have e1:0≤(ej b k - (s.s.done+(bB b s.s).body)) / L:=Int.ediv_nonneg (by omega) (by omega);have e2:(ej b k - (s.s.done+(bB b s.s).body)) / L≤(ej b k - s.s.done - L) / L:=Int.ediv_le_ediv (by omega) (by omega);have e3:(ej b k - s.s.done - L) / L=(ej b k - s.s.done) / L - 1:=by
       have:=Int.add_mul_ediv_right (ej b k - s.s.done) (-1) (show L≠0 by omega);rw [show ej b k - s.s.done - L=ej b k - s.s.done + -1*L by omega,this]; omega
      omega
    | whole c r y q1 q2 q3 q4 q5 q6 q7 q8 q9 =>
      rw [hk] at q2;simp only [q1,hk,Int.toNat_natCast];have e0:=ze hpos (k+1) (c - (k+1));rw [show k+1+(c - (k+1))=c by omega] at e0;have e1:0≤(ej b c - 0) / L:=Int.ediv_nonneg (by have:=nU hpos c; omega) (by omega);have e2:(ej b c - 0) / L≤(ej b k - s.s.done) / L:=Int.ediv_le_ediv (by omega) (by omega);omega
theorem uu {b:Bk} {L:Int} (hL:mn b L):mu2 b L ⟨⟨0,0,true⟩,[]⟩≤1000000000:=by
 have h1:=hL.rest;have h2:=hL.na;have h3:=hL.nf;have h4:=hL.pos;have e:(ej b 0 - 0) / L≤32768:=by
  have:(ej b 0 - 0) / L≤(32768*L) / L:=Int.ediv_le_ediv (by omega) (by omega);rw [Int.mul_ediv_cancel _ (by omega)] at this;exact this
 have hw:(nS b L ⟨⟨0,0,true⟩,[]⟩).toNat≤42768:=by
  unfold nS;simp only;have:(0:Int).toNat=0:=rfl;rw [this];omega
 unfold mu2;simp only [if_true,List.length_nil];have:(nS b L ⟨⟨0,0,true⟩,[]⟩).toNat*(2*b.fls.length+3)≤42768*20003:=Nat.mul_le_mul hw (by omega);omega
open Go.Proofs Go.Proofs.Tryz
def j8 (b:Bk) (s:Sta):Int:=ui b.brks (bE b s).1 s.s
def shK (b:Bk):Nat→Sta→Int→List (Option Pag)
 | 0,_,_=>[]
 | f+1,s,no=>if fM b s then [] else
   if 0≤j8 b s∧(no+1) % 2≠j8 b s then none::some (bE b s).1::shK b f (bE b s).2 (no+2) else some (bE b s).1::shK b f (bE b s).2 (no+1)
def shV:Option Pag→V
 | none=>.iface 118 (.agg [])
 | some p=>.iface 116 (bN p)
structure ShJ (idl e2 i2 i4 i6:Nat) (no:Int) (s:Sta) (σJ σ:af):Prop where
 sub:aa σJ σ
 y:σ i2=some ⟨e2,1,[.yl idl]⟩
 n:σ i4=some ⟨3,1,[vI no]⟩
 st:σ i6=some ⟨27,4,[cI s]⟩
 n2:σJ i2=none
 n4:σJ i4=none
 n6:σJ i6=none
 e24:i2≠i4
 e26:i2≠i6
 e46:i4≠i6
theorem ShJ.mono {idl e2 i2 i4 i6:Nat} {no:Int} {s:Sta} {σJ σ τ:af} (h:ShJ idl e2 i2 i4 i6 no s σJ σ) (hs:aa σ τ):ShJ idl e2 i2 i4 i6 no s σJ τ :=
 ⟨h.sub.trans hs,hs _ _ h.y,hs _ _ h.n,hs _ _ h.st,h.n2,h.n4,h.n6,h.e24,h.e26,h.e46⟩
theorem ShJ.given {idl e2 i2 i4 i6:Nat} {no:Int} {s:Sta} {σJ σ σJ' σ':af} (h:ShJ idl e2 i2 i4 i6 no s σJ σ) (hb:bc σJ (upd σ i4 ⟨3,1,[vI (no+1)]⟩) σJ' σ'):ShJ idl e2 i2 i4 i6 (no+1) s σJ' σ':=by
 obtain ⟨a1,a2⟩:=hb.2 i2 _ h.n2 (by rw [ab h.e24]; exact h.y);obtain ⟨b1,b2⟩:=hb.2 i4 _ h.n4 ag;obtain ⟨c1,c2⟩:=hb.2 i6 _ h.n6 (by rw [ab h.e46.symm]; exact h.st);exact ⟨hb.1,a1,b1,c1,a2,b2,c2,h.e24,h.e26,h.e46⟩
theorem ShJ.next {idl e2 i2 i4 i6:Nat} {no:Int} {s:Sta} {σJ σ σ10:af} {i10:Nat} {o:Ob} (h:ShJ idl e2 i2 i4 i6 no s σJ σ) (hs:aa (upd σ i6 o) σ10) (hf:upd σ i6 o i10=none) (t:Sta) :
 ShJ idl e2 i2 i4 i10 no t σJ (upd σ10 i10 ⟨27,4,[cI t]⟩):=by
 have h1:=(h.sub.aD (o:=o) h.n6)
 have y':=hs _ _ ((ab h.e26 (o:=o)).trans h.y);have n':=hs _ _ ((ab h.e46 (o:=o)).trans h.n);have k2:i2≠i10:=fun e=>by rw [←e,ab h.e26,h.y] at hf; cases hf
 have k4:i4≠i10:=fun e=>by rw [←e,ab h.e46,h.n] at hf; cases hf
 have nn:σJ i10=none:=h1.none hf;exact ⟨(h1.trans hs).aD nn,(ab k2).trans y',(ab k4).trans n',ag,h.n2,h.n4,nn,h.e24,k2,k4⟩
theorem Cg {b:Bk} (hb:fK b) {s:Sta} (hp:s.bK.length≤1000000) (he:¬fM b s):(bE b s).2.bK.length≤1000000:=by
 have hmay:iC b s:=Decidable.byContradiction fun h=>he (.inl h);have hfl:=hb.flen;have hat:0≤s.s.atom:=by rcases hmay.2 with h | h; exact h.1.1; omega
 unfold bE;split
 ·have:(b.fls.dropWhile (j4 (bH b s.s .aC).body)).length≤b.fls.length:=(List.dropWhile_sublist _).length_le;show (b.fls.dropWhile (j4 (bH b s.s .aC).body)).length≤_;omega
 ·split
  ·show (cQ (bB b s.s).body s.bK 0).2.1.length≤_;cases hpp:s.bK with
   | cons f r=>have:=oZ (body:=(bB b s.s).body) f r; rw [hpp] at hp; simp only [List.length_cons] at this hp; omega
   | nil=>simp [cQ]
  ·rename_i hf;have hm:dp b.atoms s.s:=hmay.2.resolve_right fun h=>hf (.inl h.1);have:=(pB (x:=cM b s) hb.toBkOk hm hb.pos (gN hb.toBkFull s.s hat)).bK;show (ee b (cM b s)).bK.length≤_;omega
theorem Df (b:Bk) (hb:BkFull b):aV prog 65 [.rp (bI b)] (bM b.brks):=fun σ =>
 (B7 b hb σ).GG fun _ _ h=>h.2.CZ h.1 rfl
theorem wR (b:Bk) (hb:fK b) {L:Int} (hL:mn b L):Iter prog 75 [.rp (.rp (bI b))] ((shK b 1000000001 ⟨⟨0,0,true⟩,[]⟩ 0).map fun x=>[shV x]):=by
 refine ⟨e75.c,fun idl J Jx σ0 hy hJ=>?_⟩;refine (e75.r (by simp [c75]) ?_).2;have hs:=aa.refl σ0;have hmu:=uu hL;have hbl:=hb.brk;have hal:=hb.len;have hfl:=hb.flen;have hsc:∀s:Sta,(cI s).cells=[vI s.s.atom,vI s.s.done, .bool s.s.free,aK s.bK]:=fun _=>rfl;have hss:∀s:Sta,(cI s).stays=true:=fun _=>rfl;have hpc:∀p:Pag,(bN p).cells=[vI p.no,vI p.kind,aQ p.hs,aQ p.fs,aQ p.ls]:=fun _=>rfl;have hps:∀p:Pag,(bN p).stays=true:=fun _=>rfl;have ldB:∀σ:af,bO σ false 1 (.rp (.rp (bI b)))=some (.rp (bI b)):=fun σ=>rfl;generalize hXS:(shK b 1000000001 ⟨⟨0,0,true⟩,[]⟩ 0).map (fun x=>[shV x])=XS at *;refine ad.mix 8 ?_;apply sR;simp only [go_sem,seval,c75,ldB];refine ae fun i2 σ2 s2 a2 f2=>?_;have z2:=hs.none f2;replace hs:=hs.trans s2;simp only [go_sem,seval,ldB];refine ad.az rfl rfl rfl (Df b hb.toBkFull _) ?_;apply sR;simp only [go_sem,seval,ldB,gw,gr];refine ae fun i4 σ4 s4 a4 f4=>?_;have n24:=ao a2 f4;replace a2:=s4 _ _ a2;have z4:=hs.none f4;replace hs:=hs.trans s4;simp only [go_sem,seval,a4,a2];generalize hq4:upd _ i4 _=τ4;replace a4:=(congrFun hq4 i4).symm.trans ag;replace a2:=((congrFun hq4 i2).symm.trans (ab n24)).trans a2;replace hs:=Eq.subst (motive:=aa _) hq4 (hs.aD z4);clear hq4;apply sR;simp only [go_sem,seval,ldB];refine ad.az rfl rfl rfl (Dc b hb.toBkFull _) ?_;apply sR;simp only [go_sem,seval];refine ae fun i6 σ6 s6 a6 f6=>?_;have n46:=ao a4 f6;replace a4:=s6 _ _ a4;have n26:=ao a2 f6;replace a2:=s6 _ _ a2;have z6:=hs.none f6;replace hs:=hs.trans s6;simp only [go_sem,seval,a6,a4,a2,hsc,hss];generalize hq6:upd _ i6 _=τ6;replace a6:=(congrFun hq6 i6).symm.trans ag;replace a4:=((congrFun hq6 i4).symm.trans (ab n46)).trans a4;replace a2:=((congrFun hq6 i2).symm.trans (ab n26)).trans a2;replace hs:=Eq.subst (motive:=aa _) hq6 (hs.aD z6);clear hq6;apply sR;simp only [go_sem,seval];have hJ0:ShJ idl 157 i2 i4 i6 0 ⟨⟨0,0,true⟩,[]⟩ σ0 τ6:=⟨hs,a2,a4,a6,z2,z4,z6,n24,n26,n46⟩
 clear hs a2 a4 a6;generalize τ6=τ at *;refine ad.loop (fun m st=>∃(s:Sta) (no:Int) (pre:List (List V)) (σJ:af) (i6':Nat),mu2 b L s < m∧XS=pre++(shK b m s no).map (fun x=>[shV x])∧J pre σJ ∧
  ShJ idl 157 i2 i4 i6' no s σJ st.σ∧st.s 0=.yl idl∧st.s 1=.rp (.rp (bI b))∧st.s 3=bM b.brks∧st.s 4=.ptr i4 0 0∧st.s 5=.fn 76 [.ptr i4 0 0, .ptr i2 0 0]∧st.s 6=.ptr i6' 0 0 ∧
  0≤no∧no+2*m≤2000000002∧s.bK.length≤1000000) 1000000001 ?_ ?_
 ·exact ⟨⟨⟨0,0,true⟩,[]⟩,0,[],σ0,i6,by omega,by rw [List.nil_append,hXS],hJ,hJ0,rfl,rfl,rfl,rfl,rfl,rfl,by omega,by omega,by simp⟩
 clear hJ0 hJ;rintro m ⟨S,τ⟩ ⟨s,no,pre,σJ,i6,hm,hx,hJj,hJs,t0,t1,t3,t4,t5,t6,hn0,hn1,hp⟩;simp only at hJs t0 t1 t3 t4 t5 t6;obtain ⟨f,rfl⟩:∃f,m=f+1:=⟨m - 1,by omega⟩
 have r6:=hJs.st;refine ad.mix 8 ?_;apply sR;simp only [go_sem,seval,t0,t1,t3,t4,t5,t6,ldB,r6];refine ad.az rfl rfl rfl (BG b hb.toBkFull s hp _) ?_;by_cases he:fM b s
 ·rw [decide_eq_true he];apply sR;simp only [go_sem,seval];rw [shK,if_pos he,List.map_nil,List.append_nil] at hx;subst hx;exact ⟨_,σJ,hJs.sub,Wk.refl hJs.sub _, .inl hJj⟩
 rw [decide_eq_false he];apply sR;simp only [go_sem,seval,t0,t1,t3,t4,t5,t6,ldB,r6];refine ad.az rfl rfl rfl (GC b hb.toBkFull hb.fh s hp _) ?_;rw [if_neg he];apply sR;simp only [go_sem,seval,t0,t1,t3,t4,t5,t6,ldB,r6];have hs:=aa.refl τ;refine ae fun i7 σ7 s7 a7 f7=>?_;have z7:=hs.none f7;replace hs:=hs.trans s7;simp only [go_sem,seval];refine ae fun i8 σ8 s8 a8 f8=>?_;have n78:=ao a7 f8;replace a7:=s8 _ _ a7;have z8:=hs.none f8;replace hs:=hs.trans s8;simp only [go_sem,seval,a7,a8,hpc,hps];generalize hq7:upd _ i7 _=τ7;replace a7:=(congrFun hq7 i7).symm.trans ag;replace a8:=((congrFun hq7 i8).symm.trans (ab n78.symm)).trans a8;replace hs:=Eq.subst (motive:=aa _) hq7 (hs.aD z7);clear hq7;simp only [go_sem,seval,a7,a8,hsc,hss];generalize hq8:upd _ i8 _=τ8;replace a8:=(congrFun hq8 i8).symm.trans ag;replace a7:=((congrFun hq8 i7).symm.trans (ab n78)).trans a7;replace hs:=Eq.subst (motive:=aa _) hq8 (hs.aD z8);clear hq8;have hJ8:=hJs.mono hs;have r6':=hJ8.st;have r4:=hJ8.n;have hmay:iC b s:=Decidable.byContradiction fun h=>he (.inl h);have hat:0≤s.s.atom∧s.s.atom < b.brks.length:=by
  rcases hmay.2 with h | h
  ·have:=h.1; omega
  ·omega
 simp only [go_sem,seval,t0,t1,t3,t4,t5,t6,ldB,r6',a7,a8,hpc,hps,hsc,hss,gr,gw];refine ad.az rfl rfl rfl (Gq b.brks (by omega) (bE b s).1 s.s hat.1 hat.2 _) ?_;rw [show ui b.brks (bE b s).1 s.s=j8 b s from rfl];have hmn:=zk hb hL he;have hpn:=Cg hb hp he;have r5:inR .i64 (no+1):=ak (by omega) (by omega);have m7:σJ i7=none:=hJs.sub.none z7;have m8:σJ i8=none:=hJs.sub.none z8;have d47:i7≠i4:=fun e=>by have:=hJs.n; rw [←e,z7] at this; cases this
 have d48:i8≠i4:=fun e=>by have:=hJs.n; rw [←e,z8] at this; cases this
 have htm:(no+1).tmod 2=(no+1) % 2:=Int.tmod_eq_emod_of_nonneg (by omega);by_cases hw:0≤j8 b s∧(no+1) % 2≠j8 b s
 ·rw [shK,if_neg he,if_pos hw] at hx;have q1:(j8 b s≥0)=True:=eq_true hw.1;have q2:((no+1).tmod 2≠j8 b s)=True:=eq_true (by rw [htm]; exact hw.2);generalize j8 b s=W at *;apply sR;simp only [go_sem,seval,t0,t1,t3,t4,t5,t6,r4,r5,q1,q2];refine ad.call rfl rfl rfl (vM (x:=.iface 118 (.agg [])) r5 hJ8.n hJ8.y hJ8.e24.symm (hy pre _ _ σJ _ hx hJj (hJ8.sub.aD hJ8.n4))) ?_;rintro _ σ8b ⟨b',rfl,σJ8,hbs,hbb⟩;have hJ8b:=hJ8.given hbs;obtain ⟨a7b,k7⟩:=hbs.2 i7 _ m7 (by rw [ab d47]; exact a7);obtain ⟨a8b,k8⟩:=hbs.2 i8 _ m8 (by rw [ab d48]; exact a8);have r55:inR .i64 (no+1+1):=ak (by omega) (by omega);have hlast:XS=(pre++[[shV none]])++[.iface 116 (bN (bE b s).1)]::(shK b f (bE b s).2 (no+1+1)).map (fun x=>[shV x]):=by
   rw [hx,show no+2=no+1+1 by omega]; simp [shV]
  rcases hbb with ⟨rfl,hbb⟩ | ⟨rfl,hbb⟩
  ·apply sR;simp only [go_sem,seval,t0,t1,t3,t4,t5,t6,a7b,hpc,hps];refine ad.call rfl rfl rfl (vM (x:=.iface 116 (bN (bE b s).1)) r55 hJ8b.n hJ8b.y hJ8b.e24.symm (hy (pre++[[shV none]]) _ _ σJ8 _ hlast hbb (hJ8b.sub.aD hJ8b.n4))) ?_;rintro _ σ9 ⟨b',rfl,σJ9,hbs,hbb⟩;have hJ9:=hJ8b.given hbs;obtain ⟨a8',k8⟩:=hbs.2 i8 _ k8 (by rw [ab d48]; exact a8b);have r9:=hJ9.st;rcases hbb with ⟨rfl,hbb⟩ | ⟨rfl,hbb⟩
   ·apply sR;simp only [go_sem,seval,t0,t1,t3,t4,t5,t6,a8',r9,hsc,hss];refine ae fun i10 σ10 s10 a10 f10=>?_;simp only [go_sem,seval,a10,hsc,hss];refine ⟨f,by omega,(bE b s).2,(no+1)+1,(pre++[[shV none]])++[[shV (some (bE b s).1)]],σJ9,i10,by omega,?_,hbb,hJ9.next s10 f10 _,?_⟩
    ·rw [hlast]; simp [shV]
    ·simp [t0,t1,t3,t4,t5];exact ⟨by omega,by omega,hpn⟩
   ·apply sR;simp only [go_sem,seval];refine ⟨_,σJ9,hJ9.sub,Wk.refl hJ9.sub _, .inr ⟨_,?_,hbb⟩⟩;rw [hlast];exact ⟨(shK b f (bE b s).2 ((no+1)+1)).map fun x=>[shV x],by simp⟩
  ·apply sR;simp only [go_sem,seval];refine ⟨_,σJ8,hJ8b.sub,Wk.refl hJ8b.sub _, .inr ⟨_,?_,hbb⟩⟩;rw [hx];exact ⟨(some (bE b s).1::shK b f (bE b s).2 (no+2)).map fun x=>[shV x],by simp [shV]⟩
 ·rw [shK,if_neg he,if_neg hw] at hx;have hq:(j8 b s≥0)=False∨(j8 b s≥0)=True∧((no+1).tmod 2≠j8 b s)=False:=by
   by_cases h:j8 b s≥0
   ·exact .inr ⟨eq_true h,eq_false (fun g=>hw ⟨h,by rw [←htm]; exact g⟩)⟩
   ·exact .inl (eq_false h)
  generalize j8 b s=W at *;have hlast:XS=pre++[.iface 116 (bN (bE b s).1)]::(shK b f (bE b s).2 (no+1)).map (fun x=>[shV x]):=hx;rcases hq with q1 | ⟨q1,q2⟩
  ·apply sR;simp only [go_sem,seval,t0,t1,t3,t4,t5,t6,r4,r5,a7,hpc,hps,q1];refine ad.call rfl rfl rfl (vM (x:=.iface 116 (bN (bE b s).1)) r5 hJ8.n hJ8.y hJ8.e24.symm (hy pre _ _ σJ _ hlast hJj (hJ8.sub.aD hJ8.n4))) ?_;rintro _ σ9 ⟨b',rfl,σJ9,hbs,hbb⟩;have hJ9:=hJ8.given hbs;obtain ⟨a8',k8⟩:=hbs.2 i8 _ m8 (by rw [ab d48]; exact a8);have r9:=hJ9.st;rcases hbb with ⟨rfl,hbb⟩ | ⟨rfl,hbb⟩
   ·apply sR;simp only [go_sem,seval,t0,t1,t3,t4,t5,t6,a8',r9,hsc,hss];refine ae fun i10 σ10 s10 a10 f10=>?_;simp only [go_sem,seval,a10,hsc,hss];refine ⟨f,by omega,(bE b s).2,no+1,pre++[[shV (some (bE b s).1)]],σJ9,i10,by omega,?_,hbb,hJ9.next s10 f10 _,?_⟩
    ·rw [hlast]; simp [shV]
    ·simp [t0,t1,t3,t4,t5];exact ⟨by omega,by omega,hpn⟩
   ·apply sR;simp only [go_sem,seval];refine ⟨_,σJ9,hJ9.sub,Wk.refl hJ9.sub _, .inr ⟨_,?_,hbb⟩⟩;rw [hlast];exact ⟨(shK b f (bE b s).2 (no+1)).map fun x=>[shV x],by simp⟩
  ·apply sR;simp only [go_sem,seval,t0,t1,t3,t4,t5,t6,r4,r5,a7,hpc,hps,q1,q2];refine ad.call rfl rfl rfl (vM (x:=.iface 116 (bN (bE b s).1)) r5 hJ8.n hJ8.y hJ8.e24.symm (hy pre _ _ σJ _ hlast hJj (hJ8.sub.aD hJ8.n4))) ?_;rintro _ σ9 ⟨b',rfl,σJ9,hbs,hbb⟩;have hJ9:=hJ8.given hbs;obtain ⟨a8',k8⟩:=hbs.2 i8 _ m8 (by rw [ab d48]; exact a8);have r9:=hJ9.st;rcases hbb with ⟨rfl,hbb⟩ | ⟨rfl,hbb⟩
   ·apply sR;simp only [go_sem,seval,t0,t1,t3,t4,t5,t6,a8',r9,hsc,hss];refine ae fun i10 σ10 s10 a10 f10=>?_;simp only [go_sem,seval,a10,hsc,hss];refine ⟨f,by omega,(bE b s).2,no+1,pre++[[shV (some (bE b s).1)]],σJ9,i10,by omega,?_,hbb,hJ9.next s10 f10 _,?_⟩
    ·rw [hlast]; simp [shV]
    ·simp [t0,t1,t3,t4,t5];exact ⟨by omega,by omega,hpn⟩
   ·apply sR;simp only [go_sem,seval];refine ⟨_,σJ9,hJ9.sub,Wk.refl hJ9.sub _, .inr ⟨_,?_,hbb⟩⟩;rw [hlast];exact ⟨(shK b f (bE b s).2 (no+1)).map fun x=>[shV x],by simp⟩
variable {P:Program} {n:Nat}
theorem Ap {o:Op} {xs:List VX} (h:cop P n o=.more .oM xs):∃t,o=.alloc t∧mE P t=true:=by
 cases o
 case alloc t =>
  simp only [cop] at h;split at h
  ·cases h
  ·split at h
   ·rename_i hn; exact ⟨t,rfl,hn⟩
   ·cases h
 case call c =>
  obtain ⟨callee,args,argTypes⟩:=c;cases callee
  case builtin b=>cases b <;> simp only [cop] at h <;> (repeat' split at h) <;> cases h
  all_goals (simp only [cop] at h; cases h)
 case unOp op t x=>cases op <;> simp only [cop] at h <;> cases h
 case makeFunc f a b=>cases f <;> simp only [cop] at h <;> (repeat' split at h) <;> cases h
 case binOp op t x y yt=>cases op <;> simp only [cop,ck] at h <;> (repeat' split at h) <;> cases h
 all_goals (simp only [cop] at h; (repeat' split at h) <;> cases h)
theorem An {o:Op} {xs:List VX} (h:cop P n o=.more .pA xs):∃t x y,o=.store t x y∧mE P t=true∧xs=[cx n x,cx n y]:=by
 cases o
 case store t x y =>
  simp only [cop] at h;split at h
  ·cases h
  ·split at h
   ·rename_i hn;simp only [VOp.more.injEq,true_and] at h;exact ⟨t,x,y,rfl,hn,h.symm⟩
   ·cases h
 case call c =>
  obtain ⟨callee,args,argTypes⟩:=c;cases callee
  case builtin b=>cases b <;> simp only [cop] at h <;> (repeat' split at h) <;> cases h
  all_goals (simp only [cop] at h; cases h)
 case unOp op t x=>cases op <;> simp only [cop] at h <;> cases h
 case makeFunc f a b=>cases f <;> simp only [cop] at h <;> (repeat' split at h) <;> cases h
 case binOp op t x y yt=>cases op <;> simp only [cop,ck] at h <;> (repeat' split at h) <;> cases h
 all_goals (simp only [cop] at h; (repeat' split at h) <;> cases h)
theorem ad.oM {st:St} {Q:St→Prop} {k:List It} {i:aG} {l:List aG} (hw:bl st.s i.g=some true) (ho:i.op=.more .oM [])
 (h:ad P n (.ops l::k) ⟨aW st.s i.dst (.rp (.agg [])),st.σ⟩ Q):ad P n (.ops (i::l)::k) st Q:=by
 refine ad.ins (by rw [ho]; simp) hw fun F hn μ a w o all hi hs next Q' hnext=>?_
 subst hn;obtain ⟨hop,hd⟩:=dP hi;rw [ho] at hop;obtain ⟨t,g1,hn⟩:=Ap hop;have hrun:(execOp a.eval o).run P w=.ok (.value (.pointer (some ⟨w.heap.size,0,none⟩))) (w.alloc (.cells #[] t)):=by
  unfold execOp;rw [g1];simp [Instr.alloc,py hn,newVar,newRow,Value.cells]
 unfold Oper.wp;rw [hrun];obtain ⟨h1,hk⟩:=hs.sat.more (.cells #[] t);refine hnext _ _ _ ⟨μ,?_⟩ h;rw [←hd];exact hs.step h1 (cD.refl μ) hk (by simp) (by simp only [Rep]; exact ⟨w.heap.size,0,rfl,by simp, .inl rfl,by simp [br,aP]⟩)
theorem ad.pA {st:St} {Q:St→Prop} {k:List It} {i:aG} {l:List aG} {xa xv:VX} {u:V} (hw:bl st.s i.g=some true) (ho:i.op=.more .pA [xa,xv]) (ha:xa.ev st.s=.rp u) (hv:xv.ev st.s=.agg [])
 (h:ad P n (.ops l::k) ⟨aW st.s i.dst (.tup []),st.σ⟩ Q):ad P n (.ops (i::l)::k) st Q:=by
 refine ad.ins (by rw [ho]; simp) hw fun F hn μ a w o all hi hs next Q' hnext=>?_
 subst hn;obtain ⟨hop,hd⟩:=dP hi;rw [ho] at hop;obtain ⟨t,x,y,g1,hn,g2⟩:=An hop;simp only [List.cons.injEq,and_true] at g2;obtain ⟨rfl,rfl⟩:=g2;have R1:=cg hs x;have R2:=cg hs y;rw [ha] at R1;rw [hv] at R2;simp only [Rep] at R1 R2;obtain ⟨b,off,e1,_⟩:=R1;obtain ⟨vals,e2,e3,_⟩:=R2;simp only [ar] at e3;subst e3;obtain ⟨ti,_,hti,hsz,_⟩:=l8 hn;have hrun:(execOp a.eval o).run P w=.ok .skip w:=by
  unfold execOp;rw [g1];simp [Instr.storeAt,Instr.sureAddr,e1,e2,storeVar,sizeOf,typeInfo,hti,hsz,Value.cells,storeCells]
 unfold Oper.wp;rw [hrun];refine hnext _ _ _ ⟨μ,?_⟩ h;rw [←hd];exact hs.pure (by simp [Rep,ar,undef])
open Go.Proofs Go.Proofs.Tryz
theorem DH (b:Bk):aV prog 48 [.rp (bI b)] (.fn 75 [.rp (.rp (bI b))]):=fun σ=>by
 refine e48.r (by simp [c48]) ?_;refine ad.mix 4 ?_;apply sR;simp only [go_sem,seval,c48];refine ae fun id1 σ1 s1 a1 f1=>?_;simp only [go_sem,seval];exact ⟨_,σ,s1,Wk.fn (vs':=[.rp (.rp (bI b))]) ⟨Wk.ptr s1 a1 f1,trivial⟩,rfl,rfl⟩
def pgN (k:Nat) (x:Option Pag):Pag:=match x with
 | none=>⟨(k:Int)+1,3,[],[],[]⟩
 | some p=>{ p with no:=(k:Int)+1 }
def zT (L:List (Option Pag)):List Pag:=(List.range L.length).map fun k=>pgN k (L.getD k none)
def pgV (k:Nat) (x:Option Pag):V:=match x with
 | none=>.agg [vI ((k:Int)+1),vI 3, .aC, .aC, .aC]
 | some p=>bN { p with no:=(k:Int)+1 }
def oP (L:List (Option Pag)):List V:=(List.range L.length).map fun k=>pgV k (L.getD k none)
theorem CP (L:List (Option Pag)) (x:Option Pag):oP (L++[x])=oP L++[pgV L.length x]:=by
 unfold oP;rw [List.length_append,List.length_singleton,List.range_succ,List.map_append];congr 1
 ·refine List.map_congr_left fun k hk=>?_;have:=List.mem_range.1 hk;rw [List.getD_eq_getElem?_getD,List.getD_eq_getElem?_getD,List.getElem?_append_left this]
 ·simp
theorem Fv (L:List (Option Pag)):(oP L).length=L.length:=by simp [oP]
theorem rf (b:Bk):∀(f:Nat) (s:Sta) (no:Int),(shK b f s no).length≤2*f
 | 0,_,_=>by simp [shK]
 | f+1,s,no=>by
   rw [shK];split
   ·simp
   ·split
    ·have:=rf b f (bE b s).2 (no+2); simp only [List.length_cons]; omega
    ·have:=rf b f (bE b s).2 (no+1); simp only [List.length_cons]; omega
def fo (b:Bk):List Pag:=if (b.atoms.length:Int)+b.fls.length=0 then [⟨1,3,[],[],[]⟩] else zT (shK b 1000000001 ⟨⟨0,0,true⟩,[]⟩ 0)
open Go.Proofs Go.Proofs.Tryz
theorem bc.Md {σJ σ σJ' σ':af} (h:bc σJ σ σJ' σ') {id:Nat} {o:Ob} (hn:σ id=none) (hj:σJ' id=none):bc σJ σ σJ' (upd σ' id o) :=
 ⟨h.1.aD hj,fun i x h1 h2=>by
  obtain ⟨h3,h4⟩:=h.2 i x h1 h2;have:i≠id:=fun e=>by rw [e,hn] at h2; cases h2
  simp [Vc.upd,this,h3,h4]⟩
theorem FzL.maps {α:Type} {σ:af} {N:Nat→Prop} {f g:α→V}:∀ {l:List α},(∀a∈l,Fz σ N (f a) (g a))→FzL σ N (l.map f) (l.map g)
 | [],_=>.nil
 | a::l,h=>.cons _ _ _ _ (h a (by simp)) (FzL.maps fun x hx=>h x (by simp [hx]))
theorem yH (p:Pag):(bN p).dX=true:=by
 have h:∀l:List Frg,(aQ l).dX=true:=fun l=>lz (f:=aX) (fun _=>rfl) l;show fH [vI p.no,vI p.kind,aQ p.hs,aQ p.fs,aQ p.ls]=true;simp only [fH,h]; rfl
theorem G6 {σ:af} {N:Nat→Prop} (L:List (Option Pag)):FzL σ N (oP L) ((zT L).map bN):=by
 unfold oP zT;rw [List.map_map];refine FzL.maps fun k _=>?_;simp only [Function.comp];cases L.getD k none with
 | none=>exact .agg _ _ (.cons _ _ _ _ (.same _ rfl) (.cons _ _ _ _ (.same _ rfl) (.cons _ _ _ _ (.nil 7) (.cons _ _ _ _ (.nil 7) (.cons _ _ _ _ (.nil 7) .nil)))))
 | some p=>exact .same _ (yH _)
theorem aM.MP {K σ:af} {N:Nat→Prop} {e sz:Nat} {v:V} {rows rows':List V} (h:aM K σ e sz v rows) (hN:∀id,K id=none→N id) (hr:FzL σ N rows rows'):Fz σ N v (.sl sz rows'):=by
 rcases h with ⟨rfl,rfl⟩ | ⟨id,rfl,ho,hk⟩
 ·cases hr; exact .nil sz
 ·exact .own id 0 rows.length ⟨e,sz,rows⟩ rows' ho (hN id hk) (by simp) (by rw [List.drop_zero,List.take_length]; exact hr)
def dc (L:List Pag):V:=.sl 5 (L.map bN)
theorem oO (l:List Nd) (hl:dJ l) (w h:Int) :
 aV prog 16 [aJ l,vI w,vI h] (if gu l w h=0 then .tup [dc (fo (cz l w h)),vI 0] else .tup [.aC,vI (gu l w h)]):=fun σ=>by
 refine e16.r (by simp [c16]) ?_;have hs:=aa.refl σ;refine ad.mix 8 ?_;apply sR;simp only [go_sem,seval,c16];refine ad.az rfl rfl rfl (LZ l hl w h _) ?_;by_cases he:gu l w h=0
 ·have hb:=oL hl he;have hL:=tw he;rw [Cu,if_pos he,if_pos he,he];generalize cz l w h=b at *;generalize gx l h=L at *;have q1:((0:Int)≠0)=False:=eq_false (fun h=>h rfl);apply sR;simp only [go_sem,seval,q1];refine ae fun i10 σ10 s10 a10 f10=>?_;have z10:=hs.none f10;replace hs:=hs.trans s10;simp only [go_sem,seval,a10];refine ad.az rfl rfl rfl (DH b _) ?_;apply sR;simp only [go_sem,seval];generalize hS:mix 8 _ _=S;have S8:S 8=.rp (bI b):=by rw [←hS]; rfl
  have S10:S 10=.ptr i10 0 0:=by rw [←hS]; rfl
  have S27:S 27=.fn 75 [.rp (.rp (bI b))]:=by rw [←hS]; rfl
  clear hS;have hit:=wR b hb hL;have hSl:=rf b 1000000001 ⟨⟨0,0,true⟩,[]⟩ 0;have hPR:fo b=if (b.atoms.length:Int)+b.fls.length=0 then [⟨1,3,[],[],[]⟩] else zT (shK b 1000000001 ⟨⟨0,0,true⟩,[]⟩ 0):=rfl
  generalize fo b=PR at *;generalize shK b 1000000001 ⟨⟨0,0,true⟩,[]⟩ 0=SH at *;refine ad.cu (g:=.t 27) (caps:=[.rp (.rp (bI b))]) S27 hit (fun x hx=>?_) [] (fun pre σJ=>∃v,σJ i10=some ⟨48,1,[v]⟩∧aa σ σJ∧aM (bb σ i10) σJ 43 5 v (oP (SH.take pre.length)))
   (fun _ _ _=>False) ?_ ?_ ?_ ?_ ?_
  ·obtain ⟨t,_,rfl⟩:=List.mem_map.1 hx; rfl
  ·exact ⟨.aC,a10,s10,by simpa [oP] using aM.start⟩
  ·rintro pre x post σJ σB hxs ⟨v,J10,Js,Jo⟩ hsub;obtain ⟨t,hti,rfl⟩:=nI (f:=shV) hxs;have hpl:pre.length < SH.length:=(List.getElem?_eq_some_iff.1 hti).1;have hlen:(pre++[[shV t]]).length=pre.length+1:=by simp
   have htk:oP (SH.take (pre.length+1))=oP (SH.take pre.length)++[pgV pre.length t]:=by
    rw [List.take_add_one,hti,Option.toList_some,CP,List.length_take,Nat.min_eq_left (by omega)]
   rw [hlen,htk];have hnl:(oP (SH.take pre.length)).length=pre.length:=by rw [Fv,List.length_take]; omega
   have hvc:=Jo.vc.1;have hvs:=Jo.vc.2;have hvl:=Jo.len;rw [hnl] at hvl;generalize hrows:oP (SH.take pre.length)=rows at *;have b10:=hsub _ _ J10;generalize hSS:kR S [28] [shV t]=S0;have T10:S0 10=.ptr i10 0 0:=by rw [←hSS]; exact S10
   have T28:S0 28=shV t:=by rw [←hSS]; rfl
   clear hSS;refine ad.mix 12 ?_;apply sR;simp only [go_sem,seval,T10,T28];apply sR;simp only [go_sem,seval,T10,T28];rw [aH];intro i12 f12;have m12:i10≠i12:=ao b10 f12;have r1:inR .i64 ((pre.length:Int)+1):=ak (by omega) (by omega);have hpc:∀p:Pag,(bN p).cells=[vI p.no,vI p.kind,aQ p.hs,aQ p.fs,aQ p.ls]:=fun _=>rfl;have hfc:∀l:List Frg,(aQ l).cells=[aQ l]:=fun _=>rfl;have hfs:∀l:List Frg,(aQ l).stays=true:=fun _=>rfl;have hps:∀p:Pag,(bN p).stays=true:=fun _=>rfl;have hBs:=(bc.refl hsub).pj (o:=⟨43,5,[.agg [vI 0,vI 3, .aC, .aC, .aC]]⟩) f12;have y10:upd σB i12 ⟨43,5,[.agg [vI 0,vI 3, .aC, .aC, .aC]]⟩ i10=some ⟨48,1,[v]⟩:=by rw [ab m12]; exact b10
   have a12:upd σB i12 ⟨43,5,[.agg [vI 0,vI 3, .aC, .aC, .aC]]⟩ i12=some ⟨43,5,[.agg [vI 0,vI 3, .aC, .aC, .aC]]⟩:=ag;have hb2:(rows.length+1)*89≤140737488355328:=by omega
   have k2:bb σ i10 i10≠none:=fun h=>(aF.1 h).1 rfl;have n12:σJ i12=none:=hsub.none f12;cases t with
   | none =>
     simp only [go_sem,seval,T10,T28,shV,FB];generalize upd σB i12 ⟨43,5,[.agg [vI 0,vI 3, .aC, .aC, .aC]]⟩=τ' at *;refine ad.oM rfl rfl ?_;refine ad.pA (u:=.agg []) rfl rfl rfl rfl ?_;apply sR;simp only [go_sem,seval,T10,y10,a12,hvc,hvs,hvl,r1,ab m12,ab m12.symm,hpc,hps];rw [aH];intro i45 f45;have y2:upd τ' i12 (⟨43,5,[.agg [vI ((pre.length:Int)+1),vI 3, .aC, .aC, .aC]]⟩:Ob) i10=some ⟨48,1,[v]⟩:=by rw [ab m12]; exact y10
     have hB2:bc σJ σB σJ (upd τ' i12 (⟨43,5,[.agg [vI ((pre.length:Int)+1),vI 3, .aC, .aC, .aC]]⟩:Ob)):=hBs.Md f12 n12;generalize upd τ' i12 (⟨43,5,[.agg [vI ((pre.length:Int)+1),vI 3, .aC, .aC, .aC]]⟩:Ob)=τ2 at *;have hB3:=hB2.pj (o:=(⟨43,5,[.agg [vI ((pre.length:Int)+1),vI 3, .aC, .aC, .aC]]⟩:Ob)) f45;have y3:upd τ2 i45 (⟨43,5,[.agg [vI ((pre.length:Int)+1),vI 3, .aC, .aC, .aC]]⟩:Ob) i10=some ⟨48,1,[v]⟩:=by rw [ab (ao y2 f45)]; exact y2
     have a45:upd τ2 i45 (⟨43,5,[.agg [vI ((pre.length:Int)+1),vI 3, .aC, .aC, .aC]]⟩:Ob) i45=some (⟨43,5,[.agg [vI ((pre.length:Int)+1),vI 3, .aC, .aC, .aC]]⟩:Ob):=ag;generalize upd τ2 i45 (⟨43,5,[.agg [vI ((pre.length:Int)+1),vI 3, .aC, .aC, .aC]]⟩:Ob)=τ3 at *;obtain ⟨idA,hda,hdA⟩:=Jo.Di hB3.1;have dne:∀(i:Nat) (σx:af),bb σ i10 i≠none→Vc.bw σx idA i=σx i:=fun i σx hk=>by
      cases idA with
      | none=>rfl
      | some a=>exact dh (fun e=>hk (by rw [e]; exact (hdA a rfl).1))
     simp only [go_sem,seval,hda,di a45,hb2,T10];rw [aH];intro i46 f46;have f46:τ3 i46=none:=f46;have m46:i10≠i46:=ao y3 f46;have f46':Vc.bw τ3 idA i46=none:=by
      cases idA with
      | none=>exact f46
      | some a=>simp only [Vc.bw,del]; split <;> first | rfl | exact f46
     have y4:upd (Vc.bw τ3 idA) i46 ⟨43,5,rows++[.agg [vI ((pre.length:Int)+1),vI 3, .aC, .aC, .aC]]⟩ i10=some ⟨48,1,[v]⟩:=by rw [ab m46,dne _ _ k2]; exact y3
     have hB9:=((hB3.CI (e:=idA) fun i h=>(hdA i h).2).new (o:=⟨43,5,rows++[.agg [vI ((pre.length:Int)+1),vI 3, .aC, .aC, .aC]]⟩) f46').set (id:=i10) (o:=⟨48,1,[v]⟩) (o':=⟨48,1,[.own i46 0 (rows.length+1)]⟩) (by rw [ab m46,dne _ _ k2]; exact J10);simp only [go_sem,seval,hvc,y4,T10];refine ⟨_,hB9, .own i46 0 (rows.length+1),ag,?_,?_⟩
     ·refine aa.aD (fun i o h=>?_) z10;have h1:=Js _ _ h;rw [ab (ao (hB3.1 _ _ h1) f46),dne _ _ (fun hk=>by rw [(aF.1 hk).2] at h; cases h)];exact h1
     ·refine aM.new (by simp) (by rw [ab m46.symm,ag]; rfl) ?_;rw [aF];refine ⟨m46.symm,?_⟩;cases h:σ i46 with
      | none=>rfl
      | some o=>rw [hB3.1 _ _ (Js _ _ h)] at f46; cases f46
   | some p =>
     simp only [go_sem,seval,T10,T28,shV,FB];generalize upd σB i12 ⟨43,5,[.agg [vI 0,vI 3, .aC, .aC, .aC]]⟩=τ at *;rw [aH];intro i13 f13;have m13:i12≠i13:=ao a12 f13;have k13:i10≠i13:=ao y10 f13;have hBs:=hBs.pj (o:=⟨116,5,[bN p]⟩) f13;have y10:upd τ i13 ⟨116,5,[bN p]⟩ i10=some ⟨48,1,[v]⟩:=by rw [ab k13]; exact y10
     have a12:upd τ i13 ⟨116,5,[bN p]⟩ i12=some ⟨43,5,[.agg [vI 0,vI 3, .aC, .aC, .aC]]⟩:=by rw [ab m13]; exact a12
     have a13:upd τ i13 ⟨116,5,[bN p]⟩ i13=some ⟨116,5,[bN p]⟩:=ag;simp only [go_sem,seval,hpc,hps];generalize upd τ i13 ⟨116,5,[bN p]⟩=τ' at *;simp only [go_sem,seval,T10,y10,a12,a13,hvc,hvs,hvl,r1,ab m12,ab m12.symm,hpc,hps,hfc,hfs];rw [aH];intro i45 f45;have y2:upd τ' i12 (⟨43,5,[.agg [vI ((pre.length:Int)+1),vI p.kind,aQ p.hs,aQ p.fs,aQ p.ls]]⟩:Ob) i10=some ⟨48,1,[v]⟩:=by rw [ab m12]; exact y10
     have hB2:bc σJ σB σJ (upd τ' i12 (⟨43,5,[.agg [vI ((pre.length:Int)+1),vI p.kind,aQ p.hs,aQ p.fs,aQ p.ls]]⟩:Ob)):=hBs.Md f12 n12;generalize upd τ' i12 (⟨43,5,[.agg [vI ((pre.length:Int)+1),vI p.kind,aQ p.hs,aQ p.fs,aQ p.ls]]⟩:Ob)=τ2 at *;have hB3:=hB2.pj (o:=(⟨43,5,[.agg [vI ((pre.length:Int)+1),vI p.kind,aQ p.hs,aQ p.fs,aQ p.ls]]⟩:Ob)) f45;have y3:upd τ2 i45 (⟨43,5,[.agg [vI ((pre.length:Int)+1),vI p.kind,aQ p.hs,aQ p.fs,aQ p.ls]]⟩:Ob) i10=some ⟨48,1,[v]⟩:=by rw [ab (ao y2 f45)]; exact y2
     have a45:upd τ2 i45 (⟨43,5,[.agg [vI ((pre.length:Int)+1),vI p.kind,aQ p.hs,aQ p.fs,aQ p.ls]]⟩:Ob) i45=some (⟨43,5,[.agg [vI ((pre.length:Int)+1),vI p.kind,aQ p.hs,aQ p.fs,aQ p.ls]]⟩:Ob):=ag;generalize upd τ2 i45 (⟨43,5,[.agg [vI ((pre.length:Int)+1),vI p.kind,aQ p.hs,aQ p.fs,aQ p.ls]]⟩:Ob)=τ3 at *;obtain ⟨idA,hda,hdA⟩:=Jo.Di hB3.1;have dne:∀(i:Nat) (σx:af),bb σ i10 i≠none→Vc.bw σx idA i=σx i:=fun i σx hk=>by
      cases idA with
      | none=>rfl
      | some a=>exact dh (fun e=>hk (by rw [e]; exact (hdA a rfl).1))
     simp only [go_sem,seval,hda,di a45,hb2,T10];rw [aH];intro i46 f46;have f46:τ3 i46=none:=f46;have m46:i10≠i46:=ao y3 f46;have f46':Vc.bw τ3 idA i46=none:=by
      cases idA with
      | none=>exact f46
      | some a=>simp only [Vc.bw,del]; split <;> first | rfl | exact f46
     have y4:upd (Vc.bw τ3 idA) i46 ⟨43,5,rows++[.agg [vI ((pre.length:Int)+1),vI p.kind,aQ p.hs,aQ p.fs,aQ p.ls]]⟩ i10=some ⟨48,1,[v]⟩:=by rw [ab m46,dne _ _ k2]; exact y3
     have hB9:=((hB3.CI (e:=idA) fun i h=>(hdA i h).2).new (o:=⟨43,5,rows++[.agg [vI ((pre.length:Int)+1),vI p.kind,aQ p.hs,aQ p.fs,aQ p.ls]]⟩) f46').set (id:=i10) (o:=⟨48,1,[v]⟩) (o':=⟨48,1,[.own i46 0 (rows.length+1)]⟩) (by rw [ab m46,dne _ _ k2]; exact J10);simp only [go_sem,seval,hvc,y4,T10];refine ⟨_,hB9, .own i46 0 (rows.length+1),ag,?_,?_⟩
     ·refine aa.aD (fun i o h=>?_) z10;have h1:=Js _ _ h;rw [ab (ao (hB3.1 _ _ h1) f46),dne _ _ (fun hk=>by rw [(aF.1 hk).2] at h; cases h)];exact h1
     ·refine aM.new (by simp) (by rw [ab m46.symm,ag]; rfl) ?_;rw [aF];refine ⟨m46.symm,?_⟩;cases h:σ i46 with
      | none=>rfl
      | some o=>rw [hB3.1 _ _ (Js _ _ h)] at f46; cases f46
  ·rintro σ' ⟨v,a10,hs,Jo⟩;rw [List.length_map,List.take_length] at Jo;have hvc:=Jo.vc.1;have hvs:=Jo.vc.2;have hla:=gT b.atoms;have hlf:=fB b.fls;have hfl:=hb.flen;have hal:=hb.len;have rr:inR .i64 ((b.atoms.length:Int)+b.fls.length):=ak (by omega) (by omega);refine ad.mix 12 ?_;apply sR;simp only [go_sem,seval,S8,S10];refine ad.az rfl rfl rfl (Cx b hb.toBkFull _) ?_;apply sR;simp only [go_sem,seval,S8,S10,kD];have hK:aa σ σ':=hs;have hs:=aa.refl σ';refine ae fun i15 σ15 s15 a15 f15=>?_;have n1015:=ao a10 f15;replace a10:=s15 _ _ a10;have z15:=hs.none f15;replace hs:=hs.trans s15;simp only [go_sem,seval,a15,a10,S10,ax,ay,aS,aU];generalize hq15:upd _ i15 _=τ15;replace a15:=(congrFun hq15 i15).symm.trans ag;replace a10:=((congrFun hq15 i10).symm.trans (ab n1015)).trans a10;replace hs:=Eq.subst (motive:=aa _) hq15 (hs.aD z15);clear hq15;by_cases hz:(b.atoms.length:Int)+b.fls.length=0
   ·have qz:((b.atoms.length:Int)+b.fls.length=0)=True:=eq_true hz;rw [if_pos hz] at hPR;simp only [go_sem,seval,a15,a10,S10,hla,hlf,rr,qz,ax,ay,aS,aU];have a10':=a10;refine ae fun i58 σ58 s58 a58 f58=>?_;have n1058:=ao a10 f58;replace a10:=s58 _ _ a10;have z58:=hs.none f58;replace hs:=hs.trans s58;simp only [go_sem,seval,a58,a10,S10,hvc,hvs];rw [hPR];have hs3:=(hK.trans hs).aD (id:=i10) (o:=⟨48,1,[.own i58 0 1]⟩) z10;have m58:i10≠i58:=ao a10' f58;have hf:Fz (upd σ58 i10 ⟨48,1,[.own i58 0 1]⟩) (fun id=>σ id=none) (.tup [.own i58 0 1,vI 0]) (.tup [dc [⟨1,3,[],[],[]⟩],vI 0]) :=
     .tup _ _ (.cons _ _ _ _ (.own i58 0 1 ⟨43,5,[.agg [vI 1,vI 3, .aC, .aC, .aC]]⟩ _ ((ab m58.symm).trans a58) (hK.none z58) (by simp) (FzL.one (.agg _ _ (.cons _ _ _ _ (.same _ rfl) (.cons _ _ _ _ (.same _ rfl) (.cons _ _ _ _ (.nil 7) (.cons _ _ _ _ (.nil 7) (.cons _ _ _ _ (.nil 7) .nil)))))))) (FzL.same [vI 0] rfl))
    exact ⟨_,σ,hs3,hf.wk hs3 (fun _ h=>h),rfl,rfl⟩
   ·have qz:((b.atoms.length:Int)+b.fls.length=0)=False:=eq_false hz;rw [if_neg hz] at hPR;simp only [go_sem,seval,a15,a10,S10,hla,hlf,rr,qz,hvc,hvs,ax,ay,aS,aU];rw [hPR];have hf:Fz τ15 (fun id=>σ id=none) (.tup [v,vI 0]) (.tup [dc (zT SH),vI 0]) :=
     .tup _ _ (.cons _ _ _ _ ((Jo.mono hs).MP (fun id h=>(aF.1 h).2) (G6 SH)) (FzL.same [vI 0] rfl))
    exact ⟨_,σ,hK.trans hs,hf.wk (hK.trans hs) (fun _ h=>h),rfl,rfl⟩
  ·intro id h; cases h
  ·rintro pre σ' _ ⟨⟩
 ·have q1:(gu l w h≠0)=True:=eq_true he;rw [if_neg he];apply sR;simp only [go_sem,seval,q1];exact au.pure hs rfl
def goP (l:List Atm):Int→Int→List Frg→Option (Int×Int)
 | a,d,[]=>some (a,d)
 | a,d,x::r =>
   if (0≤a∧a < l.length)∧x.atom=a∧x.node=(atG l a).node∧x.fr=d∧1≤x.h∧x.w=(atG l a).w∧x.x=(atG l a).x∧d+x.h≤(atG l a).h then
    (if d+x.h=(atG l a).h then goP l (a+1) 0 r else if r=[] then some (a,d+x.h) else none)
   else none
theorem yK {b:Bk} (hb:fK b) (F:Int→Frg) (hF:∀k (h:k < b.atoms.length),F k=⟨b.atoms[k].node,k,0,b.atoms[k].x,(F k).y,b.atoms[k].w,b.atoms[k].h⟩) :
 ∀(m k:Nat),k+m≤b.atoms.length→goP b.atoms k 0 ((List.range m).map fun i:Nat=>F ((k:Int)+i))=some (((k+m:Nat):Int),0)
 | 0,k,_=>by simp [goP]
 | m+1,k,h=>by
   have hk:k < b.atoms.length:=by omega
   have hp:=hb.pos _ (List.getElem_mem hk);rw [List.range_succ_eq_map,List.map_cons,List.map_map];have e:=hF k hk;have e0:F ((k:Int)+((0:Nat):Int))=F k:=by simp
   have ih:=yK hb F hF m (k+1) (by omega);rw [e0,goP,bj hk,e];simp only;rw [if_pos ⟨⟨by omega,by omega⟩,trivial,trivial,trivial,hp,trivial,trivial,by omega⟩,if_pos (by omega)];have e1:((k:Int)+1)=((k+1:Nat):Int):=by omega
   have e2:((fun i:Nat=>F ((k:Int)+i)) ∘ Nat.succ)=fun i:Nat=>F (((k+1:Nat):Int)+i):=by
    funext i; simp only [Function.comp]; congr 1; omega
   rw [e1,e2,ih];congr 2; omega
theorem za {b:Bk} (hb:fK b) {s:Stt} (hm:dp b.atoms s) {kept shift high:Int} {c:Nat} (h1:s.atom < c) (h2:c≤b.atoms.length) :
 goP b.atoms s.atom s.done ((List.range (c - s.atom.toNat)).map fun i:Nat=>cj high (dn b.atoms s kept shift (s.atom+(i:Nat))))=some ((c:Int),0):=by
 have hm0:=hm;obtain ⟨⟨h3,h4⟩,h5,h6⟩:=hm;obtain ⟨a,ha⟩:∃a:Nat,s.atom=a:=⟨s.atom.toNat,by omega⟩
 have hal:a < b.atoms.length:=by omega
 rw [ha,bj hal] at h6;have hp:=hb.pos _ (List.getElem_mem hal);obtain ⟨m,hmm⟩:∃m,c - s.atom.toNat=m+1:=⟨c - s.atom.toNat - 1,by omega⟩
 rw [hmm,List.range_succ_eq_map,List.map_cons,List.map_map];have e0:cj high (dn b.atoms s kept shift (s.atom+((0:Nat):Int)))=⟨b.atoms[a].node,a,s.done,b.atoms[a].x,du b.atoms s kept shift a+s.done+high,b.atoms[a].w,b.atoms[a].h - s.done⟩:=by
  have:s.atom+((0:Nat):Int)=a:=by omega
  rw [this,dn,if_pos ⟨hm0,by omega,by omega⟩,if_pos (by omega)];simp only [cj,Frg.bJ,kJ,fg,bj hal]
 let F:Int→Frg:=fun k=>if k=s.atom then ⟨b.atoms[a].node,k,0,b.atoms[a].x,0,b.atoms[a].w,b.atoms[a].h⟩ else if s.atom < k then cj high (dn b.atoms s kept shift k) else ⟨(atG b.atoms k).node,k,0,(atG b.atoms k).x,0,(atG b.atoms k).w,(atG b.atoms k).h⟩
 have hF:∀k (h:k < b.atoms.length),F k=⟨b.atoms[k].node,k,0,b.atoms[k].x,(F k).y,b.atoms[k].w,b.atoms[k].h⟩:=fun k h=>by
  by_cases e:(k:Int)=s.atom
  ·obtain rfl:k=a:=by omega
   simp only [F,if_pos e]
  ·by_cases e2:s.atom < k
   ·simp only [F,if_neg e,if_pos e2];rw [dn,if_pos ⟨hm0,by omega,by omega⟩,if_neg e];simp only [cj,kJ,fg,bj h]
   ·simp only [F,if_neg e,if_neg e2,bj h]
 have hr:=yK hb F hF m (a+1) (by omega);rw [e0,goP,ha,bj hal];simp only;rw [if_pos ⟨⟨by omega,by omega⟩,trivial,trivial,trivial,by omega,trivial,trivial,by omega⟩,if_pos (by omega)];have e1:((a:Int)+1)=((a+1:Nat):Int):=by omega
 have e2:(List.range m).map ((fun i:Nat=>cj high (dn b.atoms s kept shift ((a:Int)+(i:Nat)))) ∘ Nat.succ)=(List.range m).map fun i:Nat=>F (((a+1:Nat):Int)+i):=by
  refine List.map_congr_left fun i _=>?_;have:((a:Int)+((Nat.succ i:Nat):Int))=((a+1:Nat):Int)+i:=by omega
  simp only [Function.comp,this];simp only [F];rw [if_neg (by omega),if_pos (by omega)]
 rw [e1,e2,hr];congr 2; omega
theorem rW {b:Bk} (hb:fK b) {s:Sta} (he:¬fM b s):goP b.atoms s.s.atom s.s.done (bE b s).1.fs=some ((bE b s).2.s.atom,(bE b s).2.s.done):=by
 have hmay:iC b s:=Decidable.byContradiction fun h=>he (.inl h);have hat:0≤s.s.atom:=by rcases hmay.2 with h | h; exact h.1.1; omega
 have hg:=lZ hb he;revert hg;unfold bE;split
 ·rename_i h0;intro _;have hn:s.s.atom=0∧s.s.done=0:=by
   rcases hmay.2 with h | h
   ·have:=h.1; rw [h0.1] at this; simp at this; omega
   ·rw [h0.1] at h; simpa using h
  show goP b.atoms s.s.atom s.s.done []=_;rw [goP,hn.1,hn.2]; rfl
 ·split
  ·intro _; rfl
  ·rename_i hf;intro hg;have hm:dp b.atoms s.s:=hmay.2.resolve_right fun h=>hf (.inl h.1);have hkind:(lx (ek b (cM b s))).kind=1:=(la b (cM b s)).2;obtain ⟨-,g1,g2,hcg⟩:=hg.cut hkind;change goP b.atoms s.s.atom s.s.done (ek b (cM b s)).fs=some ((ee b (cM b s)).s.atom,(ee b (cM b s)).s.done);change rj b s.s (ee b (cM b s)).s (ek b (cM b s)).fs _ _ at hcg;have hrl:dF b (cM b s)≤b.atoms.length:=l4;have hbl:=hb.brk;unfold ek ee at hcg ⊢;by_cases hok:eQ b.brks (cM b s).s.atom (dF b (cM b s))
   ·rw [if_pos hok,if_pos hok];obtain ⟨c,c1,c2,c3⟩:=nC hok (by omega);rw [show vP b (cM b s)=c from c1,Int.toNat_natCast];have c2':s.s.atom < c:=c2;exact za hb hm c2' (by omega)
   ·rw [if_neg hok,if_neg hok] at hcg ⊢;have hso:oF b.atoms s.s (bB b s.s).body:=⟨hm,gN hb.toBkFull s.s hat⟩
    obtain ⟨⟨h3,h4⟩,h5,h6⟩:=hm;obtain ⟨a,ha⟩:∃a:Nat,s.s.atom=a:=⟨s.s.atom.toNat,by omega⟩
    have hal:a < b.atoms.length:=by omega
    have hp:=hb.pos _ (List.getElem_mem hal);have hbd:=gN hb.toBkFull s.s hat;have hag:atG b.atoms s.s.atom=b.atoms[a]:=by rw [ha,bj hal]
    show goP b.atoms s.s.atom s.s.done [cj (bB b s.s).high (iZ b.atoms s.s (bB b s.s).body)]=some ((dT b.atoms s.s (bB b s.s).body).atom,(dT b.atoms s.s (bB b s.s).body).done);rw [iZ,if_pos hso,dT,if_pos hso,eN,iM];simp only [goP,cj,Frg.cut,Frg.bJ,fg,hag];rw [hag] at h6;rw [if_pos ⟨⟨h3,h4⟩,trivial,trivial,trivial,by omega,trivial,trivial,by omega⟩];by_cases e:s.s.done+min (b.atoms[a].h - s.s.done) (bB b s.s).body=b.atoms[a].h
    ·have hlt:¬(s.s.done+min (b.atoms[a].h - s.s.done) (bB b s.s).body < b.atoms[a].h):=by omega
     rw [if_pos e,if_neg hlt]
    ·have hlt:s.s.done+min (b.atoms[a].h - s.s.done) (bB b s.s).body < b.atoms[a].h:=by omega
     rw [if_neg e,if_pos hlt]; simp
theorem xR {x:Flo} {r:List Flo}:∀(p:List Flo) (i:Nat),(x::r).Sublist p→∃k:Nat,jZ x p i=((i+k:Nat):Int)∧r.Sublist (p.drop (k+1))
 | [],i,h=>by cases h
 | q::p,i,h=>by
   rw [jZ];by_cases e:x=q
   ·subst e;rw [if_pos rfl];exact ⟨0,rfl,List.cons_sublist_cons.1 h⟩
   ·rw [if_neg e];have h':(x::r).Sublist p:=by
     cases h with
     | cons _ h=>exact h
     | cons_cons _ h=>exact absurd rfl e
    obtain ⟨k,h1,h2⟩:=xR p (i+1) h';exact ⟨k+1,by rw [h1]; congr 1; omega,by simpa using h2⟩
theorem xH {fls:List Flo}:∀(p:List Flo) (at':Nat),p.Sublist (fls.drop at')→kG fls p at'=true
 | [],at',_=>rfl
 | x::r,at',h=>by
   obtain ⟨k,h1,h2⟩:=xR _ 0 h;rw [Nat.zero_add] at h1;rw [kG,h1,if_neg (by omega),Int.toNat_natCast];refine xH r _ ?_;rw [List.drop_drop] at h2;rw [show at'+k+1=at'+(k+1) by omega];exact h2
theorem yu {x:Flo}:∀(p:List Flo) (i k:Nat),jZ x p i=((i+k:Nat):Int)→p[k]?=some x
 | [],i,k,h=>by simp [jZ] at h; omega
 | q::p,i,k,h=>by
   rw [jZ] at h;split at h
   ·rename_i e;obtain rfl:k=0:=by omega
    simp [e]
   ·rcases nO x p (i+1) with h2 | ⟨m,h2,_⟩
    ·rw [h2] at h; omega
    ·have hk:k=m+1:=by rw [h2] at h; omega
     subst hk;rw [List.getElem?_cons_succ];exact yu p (i+1) m h2
theorem xK {fls:List Flo}:∀(p:List Flo) (at':Nat),kG fls p at'=true→p.Sublist (fls.drop at')
 | [],at',_=>List.nil_sublist _
 | x::r,at',h=>by
   rw [kG] at h;split at h
   ·cases h
   ·rename_i hk;rcases nO x (fls.drop at') 0 with e | ⟨k,e,hk2⟩
    ·exact absurd (by rw [e]; decide) hk
    ·rw [e,Nat.zero_add,Int.toNat_natCast] at h;have hx:=yu _ 0 k e;obtain ⟨hl,hg⟩:=List.getElem?_eq_some_iff.1 hx;have hr:=xK r _ h;have e1:fls.drop at'=(fls.drop at').take k++x::(fls.drop at').drop (k+1):=by
      conv=>lhs; rw [←List.take_append_drop k (fls.drop at')]
      rw [List.drop_eq_getElem_cons hl,hg]
     rw [e1,List.drop_drop,show at'+(k+1)=at'+k+1 by omega];exact (List.Sublist.cons_cons x hr).trans (List.sublist_append_right _ _)
theorem zx {body:Int}:∀(l:List Flo) (sh:Int),(cQ body l sh).2.1.Sublist l
 | [],_=>by simp [cQ]
 | f::r,sh=>by
   rw [cQ];split
   ·exact List.Sublist.refl _
   ·exact (zx r _).trans (List.sublist_cons_self _ _)
theorem Dq {top shift body:Int} (L:List Flo):(ic top shift body L).2.Sublist L:=by
 suffices key:∀(L L0:List Flo) (x:List Flo×List Flo),x.2.Sublist L0→(L.foldl (fun x f=>jz body x f (dG top shift f)) x).2.Sublist (L0++L) from by have h:=key L [] ([],[]) (List.Sublist.refl _); rw [List.nil_append] at h; exact h
 intro L
 induction L with
 | nil=>intro L0 x h; simpa using h
 | cons f L ih =>
   intro L0 x h;rw [List.foldl_cons,show L0++f::L=(L0++[f])++L by simp];refine ih _ _ ?_;simp only [jz];split
   ·exact h.append (List.Sublist.refl _)
   ·exact h.trans (List.sublist_append_left _ _)
theorem uP {b:Bk} {s:Stt} {to kept shift body:Int}:(dO b.atoms b.fls s to kept shift body).2.Sublist b.fls:=by
 unfold dO;split
 ·exact (Dq _).trans List.filter_sublist
 ·exact List.nil_sublist _
theorem D2 {b:Bk} (hb:fK b) {s:Sta} (he:¬fM b s):iC b (bE b s).2:=by
 have hmay:iC b s:=Decidable.byContradiction fun h=>he (.inl h);have hg:=lZ hb he;have hp:s.bK.Sublist b.fls:=xK _ 0 hmay.1;refine ⟨xH _ 0 ?_,?_⟩
 ·rw [List.drop_zero];unfold bE;split
  ·exact List.dropWhile_sublist _
  ·split
   ·exact (zx _ _).trans hp
   ·show (ee b (cM b s)).bK.Sublist b.fls;unfold ee;split
    ·exact uP
    ·exact uP
 ·rcases hg.kd with k | k
  ·obtain ⟨hm, -, -,hc⟩:=hg.cut k;have hm0:=hm;obtain ⟨⟨h0,h1⟩,h2,h3⟩:=hm;cases hc with
   | more q1 q2 q3 q4 q5 =>
     left;unfold ie at q3;rw [if_pos hm0] at q3;have:=(y6 hb.toBkFull s.s h0).2.1;refine ⟨by omega,by omega, .inr ?_⟩;rw [q1]; omega
   | whole c r y q1 q2 q3 q4 q5 q6 q7 q8 q9 =>
     rw [q1];by_cases hcl:c=b.atoms.length
     ·exact .inr ⟨by simp only; omega,rfl⟩
     ·exact .inl ⟨⟨by simp only; omega,by simp only; omega⟩,Int.le_refl _, .inl rfl⟩
  ·have hf:=hg.no' k;have hgo:=rW hb he;rw [hf,goP] at hgo;have e:=Option.some.inj hgo;have e1:(bE b s).2.s.atom=s.s.atom:=(congrArg Prod.fst e).symm;have e2:(bE b s).2.s.done=s.s.done:=(congrArg Prod.snd e).symm;unfold dp;rw [e1,e2];exact hmay.2
def fsO:Option Pag→List Frg
 | none=>[]
 | some p=>p.fs
theorem Cc (b:Bk) (hpos:∀a∈b.atoms,1≤a.h):iC b ⟨⟨0,0,true⟩,[]⟩:=by
 refine ⟨rfl,?_⟩;by_cases h:b.atoms.length=0
 ·exact .inr ⟨by simp only; omega,rfl⟩
 ·exact .inl ⟨⟨Int.le_refl _,by simp only; omega⟩,Int.le_refl _, .inl rfl⟩
structure AkI (s:WS):Prop where
 pw:s.floats.Pairwise fun f g=>f.anchor≤g.anchor
 q:∀f∈s.floats,f.anchor≤s.atoms.length
theorem AkI.more {s t:WS} (h:AkI s) (hf:t.floats=s.floats) (ha:s.atoms.length≤t.atoms.length):AkI t:=⟨by rw [hf]; exact h.pw,fun f hf'=>by rw [hf] at hf'; have:=h.q f hf'; omega⟩
theorem Dn (fs:List Flo) (f:Flo) (y:Int) (s:Spn):∃g,qH fs f y s=fs++[g]∧g.anchor=f.anchor:=⟨_,rfl,by unfold ik; (repeat' split) <;> rfl⟩
theorem AkI.put {s:WS} (h:AkI s) (a:Atm):AkI (s.put a):=h.more rfl (by simp [WS.put])
theorem AkI.text {rs:List Rm} {s:WS} (h:AkI s) (a:Nat) (n:Nd):AkI (s.text rs a n):=by
 unfold WS.text;generalize da _ _ _ _ _ _ _ _=L
 induction L generalizing s with
 | nil=>exact h
 | cons x L ih=>exact ih (h.put _)
theorem AkI.float {rs:List Rm} {s:WS} (h:AkI s) (a:Nat) (n:Nd):AkI (s.float rs a n):=by
 obtain ⟨g,e,ha⟩:=Dn s.floats ⟨a,n.side,s.atoms.length,0,0,n.w,n.h⟩ (s.pen.y+s.pen.m) (dR rs a);have e':(s.float rs a n).floats=s.floats++[g]:=e;refine ⟨?_,fun f hf=>?_⟩
 ·rw [e',List.pairwise_append];refine ⟨h.pw,by simp,fun f hf y hy=>?_⟩;rw [List.mem_singleton.1 hy,ha];exact h.q f hf
 ·rw [e'] at hf;rcases List.mem_append.1 hf with hf | hf
  ·exact h.q f hf
  ·rw [List.mem_singleton.1 hf,ha]; exact Int.le_refl _
theorem j2 {l:List Nd} {rs:List Rm}:∀(k a e:Nat) (s:WS),AkI s→AkI (de l rs k a e s)
 | 0,a,e,s,h=>h
 | k+1,a,e,s,h=>by
   rw [de];split
   ·split
    ·exact j2 k _ _ _ ((j2 k _ _ (s.enter (ndA l a).st) (h.more rfl (Nat.le_refl _))).more rfl (Nat.le_refl _))
    ·split
     ·exact j2 k _ _ _ (h.text _ _)
     ·split
      ·exact j2 k _ _ _ (h.put _)
      ·exact j2 k _ _ _ (h.float _ _)
   ·exact h
theorem BS (l:List Nd) (w:Int):((cm l w).floats.Pairwise fun f g=>f.anchor≤g.anchor)∧∀f∈(cm l w).floats,0≤f.anchor∧(0 < (cm l w).atoms.length→f.anchor < (cm l w).atoms.length):=by
 have h:=j2 (l:=l) (rs:=gA l w) l.length 0 l.length ⟨[],[],0,⟨0,0⟩⟩ ⟨by simp,by simp⟩;have e1:(cm l w).atoms=(de l (gA l w) l.length 0 l.length ⟨[],[],0,⟨0,0⟩⟩).atoms:=rfl;have e2:(cm l w).floats=(de l (gA l w) l.length 0 l.length ⟨[],[],0,⟨0,0⟩⟩).floats.map (mJ (de l (gA l w) l.length 0 l.length ⟨[],[],0,⟨0,0⟩⟩).atoms.length):=rfl;rw [e1,e2];generalize de l (gA l w) l.length 0 l.length ⟨[],[],0,⟨0,0⟩⟩=s at *;refine ⟨?_,fun f hf=>?_⟩
 ·rw [List.pairwise_map];refine h.pw.imp fun hab=>?_;simp only [mJ]; omega
 ·obtain ⟨g,hg,rfl⟩:=List.mem_map.1 hf;simp only [mJ]; omega
theorem wU {top shift body:Int} (L:List Flo):∃j,j≤L.length∧(ic top shift body L).1=(L.take j).map (dG top shift)∧(ic top shift body L).2=L.drop j:=by
 suffices key:∀(L A:List Flo) (x:List Flo×List Flo),(∃j,j≤A.length∧x.1=(A.take j).map (dG top shift)∧x.2=A.drop j) →
  ∃j,j≤(A++L).length∧(L.foldl (fun x f=>jz body x f (dG top shift f)) x).1=((A++L).take j).map (dG top shift)∧(L.foldl (fun x f=>jz body x f (dG top shift f)) x).2=(A++L).drop j from by
  have h:=key L [] ([],[]) ⟨0,by simp,by simp,by simp⟩;rw [List.nil_append] at h;exact h
 intro L
 induction L with
 | nil=>intro A x h; simpa using h
 | cons f L ih =>
   intro A x ⟨j,h1,h2,h3⟩;rw [List.foldl_cons,show A++f::L=(A++[f])++L by simp];refine ih _ _ ?_;simp only [jz];by_cases hl:mA x.2 (dG top shift f) body=true
   ·rw [if_pos hl,if_pos hl];refine ⟨j,by simp; omega,?_,?_⟩
    ·rw [h2,List.take_append_of_le_length h1]
    ·rw [h3,List.drop_append_of_le_length h1]
   ·rw [if_neg hl,if_neg hl];have hx:x.2=[]:=Decidable.byContradiction fun hn=>hl (by unfold mA; exact decide_eq_true (.inl hn));have hj:j=A.length:=by
     rw [h3] at hx;have:=congrArg List.length hx;simp at this;omega
    subst hj;refine ⟨A.length+1,by simp,?_,?_⟩
    ·rw [h2,List.take_of_length_le (Nat.le_refl _),List.take_of_length_le (by simp),List.map_append,List.map_singleton]
    ·rw [h3]; simp
theorem rQ {body:Int}:∀(l:List Flo) (sh:Int),∃j,j≤l.length∧(cQ body l sh).2.1=l.drop j∧(cQ body l sh).1.length=j∧∀i f m,i < j→l[i]?=some f→(cQ body l sh).1[i]?=some m→m.node=f.node∧m.x=f.x∧m.w=f.w∧m.h≤f.h
 | [],sh=>⟨0,by simp,by simp [cQ],by simp [cQ],fun i f m h=>by omega⟩
 | g::r,sh=>by
   rw [cQ];split
   ·exact ⟨0,by simp,by simp,by simp,fun i f m h=>by omega⟩
   ·obtain ⟨j,h1,h2,h3,h4⟩:=rQ (body:=body) r (sh+min g.h body);refine ⟨j+1,by simp only [List.length_cons]; omega,by simpa using h2,by simp only [List.length_cons,h3],fun i f m hi hf hm=>?_⟩;cases i with
    | zero =>
      simp only [List.getElem?_cons_zero,Oi] at hf hm;subst hf; subst hm;exact ⟨rfl,rfl,rfl,by simp only; omega⟩
    | succ i =>
      rw [List.getElem?_cons_succ] at hf hm;exact h4 i f m (by omega) hf hm
def fc (L:List Flo) (B:Int):Nat:=(L.filter fun f=>decide (f.anchor < B)).length
theorem o9 {B:Int} {L:List Flo} (h:∀g∈L,B≤g.anchor):(L.filter fun f=>decide (f.anchor < B))=[]:=by
 rw [List.filter_eq_nil_iff];intro g hg;have:=h g hg;simp; omega
theorem wm {B:Int}:∀ {L:List Flo},(L.Pairwise fun f g=>f.anchor≤g.anchor)→(L.filter fun f=>decide (f.anchor < B))=L.take (fc L B)
 | [],_=>rfl
 | x::L,h=>by
   have hp:=List.pairwise_cons.1 h;unfold fc;by_cases e:x.anchor < B
   ·have ih:=wm (B:=B) hp.2;unfold fc at ih;rw [List.filter_cons_of_pos (by simpa using e),List.length_cons,List.take_succ_cons,←ih]
   ·have hn:((x::L).filter fun f=>decide (f.anchor < B))=[]:=o9 fun g hg=>by
     rcases List.mem_cons.1 hg with rfl | hg
     ·omega
     ·have:=hp.1 g hg; omega
    rw [hn]; rfl
theorem qt {fr to:Int} (hft:fr≤to):∀ {L:List Flo},(L.Pairwise fun f g=>f.anchor≤g.anchor)→rB L fr to=(L.take (fc L to)).drop (fc L fr)
 | [],_=>by simp [rB]
 | x::L,h=>by
   have hp:=List.pairwise_cons.1 h;have ih:=qt hft hp.2;unfold rB mN at ih ⊢;by_cases e:x.anchor < fr
   ·have h1:nH fr to x=true:=by unfold nH; exact decide_eq_true (.inl e)
    have c1:fc (x::L) fr=fc L fr+1:=by unfold fc; rw [List.filter_cons_of_pos (by simpa using e),List.length_cons]
    have c2:fc (x::L) to=fc L to+1:=by unfold fc; rw [List.filter_cons_of_pos (by simp; omega),List.length_cons]
    rw [List.filter_cons_of_neg (by simp [h1]),c1,c2,List.take_succ_cons,List.drop_succ_cons,ih]
   ·have hge:∀g∈x::L,fr≤g.anchor:=fun g hg=>by
     rcases List.mem_cons.1 hg with rfl | hg
     ·omega
     ·have:=hp.1 g hg; omega
    have c1:fc (x::L) fr=0:=by unfold fc; rw [o9 hge]; rfl
    rw [c1,List.drop_zero,←wm h];refine List.filter_congr fun g hg=>?_;have:=hge g hg;unfold nH;by_cases e2:g.anchor < to
    ·rw [decide_eq_true e2,decide_eq_false (show ¬(g.anchor < fr∨g.anchor≥to) by omega)]; rfl
    ·rw [decide_eq_false e2,decide_eq_true (show g.anchor < fr∨g.anchor≥to by omega)]; rfl
theorem CK {L:List Flo} {a b:Int} (h:a≤b):fc L a≤fc L b:=by
 unfold fc
 induction L with
 | nil=>simp
 | cons x L ih =>
   by_cases e:x.anchor < a
   ·rw [List.filter_cons_of_pos (by simpa using e),List.filter_cons_of_pos (by simp; omega)];simp only [List.length_cons]; omega
   ·rw [List.filter_cons_of_neg (by simpa using e)];by_cases e2:x.anchor < b
    ·rw [List.filter_cons_of_pos (by simpa using e2)]; simp only [List.length_cons]; omega
    ·rw [List.filter_cons_of_neg (by simpa using e2)]; exact ih
theorem Bp (L:List Flo) (B:Int):fc L B≤L.length:=List.length_filter_le _ _
def ec (s:Stt):Int:=if s.done > 0 then s.atom+1 else s.atom
def calls (b:Bk) (s:Stt):Nat:=if b.atoms=[] then (if s.free=true then 0 else b.fls.length) else fc b.fls (ec s)
structure gY (b:Bk) (ls:List Frg) (m j:Nat):Prop where
 len:ls.length=j
 fit:∀i x f,ls[i]?=some x→b.fls[m+i]?=some f→x.node=f.node∧x.atom = -1∧x.x=f.x∧x.w=f.w∧x.h≤f.h
theorem sy (b:Bk) (s:Stt):calls b s≤b.fls.length:=by
 unfold calls; split
 ·split <;> omega
 ·exact Bp _ _
theorem gY.app {b:Bk} {l1 l2:List Frg} {m j k:Nat} (h1:gY b l1 m j) (h2:gY b l2 (m+j) k):gY b (l1++l2) m (j+k):=by
 refine ⟨by rw [List.length_append,h1.len,h2.len],fun i x f hx hf=>?_⟩;by_cases h:i < j
 ·rw [List.getElem?_append_left (by rw [h1.len]; exact h)] at hx;exact h1.fit i x f hx hf
 ·rw [List.getElem?_append_right (by rw [h1.len]; omega),h1.len] at hx;exact h2.fit (i - j) x f hx (by rw [show m+j+(i - j)=m+i by omega]; exact hf)
theorem yN {L:List Flo} {C m i:Nat} {f:Flo} (h:((L.take C).drop m)[i]?=some f):L[m+i]?=some f:=by
 rw [List.getElem?_drop,List.getElem?_take] at h;split at h
 ·exact h
 ·cases h
theorem GV {b:Bk} {body high:Int} {C m:Nat} {p:List Flo} (hp:p=(b.fls.take C).drop m) (hC:C≤b.fls.length) (hm:m≤C):∃j,m+j≤C∧(cQ body p 0).2.1=(b.fls.take C).drop (m+j)∧gY b ((cQ body p 0).1.map (lq high)) m j:=by
 obtain ⟨j,h1,h2,h3,h4⟩:=rQ (body:=body) p 0;have hl:p.length=C - m:=by rw [hp,List.length_drop,List.length_take]; omega
 refine ⟨j,by omega,by rw [h2,hp,List.drop_drop],by rw [List.length_map,h3],fun i x f hx hf=>?_⟩;rw [List.getElem?_map,Option.map_eq_some_iff] at hx;obtain ⟨mv,e1,rfl⟩:=hx;have hi:i < j:=by rw [←h3]; exact (List.getElem?_eq_some_iff.1 e1).1
 obtain ⟨g,hg⟩:∃g,p[i]?=some g:=⟨p[i],List.getElem?_eq_getElem (by omega)⟩
 have hg':=hg;rw [hp] at hg';have:=yN hg';rw [this] at hf;obtain rfl:=Option.some.inj hf;obtain ⟨g1,g2,g3,g4⟩:=h4 i _ mv hi hg e1;exact ⟨g1,rfl,g2,g3,g4⟩
theorem E5 {b:Bk} (ha:b.fls.Pairwise fun f g=>f.anchor≤g.anchor) {s:Stt} (hm:dp b.atoms s) {to kept shift body high:Int} (hto:ec s≤to) :
 ∃j,fc b.fls (ec s)+j≤fc b.fls to∧(dO b.atoms b.fls s to kept shift body).2=(b.fls.take (fc b.fls to)).drop (fc b.fls (ec s)+j)∧gY b ((dO b.atoms b.fls s to kept shift body).1.map (lq high)) (fc b.fls (ec s)) j:=by
 have hc:eU b.fls s to=(b.fls.take (fc b.fls to)).drop (fc b.fls (ec s)):=qt hto ha;have h1:=CK (L:=b.fls) hto;have h2:=Bp b.fls to;unfold dO;rw [if_pos hm];obtain ⟨j,g1,g2,g3⟩:=wU (top:=su b.atoms s kept) (shift:=shift) (body:=body) (eU b.fls s to);have hl:(eU b.fls s to).length=fc b.fls to - fc b.fls (ec s):=by rw [hc,List.length_drop,List.length_take]; omega
 refine ⟨j,by omega,by rw [g3,hc,List.drop_drop],by rw [g2]; simp; omega,fun i x f hx hf=>?_⟩;rw [g2,List.map_map,List.getElem?_map,Option.map_eq_some_iff] at hx;obtain ⟨g,e1,rfl⟩:=hx;rw [List.getElem?_take] at e1;split at e1
 ·rw [hc] at e1;have:=yN e1;rw [this] at hf;obtain rfl:=Option.some.inj hf;exact ⟨rfl,rfl,rfl,rfl,Int.le_refl _⟩
 ·cases e1
theorem x9 {b:Bk} (hb:fK b) (ha:b.fls.Pairwise fun f g=>f.anchor≤g.anchor) {s:Sta} (he:¬fM b s) {m:Nat} (hm:m≤calls b s.s) (hp:s.bK=(b.fls.take (calls b s.s)).drop m) :
 ∃j,m+j≤calls b (bE b s).2.s∧(bE b s).2.bK=(b.fls.take (calls b (bE b s).2.s)).drop (m+j)∧gY b (bE b s).1.ls m j:=by
 have hmay:iC b s:=Decidable.byContradiction fun h=>he (.inl h);have hg:=lZ hb he;have hcut:=hg.cut;obtain ⟨j0,t1,t2,t3⟩:=GV (body:=(bB b s.s).body) (high:=(bB b s.s).high) hp (sy b s.s) hm;revert hcut;unfold bE;split
 ·rename_i h0;intro _;obtain ⟨h1,h2⟩:=h0;have hc0:calls b s.s=0:=by rw [calls,if_pos h1,if_pos h2]
  have hc1:calls b (j6 b (bH b s.s .aC)).s=b.fls.length:=by rw [calls,if_pos h1]; rfl
  rw [hc0] at hm;obtain rfl:m=0:=by omega
  have hle:(b.fls.takeWhile (j4 (bH b s.s .aC).body)).length≤b.fls.length:=(List.takeWhile_sublist _).length_le;have hsp:b.fls.takeWhile (j4 (bH b s.s .aC).body)++b.fls.dropWhile (j4 (bH b s.s .aC).body)=b.fls:=List.takeWhile_append_dropWhile;refine ⟨(b.fls.takeWhile (j4 (bH b s.s .aC).body)).length,by show _≤calls b (j6 b (bH b s.s .aC)).s; rw [hc1]; omega,?_,?_⟩
  ·show b.fls.dropWhile _=(b.fls.take (calls b (j6 b (bH b s.s .aC)).s)).drop _;rw [hc1,List.take_length,Nat.zero_add]
   conv=>rhs; rw [←hsp]
   rw [List.drop_append_of_le_length (by simp [hsp]),List.drop_of_length_le (by simp [hsp])]; simp
  ·show gY b ([]++(b.fls.takeWhile (j4 (bH b s.s .aC).body)).map (lq (bH b s.s .aC).high)) 0 _;rw [List.nil_append];refine ⟨by simp,fun i x f hx hf=>?_⟩;rw [List.getElem?_map,Option.map_eq_some_iff] at hx;obtain ⟨g,e1,rfl⟩:=hx;have:b.fls[i]?=some g:=by
    rw [←hsp,List.getElem?_append_left (List.getElem?_eq_some_iff.1 e1).1]; exact e1
   rw [Nat.zero_add,this] at hf;obtain rfl:=Option.some.inj hf;exact ⟨rfl,rfl,rfl,rfl,Int.le_refl _⟩
 ·rename_i hn0;split
  ·intro _;have hcs:calls b (⟨s.s.atom,s.s.done,s.s.free && decide (s.s.atom < b.atoms.length)⟩:Stt)=calls b s.s:=by
    unfold calls;split
    ·rename_i h1;have:¬s.s.free=true:=fun h=>hn0 ⟨h1,h⟩;simp [this]
    ·rfl
   refine ⟨j0,?_,?_,?_⟩
   ·show m+j0≤calls b (⟨s.s.atom,s.s.done,s.s.free && decide (s.s.atom < b.atoms.length)⟩:Stt); rw [hcs]; exact t1
   ·show (cQ (bB b s.s).body s.bK 0).2.1=(b.fls.take (calls b (⟨s.s.atom,s.s.done,s.s.free && decide (s.s.atom < b.atoms.length)⟩:Stt))).drop _; rw [hcs]; exact t2
   ·exact t3
  ·rename_i hf;intro hcut;have hfm:dp b.atoms s.s:=hmay.2.resolve_right fun h=>hf (.inl h.1);have hne:b.atoms≠[]:=fun h=>by have:=hfm.1; rw [h] at this; simp at this; omega
   have hC:calls b s.s=fc b.fls (ec s.s):=by rw [calls,if_neg hne]
   have hleft:(cQ (bB b s.s).body s.bK 0).2.1=[]:=Decidable.byContradiction fun h=>hf (.inr (.inl h));have hCl:=sy b s.s;have hmj:m+j0=fc b.fls (ec s.s):=by
    rw [hleft] at t2;have:=congrArg List.length t2;simp only [List.length_nil,List.length_drop,List.length_take] at this;omega
   have hrl:dF b (cM b s)≤b.atoms.length:=l4;have hbl:=hb.brk;have hbody:=gN hb.toBkFull s.s hfm.1.1;have key:∀(to kept shift body:Int) (t:Stt),ec s.s≤to→ec t=to→∀(hls:List Frg) (hpd:List Flo),hls=(cM b s).ls++(dO b.atoms b.fls s.s to kept shift body).1.map (lq (bB b s.s).high)→hpd=(dO b.atoms b.fls s.s to kept shift body).2 →
    ∃j,m+j≤calls b t∧hpd=(b.fls.take (calls b t)).drop (m+j)∧gY b hls m j:=fun to kept shift body t g1 g2 hls hpd g3 g4=>by
    obtain ⟨j1,u1,u2,u3⟩:=E5 ha hfm (kept:=kept) (shift:=shift) (body:=body) (high:=(bB b s.s).high) g1;have hct:calls b t=fc b.fls to:=by rw [calls,if_neg hne,g2]
    rw [←hmj] at u1 u2 u3;refine ⟨j0+j1,by rw [hct]; omega,by rw [g4,u2,hct,Nat.add_assoc],?_⟩;rw [g3];exact gY.app t3 u3
   show ∃j,m+j≤calls b (ee b (cM b s)).s∧(ee b (cM b s)).bK=(b.fls.take (calls b (ee b (cM b s)).s)).drop (m+j)∧gY b (ek b (cM b s)).ls m j;have hcb:ec s.s≤s.s.atom+1:=by unfold ec; split <;> omega
   unfold ek ee;by_cases hok:eQ b.brks (cM b s).s.atom (dF b (cM b s))
   ·rw [if_pos hok,if_pos hok];obtain ⟨c,c1,c2,c3⟩:=nC hok (by omega);rw [show vP b (cM b s)=c from c1,Int.toNat_natCast];have c2':s.s.atom < c:=c2;exact key c (dM b (cM b s)) (cM b s).shift (cM b s).body _ (by omega) (by show ec ⟨c,0,_⟩=c; rfl) _ _ rfl rfl
   ·rw [if_neg hok,if_neg hok];have hso:oF b.atoms s.s (bB b s.s).body:=⟨hfm,hbody⟩
    refine key (s.s.atom+1) 0 0 (cM b s).body _ hcb ?_ _ _ rfl rfl;show ec (dT b.atoms s.s (bB b s.s).body)=_;rw [dT,if_pos hso,iM];obtain ⟨⟨h3,h4⟩,h5,h6⟩:=hfm;split
    ·rename_i hlt;simp only [eN,Frg.cut,Frg.bJ,fg] at hlt ⊢;unfold ec;simp only;rw [if_pos];obtain ⟨k,hk⟩:∃k:Nat,s.s.atom=k:=⟨s.s.atom.toNat,by omega⟩
     have hp:=hb.pos _ (List.getElem_mem (show k < b.atoms.length by omega));rw [hk,bj (show k < b.atoms.length by omega)] at h6 hlt ⊢;omega
    ·rfl
def lsO:Option Pag→List Frg
 | none=>[]
 | some p=>p.ls
def Db (b:Bk):Int→Int→Nat→List (Option Pag)→Prop
 | a,d,m,[]=>a=b.atoms.length∧d=0∧m=b.fls.length
 | a,d,m,x::r=>∃a' d' j,goP b.atoms a d (fsO x)=some (a',d')∧gY b (lsO x) m j∧(∀i f,i < m+j→b.fls[i]?=some f→b.atoms≠[]→f.anchor < (if d' > 0 then a'+1 else a'))∧Db b a' d' (m+j) r
theorem gY.nil (b:Bk) (m:Nat):gY b [] m 0:=⟨rfl,fun i x f h=>by simp at h⟩
theorem vg {L:List Flo} (ha:L.Pairwise fun f g=>f.anchor≤g.anchor) {B:Int} {i:Nat} {f:Flo} (hi:i < fc L B) (hf:L[i]?=some f):f.anchor < B:=by
 have h:=wm (B:=B) ha;have hm:f∈L.filter fun f=>decide (f.anchor < B):=by
  rw [h];refine List.mem_of_getElem? (i:=i) ?_;rw [List.getElem?_take,if_pos hi]; exact hf
 simpa using (List.mem_filter.1 hm).2
theorem DK {b:Bk} (hb:fK b) {L:Int} (hL:mn b L) (ha:b.fls.Pairwise fun f g=>f.anchor≤g.anchor) (hn:0 < b.atoms.length→∀f∈b.fls,f.anchor < b.atoms.length) :
 ∀(f:Nat) (s:Sta) (no:Int) (m:Nat),iC b s→mu2 b L s < f→m≤calls b s.s→s.bK=(b.fls.take (calls b s.s)).drop m→Db b s.s.atom s.s.done m (shK b f s no)
 | 0,s,no,m,_,h,_,_=>by omega
 | f+1,s,no,m,hm,h,hc,hp=>by
   rw [shK];by_cases he:fM b s
   ·rw [if_pos he];obtain ⟨h2,h3,h4⟩:=he.resolve_left (fun h=>h hm);have h5:s.s.done=0:=by
     rcases hm.2 with h | h
     ·have:=h.1.2; omega
     ·exact h.2
    have hcl:=sy b s.s;have hall:calls b s.s=b.fls.length:=by
     unfold calls;split
     ·rw [h3]; rfl
     ·rename_i hne;have hpos:0 < b.atoms.length:=List.length_pos_iff.2 hne;have hB:ec s.s=b.atoms.length:=by unfold ec; rw [if_neg (by omega)]; exact h2
      unfold fc;rw [hB,List.filter_eq_self.2 fun g hg=>by simpa using hn hpos g hg]
    rw [h4] at hp;have hl:=congrArg List.length hp;simp only [List.length_nil,List.length_drop,List.length_take] at hl;exact ⟨h2,h5,by omega⟩
   ·rw [if_neg he];have hpt:=rW hb he;have hne:=zk hb hL he;have hmn:=D2 hb he;obtain ⟨j,g1,g2,g3⟩:=x9 hb ha he hc hp;have one:∀no',Db b s.s.atom s.s.done m (some (bE b s).1::shK b f (bE b s).2 no'):=fun no'=>by
     refine ⟨_,_,j,hpt,g3,fun i fl hi hf hat=>?_,DK hb hL ha hn f _ no' (m+j) hmn (by omega) g1 g2⟩;refine vg ha (i:=i) ?_ hf;have:calls b (bE b s).2.s=fc b.fls (ec (bE b s).2.s):=by rw [calls,if_neg hat]
     rw [this] at g1;have e:ec (bE b s).2.s=if (bE b s).2.s.done > 0 then (bE b s).2.s.atom+1 else (bE b s).2.s.atom:=rfl
     rw [←e]; omega
    split
    ·refine ⟨s.s.atom,s.s.done,0,rfl,gY.nil b m,fun i fl hi hf hat=>?_,one _⟩;refine vg ha (i:=i) ?_ hf;rw [calls,if_neg hat] at hc;have e:ec s.s=if s.s.done > 0 then s.s.atom+1 else s.s.atom:=rfl
     rw [←e]; omega
    ·exact one _
theorem Hg {b:Bk} (hb:fK b) {L:Int} (hL:mn b L) (ha:b.fls.Pairwise fun f g=>f.anchor≤g.anchor) (h0:∀f∈b.fls,0≤f.anchor) (hn:0 < b.atoms.length→∀f∈b.fls,f.anchor < b.atoms.length) :
 Db b 0 0 0 (shK b 1000000001 ⟨⟨0,0,true⟩,[]⟩ 0):=by
 have hc:calls b (⟨0,0,true⟩:Stt)=0:=by
  unfold calls;split
  ·rfl
  ·show fc b.fls 0=0;unfold fc;rw [o9 h0]; rfl
 exact DK hb hL ha hn 1000000001 ⟨⟨0,0,true⟩,[]⟩ 0 0 (Cc b hb.pos) (by have:=uu hL; omega) (Nat.zero_le _) (by
  show []=(b.fls.take (calls b (⟨0,0,true⟩:Stt))).drop 0;rw [hc]; rfl)
theorem D6 {l:List Nd} (hl:dJ l) {w h:Int} (he:gu l w h=0):Db (cz l w h) 0 0 0 (shK (cz l w h) 1000000001 ⟨⟨0,0,true⟩,[]⟩ 0):=by
 obtain ⟨g1,g2⟩:=BS l w;exact Hg (oL hl he) (tw he) g1 (fun f hf=>(g2 f hf).1) (fun h f hf=>(g2 f hf).2 h)
def mq (a d:Int):Int:=if d > 0 then a+1 else a
def zB (b:Bk):Int→Int→Nat→List Pag→Prop
 | a,d,m,[]=>a=b.atoms.length∧d=0∧m=b.fls.length
 | a,d,m,p::r=>∃a' d' j,goP b.atoms a d p.fs=some (a',d')∧gY b p.ls m j∧(∀i f,i < m+j→b.fls[i]?=some f→b.atoms≠[]→f.anchor < mq a' d')∧zB b a' d' (m+j) r
theorem AP {b:Bk}:∀ {L:List (Option Pag)} {a d:Int} {m:Nat} (k:Nat),Db b a d m L→zB b a d m ((List.range L.length).map fun i=>pgN (i+k) (L.getD i none))
 | [],_,_,_,_,h=>h
 | x::r,a,d,m,k,h=>by
   obtain ⟨a',d',j,h1,h2,h3,h4⟩:=h;rw [List.length_cons,List.range_succ_eq_map,List.map_cons,List.map_map];have hx:(pgN (0+k) x).fs=fsO x∧(pgN (0+k) x).ls=lsO x:=by cases x <;> exact ⟨rfl,rfl⟩
   refine ⟨a',d',j,?_,?_,h3,?_⟩
   ·rw [←h1]; exact congrArg _ hx.1
   ·have e:(pgN (0+k) ((x::r).getD 0 none)).ls=lsO x:=hx.2;rw [e]; exact h2
   ·have:=AP (k+1) h4;have e:((fun i=>pgN (i+k) ((x::r).getD i none)) ∘ Nat.succ)=fun i=>pgN (i+(k+1)) (r.getD i none):=by
     funext i;simp only [Function.comp,List.getD_cons_succ];rw [show Nat.succ i+k=i+(k+1) by omega]
    rw [e];exact this
theorem Cj {l:List Nd} (hl:dJ l) {w h:Int} (he:gu l w h=0):zB (cz l w h) 0 0 0 (fo (cz l w h)):=by
 have hr:=D6 hl he;generalize cz l w h=b at *;unfold fo;split
 ·rename_i h0;have h1:b.atoms=[]:=List.eq_nil_of_length_eq_zero (by omega);have h2:b.fls=[]:=List.eq_nil_of_length_eq_zero (by omega);refine ⟨0,0,0,rfl,gY.nil b 0,fun i f hi hf hat=>absurd h1 hat,?_,rfl,?_⟩
  ·rw [h1]; rfl
  ·rw [h2]; rfl
 ·exact AP 0 hr
def eG (l:List Atm) (i:Int):Int→Int→List Frg→List Int
 | _,_,[]=>[]
 | a,d,x::r=>(if d=0 then [i] else [])++(if d+x.h=(atG l a).h then eG l i (a+1) 0 r else eG l i a (d+x.h) r)
theorem rC {l:List Atm} {a d a' d':Int} {x:Frg} {r:List Frg} (h:goP l a d (x::r)=some (a',d')) :
 ((0≤a∧a < l.length)∧x.atom=a∧x.node=(atG l a).node∧x.fr=d∧1≤x.h∧x.w=(atG l a).w∧x.x=(atG l a).x∧d+x.h≤(atG l a).h) ∧
 (d+x.h=(atG l a).h∧goP l (a+1) 0 r=some (a',d')∨d+x.h < (atG l a).h∧r=[]∧a'=a∧d'=d+x.h):=by
 rw [goP] at h;split at h
 ·rename_i hc;refine ⟨hc,?_⟩;split at h
  ·rename_i he; exact .inl ⟨he,h⟩
  ·rename_i he;split at h
   ·rename_i hr;simp only [Oi,Prod.mk.injEq] at h;obtain ⟨-, -, -, -, -, -, -,h8⟩:=hc;exact .inr ⟨by omega,hr,h.1.symm,h.2.symm⟩
   ·cases h
 ·cases h
theorem l5 {l:List Atm} {i:Int}:∀ {fs:List Frg} {a d a' d':Int},0≤a→0≤d→goP l a d fs=some (a',d')→((eG l i a d fs).length:Int)=mq a' d' - mq a d∧(∀x∈eG l i a d fs,x=i)∧0≤a'∧0≤d'
 | [],a,d,a',d',h0,h1,h=>by
   simp only [goP,Oi,Prod.mk.injEq] at h;obtain ⟨rfl,rfl⟩:=h;exact ⟨by simp [eG],fun x hx=>(by cases hx),h0,h1⟩
 | x::r,a,d,a',d',h0,h1,h=>by
   obtain ⟨⟨-, -, -, -,h5, -, -, -⟩,h9⟩:=rC h;have hd:(((if d=0 then [i] else []:List Int).length:Nat):Int)=if d=0 then 1 else 0:=by split <;> rfl
   have hm:∀y∈(if d=0 then [i] else []:List Int),y=i:=fun y hy=>by
    split at hy
    ·exact List.mem_singleton.1 hy
    ·cases hy
   rw [eG,List.length_append];rcases h9 with ⟨h6,h7⟩ | ⟨h6,h7,h8,h10⟩
   ·rw [if_pos h6];obtain ⟨g1,g2,g3⟩:=l5 (i:=i) (by omega) (Int.le_refl _) h7;refine ⟨?_,fun y hy=>(List.mem_append.1 hy).elim (hm y) (g2 y),g3⟩;have e:mq (a+1) 0=a+1:=rfl;rw [e] at g1;have e2:mq a d=if d=0 then a else a+1:=by unfold mq; split <;> split <;> omega
    rw [e2];split at hd <;> rename_i hz
    ·rw [if_pos hz]; omega
    ·rw [if_neg hz]; omega
   ·subst h7 h8 h10;rw [if_neg (show ¬(d+x.h=(atG l a').h) by omega)];refine ⟨?_,fun y hy=>(List.mem_append.1 hy).elim (hm y) (fun hy=>by cases hy),h0,by omega⟩;have e1:mq a' (d+x.h)=a'+1:=if_pos (by omega);have e2:mq a' d=if d=0 then a' else a'+1:=by unfold mq; split <;> split <;> omega
    rw [e1,e2];simp only [eG,List.length_nil];split at hd <;> rename_i hz
    ·rw [if_pos hz]; omega
    ·rw [if_neg hz]; omega
def eL (l:List Atm):Int→Int→Int→List Pag→List Int
 | _,_,_,[]=>[]
 | i,a,d,p::r=>eG l i a d p.fs++(match goP l a d p.fs with
   | some (a',d')=>eL l (i+1) a' d' r
   | none=>[])
theorem lJ {l:List Atm} {i a d a' d':Int} {p:Pag} {r:List Pag} (h:goP l a d p.fs=some (a',d')):eL l i a d (p::r)=eG l i a d p.fs++eL l (i+1) a' d' r:=by rw [eL,h]
theorem CT (l:List Atm) (i a d:Int) (x:Frg) (r:List Frg):eG l i a d (x::r)=(if d=0 then [i] else [])++(if d+x.h=(atG l a).h then eG l i (a+1) 0 r else eG l i a (d+x.h) r):=rfl
theorem nq {b:Bk}:∀ {P:List Pag} {i a d:Int} {m:Nat},0≤a→0≤d→zB b a d m P→((eL b.atoms i a d P).length:Int)=b.atoms.length - mq a d
 | [],i,a,d,m,_,_,h=>by
   obtain ⟨rfl,rfl, -⟩:=h;simp [eL,mq]
 | p::r,i,a,d,m,h0,h1,h=>by
   obtain ⟨a',d',j,g1,g2,g3,g4⟩:=h;obtain ⟨w1,w2,w3,w4⟩:=l5 (i:=i) h0 h1 g1;rw [lJ g1,List.length_append];have:=nq (i:=i+1) w3 w4 g4;omega
end Go.Vc

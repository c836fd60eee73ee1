/- Part 11 of the library of this proof. -/
import Derived.Test.YtmkknagmafmcpaaGreatDoorW10
set_option linter.all false
set_option maxHeartbeats 8000000
set_option maxRecDepth 100000
open Go.Proofs.Tryz
namespace Go.Vc
open Go.Proofs
def wu(b:List Sb)(p:Q7)(s:Q6):Int:=
 if p.kind≠1\/s.done>0 then -1 else if(Tj b s.atom.toNat).forced=3 then 0 else if(Tj b s.atom.toNat).forced=4 then 1 else -1
def Is(b:List Sb)(hb:b.length<=1000000)(p:Q7)(s:Q6)(h0:0<=s.atom)(h1:s.atom<b.length):aP prog 41 [bR b,bw p,br s] (vI (wu b p s)):=λU=>by
 refine e41.r (by simp[c41]) ?_;have hs:=aa.refl U;obtain⟨no,kd,hh,ff,ll⟩:=p;obtain⟨a,d,fr⟩:=s;obtain⟨k,rfl⟩:∃k:Nat,a=k:=⟨a.toNat,by simp only at h0;omega⟩
 have hk:k<b.length:=by simp only at h1;omega
 have Ru:(bw ⟨no,kd,hh,ff,ll⟩).cells=[vI no,vI kd,aO hh,aO ff,aO ll]:=rfl;have hpp:(bw ⟨no,kd,hh,ff,ll⟩).stays=true:=rfl;have Sv:(br ⟨k,d,fr⟩).cells=[vI k,vI d,.bool fr]:=rfl;have Tv:(br ⟨k,d,fr⟩).stays=true:=rfl;have QM:=gJ b;have hbc:=gN b;obtain⟨⟨c,f,r⟩,hf⟩:∃x,b[k]=x:=⟨_,rfl⟩
 have E':∀U,bL U 3 (bR b) (.int .i64 k)=some (.rp (.agg [vI c,vI f,vI r])):=λU=>by rw[xV hk,hf,ga]
 have hg:Tj b ((k:Int)).toNat=⟨c,f,r⟩:=by simp[Tj,hk,hf]
 have hR:wu b ⟨no,kd,hh,ff,ll⟩ ⟨k,d,fr⟩=if kd≠1\/d>0 then -1 else if f=3 then 0 else if f=4 then 1 else -1:=by simp only[wu,hg]
 generalize wu b ⟨no,kd,hh,ff,ll⟩ ⟨k,d,fr⟩=R at*;refine ad.mix 6 ?_;apply sR;simp only[go_sem,seval,c41,Ru,hpp,Sv,Tv,QM,hbc];refine ae λi4 Z4 s4 a4 f4=>?_;have z4:=hs.none f4;replace hs:=hs.trans s4;simp only[go_sem,seval,Sv];refine ae λi5 Z5 s5 a5 f5=>?_;have R0:=ao a4 f5;replace a4:=s5 _ _ a4;have z5:=hs.none f5;replace hs:=hs.trans s5;by_cases q1:kd=1
 .have q1':(kd≠1)=False:=by simp[q1]
  by_cases q2:d>0
  .have q2':(d>0)=True:=PK q2;simp only[go_sem,seval,a4,a5,q1',q2',Ru,Sv];rw[aE (.inr q2)]at hR;exact au.pure hs (congrArg vI hR.symm)
  .have q2':(d>0)=False:=PG q2;rw[aF (λh=>h.elim (λh=>h q1) q2)]at hR;by_cases q3:f=3
   .have q3':(f=3)=True:=PK q3;simp only[go_sem,seval,a4,a5,q1',q2',q3',E',Ru,Sv,QM,hbc];rw[aE q3]at hR;exact au.pure hs (congrArg vI hR.symm)
   .have q3':(f=3)=False:=PG q3;rw[aF q3]at hR;by_cases q4:f=4
    .have q4':(f=4)=True:=PK q4;simp only[go_sem,seval,a4,a5,q1',q2',q3',q4',E',Ru,Sv,QM,hbc];rw[aE q4]at hR;exact au.pure hs (congrArg vI hR.symm)
    .have q4':(f=4)=False:=PG q4;simp only[go_sem,seval,a4,a5,q1',q2',q3',q4',E',Ru,Sv,QM,hbc];rw[aF q4]at hR;exact au.pure hs (congrArg vI hR.symm)
 .have q1':(kd≠1)=True:=PK q1;simp only[go_sem,seval,a4,a5,q1',Ru,Sv];rw[aE (.inl q1)]at hR;exact au.pure hs (congrArg vI hR.symm)
open Go.Proofs
def xG{P9 i1 i2 e1 e2:Nat}{n:Int}{x:V}{U:ag}{Post:Bool->ag->Prop}(r1:PM .i64 (n+1))(h1:U i1=some ⟨e1,1,[vI n]⟩)(h2:U i2=some ⟨e2,1,[.yl P9]⟩)(PZ:i1≠i2)
 (hy:YC prog P9 [x] (u' U i1 ⟨e1,1,[vI (n+1)]⟩) Post):aC prog 37 [x,.ptr i1 0 0,.ptr i2 0 0] U λr Z'=>∃b,r=.bool b/\Post b Z':=by
 refine e37.r (by simp[c37]) ?_;refine ad.mix 6 ?_;apply sR;simp only[go_sem,seval,c37,h1,r1,h2,ab PZ,ab PZ.symm];refine ad.lK (Post:=Post) rfl rfl rfl hy ?_;intro b Z' hb;apply sR;simp only[go_sem,seval];exact⟨_,Z',aa.refl _,Wk.refl (aa.refl _) _,b,rfl,hb⟩
def WA(x:Nd):Int:=if x.kind=2 then x.line*x.words.length else if x.kind=3 then x.h else 0
def Um(l:List Nd):Nat->Int
 |0=>0
 |i+1=>Um l i+WA (Qb l i)
def oE{x:Nd}(h:Xx x):0<=WA x:=by
 have h1:=h.line.1;have h2:=h.h.1;unfold WA;split
 .exact Int.mul_nonneg h1 (by omega)
 .split<;>omega
def zW{l:List Nd}(hb:Qs l=true){a:Nat}:∀n,a+n<=l.length->Um l a<=Um l (a+n)
 |0,_=>Int.le_refl _
 |n+1,h=>by
  have ih:=zW (a:=a) hb n (by omega);have h1:Xx (Qb l (a+n)):=by rw[iU (show a+n<l.length by omega)];exact gi hb _
  have h2:=oE h1;rw[<-Nat.add_assoc,Um];omega
def Vg(l:List Qy):Int:=(l.map (·.h)).sum
def Cd(l m:List Qy):Vg (l++m)=Vg l+Vg m:=by unfold Vg;rw[eo,List.sum_append]
def x9{l:List Nd}{rs:List Rm}(hD:W3 l rs):∀(k a e:Nat) (s:WS) (C:Nat),e-a<=k->a<=e->e<=l.length->cj l a e=true->fG s C->Vg s.atoms<=Um l a->Vg (ee l rs k a e s).atoms<=Um l e
 |0,a,e,s,C,hk,Vm,_,_,_,h=>by
  obtain rfl:a=e:=by omega
  exact h
 |k+1,a,e,s,C,hk,Vm,he,hr,h,hs=>by
  rw[ee];by_cases C':a<e
  .rw[aE C'];obtain⟨h1,h2⟩:=de he hr (Qh a) C';obtain⟨h3,h4⟩:=dW he hr C';have Qf:Xx (Qb l a):=by rw[iU (by omega)];exact gi hD.Wy (by omega)
   have step:∀t,(∃D,fG t D)->Vg t.atoms<=Um l (a+(Qg l a).toNat)->Vg (ee l rs k (a+(Qg l a).toNat) e t).atoms<=Um l e:=λt ⟨D,ht⟩ hA=>
    x9 hD k _ e t D (by omega) (by omega) he h3 ht hA
   have R6:WA (Qb l a)+Vg s.atoms<=Um l (a+1):=by rw[Um];omega
   have one:Um l (a+1)<=Um l (a+(Qg l a).toNat):=by
    obtain⟨m,hm⟩:∃m,(Qg l a).toNat=1+m:=⟨(Qg l a).toNat-1,by omega⟩
    rw[hm,<-Nat.add_assoc];exact zW hD.Wy m (by omega)
   split
   .rename_i k1;have hz:WA (Qb l a)=0:=by rw[WA,aF (by omega),aF (by omega)]
    have hI2:=gn hD k (a+1) (a+(Qg l a).toNat) _ _ (by omega) (by omega) (by omega) h4 (eS h Qf.st);have hS2:=x9 hD k (a+1) (a+(Qg l a).toNat) _ _ (by omega) (by omega) (by omega) h4 (eS h Qf.st) (show Vg s.atoms<=_ by omega);exact step _ ⟨_,jS hI2 Qf.st⟩ hS2
   .split
    .rename_i k1 k2;refine step _ ⟨_,kY h Qf a⟩ (Int.le_trans ?_ one);have hp:=l9 a (Qb l a).line (dz s.g' (Qb l a).words (Qb l a).space (Qb l a).line (eB rs a) (Qb l a).words.length 0 (s.PS.y+s.PS.m)) s;have hlen:=ju s.g' (Qb l a).words (Qb l a).space (Qb l a).line (eB rs a) (Qb l a).words.length 0 (s.PS.y+s.PS.m);have e:(s.text rs a (Qb l a)).atoms=_:=hp;rw[e,Cd];generalize dz s.g' (Qb l a).words (Qb l a).space (Qb l a).line (eB rs a) (Qb l a).words.length 0 (s.PS.y+s.PS.m)=L at*;have gX:Vg (L.map (eV a (Qb l a).line))=(Qb l a).line*L.length:=by
      clear e hp hlen
      induction L with
      |nil=>simp[Vg]
      |cons x L ih=>
       have:Vg ((x::L).map (eV a (Qb l a).line))=(Qb l a).line+Vg (L.map (eV a (Qb l a).line)):=rfl;rw[this,ih,Rc,Int.natCast_add,Int.mul_add];omega
     have hle:(Qb l a).line*(L.length:Int)<=(Qb l a).line*((Qb l a).words.length:Int):=Int.mul_le_mul_of_nonneg_left (by omega) Qf.line.1;have hz:WA (Qb l a)=(Qb l a).line*((Qb l a).words.length:Int):=by rw[WA,aE k2]
     omega
    .split
     .rename_i k1 k2 k3;refine step _ ⟨_,kP h Qf a⟩ (Int.le_trans ?_ one);have hz:WA (Qb l a)=(Qb l a).h:=by rw[WA,aF k2,aE k3]
      have e:(WS.mono l rs s a (Qb l a)).atoms=s.atoms++[⟨2,a,0,0,(dQ s.g' (lk s.g' (Qb l a).w (Qb l a).h (eB rs a) (s.PS.y+s.PS.m)) (Qb l a).h (eB rs a)).a,lk s.g' (Qb l a).w (Qb l a).h (eB rs a) (s.PS.y+s.PS.m),(Qb l a).w,(Qb l a).h⟩]:=rfl;rw[e,Cd];simp only[Vg,dO,List.map_nil,List.sum_cons,List.sum_nil];simp only[Vg]at R6;omega
     .have k4:(Qb l a).kind=4:=by rename_i g1 g2 g3;rcases Qf.kind with h|h|h|h;exact absurd h g1;exact absurd h g2;exact absurd h g3;exact h
      have hz:=oE Qf;exact step _ ⟨_,jM hD h (by omega) Qf k4⟩ (show Vg s.atoms<=_ by omega)
  .rw[aF C'];obtain rfl:a=e:=by omega
   exact hs
def LA{l:List Nd}(hb:Qs l=true)(hn:l.length<=2000){w:Int}(h1:1<=w)(h2:w<=1099511627776):Vg (cZ l w).atoms<=Um l l.length:=by
 have hD:=uM hb hn h1 h2;have hr:cj l 0 l.length=true:=by simp only[Qs,Ba]at hb;exact hb.2
 have hI:fG ⟨[],[],0,⟨0,0⟩⟩ 0:=⟨⟨by simp,by simp,by simp,by simp,by simp⟩,by simp,by simp⟩
 exact x9 hD l.length 0 l.length ⟨[],[],0,⟨0,0⟩⟩ 0 (by omega) (by omega) (Qh _) hr hI (by simp[Vg,Um])
def zz{l:List Nd}(hb:Qs l=true){s:Sm}(hs:0<=s.G'/\s.G'<=1099511627777):∀i,i<=l.length->0<=(gC l s i).G'/\(gC l s i).G'<=1099511627777/\min (Um l i) 1099511627777<=(gC l s i).G'
 |0,_=>⟨hs.1,hs.2,by simp only[Um,gC];omega⟩
 |i+1,hi=>by
  obtain⟨h1,h2,h3⟩:=zz hb hs i (by omega);have Qf:Xx (Qb l i):=by rw[iU (by omega)];exact gi hb (by omega)
  have hz:=oE Qf;have P8:=Qf.st;rw[gC,Um,SQ (by omega)];rw[iU (show i<l.length by omega)]at Qf hz P8|-;simp only;unfold oz;split
  .rename_i k1;have e:WA l[i]=0:=by rw[WA,aF (by omega),aF (by omega)]
   have g1:=P8.top.1;have g2:=P8.P0.1;have g3:=P8.PQ.1;have g4:=P8.H'.1;have g5:=P8.head.1;simp only[jT];omega
  .split
   .rename_i k1 k2;have e:WA l[i]=l[i].line*l[i].words.length:=by rw[WA,aE k2]
    simp only;rw[rW ⟨h1,h2⟩ Qf.line.1];omega
   .rename_i k1 k2;have hh:=Qf.h.1;have e:WA l[i]<=l[i].h:=by rw[WA,aF k2];split<;>omega
    simp only[jT];omega
def B2{l:List Nd}(hb:Qs l=true)(h:(iR l).1.G'<=1099511627776):Um l l.length<=(iR l).1.G':=by
 unfold iR at h|-;rw[aE hb]at h|-;have:=(zz hb (s:=⟨0,0,l.length,0⟩) ⟨Int.le_refl _,(by decide:(0:Int)<=1099511627777)⟩ l.length (Qh _)).2.2;simp only at h|-;omega
def Cg{cnt:Nat->Nat}:∀{n a:Nat} {x:Int},x∈VN cnt a n->∃i:Nat,x=i/\a<=i/\i<a+n/\0<cnt i
 |0,a,x,h=>by rw[jF]at h;cases h
 |n+1,a,x,h=>by
  rw[gM]at h;rcases dM.1 h with h|h
  .obtain⟨h1,rfl⟩:=List.mem_replicate.1 h;exact⟨a,rfl,Qh _,by omega,by omega⟩
  .obtain⟨i,h1,h2,h3,h4⟩:=Cg h;exact⟨i,h1,by omega,by omega,h4⟩
def Gb{l:List Nd}(hb:Qs l=true)(hn:l.length<=2000){w:Int}(h1:1<=w)(h2:w<=1099511627776):∀a∈(cZ l w).atoms,∃i:Nat,a.node=i/\i<l.length/\((Qb l i).kind=2\/(Qb l i).kind=3):=λa ha=>by
 have hD:=uM hb hn h1 h2;have hr:cj l 0 l.length=true:=by simp only[Qs,Ba]at hb;exact hb.2
 have hI:fG ⟨[],[],0,⟨0,0⟩⟩ 0:=⟨⟨by simp,by simp,by simp,by simp,by simp⟩,by simp,by simp⟩
 obtain⟨-,cnt,hc,hco⟩:=sx hD l.length 0 l.length ⟨[],[],0,⟨0,0⟩⟩ 0 (by omega) (by omega) (Qh _) hr hI (by simp);have hm:a.node∈(ee l (kW l w) l.length 0 l.length ⟨[],[],0,⟨0,0⟩⟩).atoms.map (·.node):=eI.2 ⟨a,ha,rfl⟩;rw[hc]at hm;simp only[List.map_nil,jU]at hm;obtain⟨i,e,_,h3,h4⟩:=Cg hm;refine⟨i,e,by omega,?_⟩;have:=hco i (Nat.zero_le _) (by omega);unfold okN at this;split at this
 .rename_i k;exact .inl k
 .split at this
  .rename_i k;exact .inr k
  .have:=of_decide_eq_true this;omega
def least_le{l:List Nd}{h:Int}:∀{n j:Nat},j<n->((Qb l j).kind=2\/(Qb l j).kind=3)->iC l h n<=(x8 l j h).body
 |0,j,hj,_=>by omega
 |n+1,j,hj,hk=>by
  rw[iC];by_cases e:j=n
  .subst e;rw[aE hk];omega
  .have:=least_le (l:=l) (h:=h) (show j<n by omega) hk;split<;>omega
def wi{l:List Nd}{h:Int}(hh:1<=h):∀n,1<=iC l h n
 |0=>hh
 |n+1=>by
  have h1:=wi (l:=l) hh n;have h2:1<=(x8 l n h).body:=qx hh _;rw[iC];split<;>omega
def I7{l:List Nd}{h:Int}(hb:Qs l=true)(h1:1<=h)(h2:h<=1099511627776):ja l h=true:=by
 unfold ja;rw[hb];simp[h1,h2]
structure kc(b:Bk)(L:Int):Prop where
 pos:1<=L
 body:∀s:Q6,0<=s.atom->b.atoms≠[]->L<=(bG b s).body
 rest:eM b 0<=L*32768
 na:b.atoms.length<=10000
 nf:b.PX.length<=10000
def I5{L:Int}(h1:1<=L):mulR L 32768<=L*32768:=by
 have e:bz 32768=32768:=by decide
 have e2:(1099511627776:Int).tdiv (max 32768 (-32768))=33554432:=by decide
 unfold mulR;rw[e,e2];have hc:bz L<=L/\0<=bz L:=by unfold bz;(repeat' split)<;>omega
 split
 .rename_i h;obtain⟨_,h|h⟩:=h
  .split<;>omega
  .exact absurd h (by have:(-1099511627776:Int).tdiv (max 32768 (-32768))=-33554432:=by decide
                      rw[this];omega)
 .have:=hc.1;omega
def ug{l:List Nd}{w h:Int}(he:jJ l w h=0):kc (gv l w h) (gS l h):=by
 have he0:=he;obtain⟨hw,hh,hc⟩:=kU he;obtain⟨RZ,hn,hwo,ZI⟩:=qd hc;have hG:=xF RZ hn hw.1 hw.2;have ZP:=hG.len;have hl2:=hG.TH;have hm:=I7 RZ hh.1 hh.2;have hL:gS l h=iC l h l.length:=by rw[gS,aE hm]
 have hp:1<=gS l h:=by rw[hL];exact wi hh.1 _
 refine⟨hp,λs h0 PZ=>?_,?_,by show(cZ l w).atoms.length<=_;omega,by show(cZ l w).g'.length<=_;omega⟩
 .unfold bG;rw[aF PZ];have hlen:0<(gv l w h).atoms.length:=rK.2 PZ;obtain⟨k,hk⟩:∃k:Nat,min s.atom (((gv l w h).atoms.length:Int)-1)=k:=⟨(min s.atom (((gv l w h).atoms.length:Int)-1)).toNat,by omega⟩
  have RG:k<(gv l w h).atoms.length:=by omega
  rw[hk,bn RG];obtain⟨i,e1,e2,e3⟩:=Gb RZ hn hw.1 hw.2 _ (QF (show k<(cZ l w).atoms.length from RG));have e4:(gv l w h).atoms[k].node=i:=e1;rw[e4,rT,hL];have Xg:ja (gv l w h).nodes (gv l w h).h=true:=hm;rw[aE ⟨Xg,by omega,show((i:Nat):Int)<(l.length:Nat) by omega⟩,eL];exact least_le e2 e3
 .have h1:eM (gv l w h) 0=Vg (cZ l w).atoms:=rfl;have h2:=LA RZ hn hw.1 hw.2;have h3:(iR l).1.G'<=1099511627776:=by
   unfold fj at hc;rw[aE RZ]at hc;split at hc
   .cases hc
   .omega
  have h4:=B2 RZ h3;have h5:¬(iR l).1.G'>mulR (gS l h) 32768:=λh=>by
   unfold jJ at he0;rw[aF (λg=>g ⟨hw,hh⟩),aF (λg=>g hc),aE h]at he0;cases he0
  have h6:=I5 hp;omega
def o7(b:Bk)(L:Int)(s:RH):Int:=((b.atoms.length:Int)-s.s.atom)+(eM b s.s.atom.toNat-s.s.done)/L
def Zy(b:Bk)(L:Int)(s:RH):Nat:=(o7 b L s).toNat*(2*b.PX.length+3)+(if s.s.free=true then b.PX.length+1 else 0)+s.bV.length
def jA.bV{b:Bk}{x:Wx}{t:RH}(h:jA b x t):t.bV.length<=b.PX.length:=by
 cases h with
 |whole c fr p h1 h2 h3=>exact h3
 |more d p h1 h2 h3=>exact h3
def zL{b:Bk}(hb:ei b){L:Int}(hL:kc b L){s:RH}(he:¬fC b s):Zy b L (bP b s).2<Zy b L s:=by
 have Qu:iT b s:=Decidable.byContradiction λh=>he (.inl h);have WM:¬(s.s.atom=b.atoms.length/\s.s.free=false/\s.bV=[]):=λh=>he (.inr h);have RF:0<=s.s.atom:=by rcases Qu.2 with h|h;exact h.1.1;omega
 have QQ:=hb.pos;have hg:=kL hb he;have YV:=hg.cut;revert YV;unfold bP;split
 .rename_i h0;intro _;obtain⟨h1,h2⟩:=h0;have hr:∀a,eM b a=0:=λa=>by unfold eM;rw[h1];simp
  have hd:s.s.done=0/\s.s.atom=0:=by
   rcases Qu.2 with h|h
   .have:=h.1;rw[h1]at this;simp at this;omega
   .rw[h1]at h;simp at h;omega
  have hdl:(b.PX.dropWhile (nY (cb b s.s .aL).body)).length<=b.PX.length:=(List.dropWhile_sublist _).length_le;simp only[Zy,o7,nX,hr,h2,hd,h1,if_true];simp;omega
 .split
  .rename_i hf;intro _;unfold Zy o7;simp only;cases hp:s.bV with
   |cons f r=>
    have:=qh (body:=(bG b s.s).body) f r;simp only[Rc]at this;cases s.s.free<;>by_cases h:s.s.atom<b.atoms.length<;>simp[h]<;>omega
   |nil=>
    unfold pG at hf;rw[hp]at hf;simp only[eg]at hf;have ha:s.s.atom=b.atoms.length:=by
     rcases hf with h|h|h
     .exact h
     .exact absurd rfl h
     .omega
    have SC:s.s.free=true:=by
     cases h:s.s.free
     .exact absurd ⟨ha,h,hp⟩ WM
     .rfl
    simp[eg,ha,SC]
  .rename_i hf;have hm:dS b.atoms s.s:=Qu.2.resolve_right λh=>hf (.inl h.1);have PZ:b.atoms≠[]:=λh=>by have:=hm.1;rw[h]at this;simp at this;omega
   have hbd:=hL.body s.s RF PZ;have hL1:=hL.pos;have hpd:=(pZ (x:=dr b s) hb.toBkOk hm QQ (iu hb.toBkFull s.s RF)).bV;intro YV;have Zz:(mB (eD b (dr b s))).kind=1:=(kf b (dr b s)).2;obtain⟨-,-,-,hcg⟩:=YV Zz;obtain⟨⟨h0,h1⟩,h2,h3⟩:=hm;obtain⟨k,hk⟩:∃k:Nat,s.s.atom=k:=⟨s.s.atom.toNat,by omega⟩
   have RG:k<b.atoms.length:=by omega
   have hph:=QQ _ (QF RG);have P8:=sO RG;have hnn:=pJ QQ (k+1);have Vu:iP b.atoms s.s=b.atoms[k].h-s.s.done:=by rw[iP,aE ⟨⟨h0,h1⟩,h2,h3⟩,hk,bn RG]
   rw[hk,bn RG]at h3;have key:∀t:RH,t.bV.length<=b.PX.length->0<=o7 b L t->o7 b L t+1<=o7 b L s->Zy b L t<Zy b L s:=λt hp g1 g2=>by
    unfold Zy;have C':(o7 b L t).toNat+1<=(o7 b L s).toNat:=by omega
    have hmul:((o7 b L t).toNat+1)*(2*b.PX.length+3)<=(o7 b L s).toNat*(2*b.PX.length+3):=Nat.mul_le_mul_right _ C';rw[Nat.add_mul,Nat.one_mul]at hmul;have:(if t.s.free=true then b.PX.length+1 else 0)<=b.PX.length+1:=by split<;>omega
    omega
   refine key _ hpd ?_ ?_
   all_goals
    change sc b s.s (fv b (dr b s)).s _ _ _ at hcg;generalize fv b (dr b s)=z at*;unfold o7;simp only;cases hcg with
    |more q1 q2 q3 q4 q5=>
     rw[q1,q5,hk,eL];rw[Vu]at q3;have e1:0<=(eM b k-(s.s.done+(bG b s.s).body))/L:=Int.ediv_nonneg (by omega) (by omega);have e2:(eM b k-(s.s.done+(bG b s.s).body))/L<=(eM b k-s.s.done-L)/L:=Int.ediv_le_ediv (by omega) (by omega);have e3:(eM b k-s.s.done-L)/L=(eM b k-s.s.done)/L-1:=by
      have:=Int.add_mul_ediv_right (eM b k-s.s.done) (-1) (show L≠0 by omega);rw[show eM b k-s.s.done-L=eM b k-s.s.done+-1*L by omega,this];omega
     omega
    |whole c r y q1 q2 q3 q4 q5 q6 q7 q8 q9=>
     rw[hk]at q2;simp only[q1,hk,eL];have e0:=yL QQ (k+1) (c-(k+1));rw[show k+1+(c-(k+1))=c by omega]at e0;have e1:0<=(eM b c-0)/L:=Int.ediv_nonneg (by have:=pJ QQ c;omega) (by omega);have e2:(eM b c-0)/L<=(eM b k-s.s.done)/L:=Int.ediv_le_ediv (by omega) (by omega);omega
def wL{b:Bk}{L:Int}(hL:kc b L):Zy b L ⟨⟨0,0,true⟩,[]⟩<=1000000000:=by
 have h1:=hL.rest;have h2:=hL.na;have h3:=hL.nf;have h4:=hL.pos;have e:(eM b 0-0)/L<=32768:=by
  have:(eM b 0-0)/L<=(32768*L)/L:=Int.ediv_le_ediv (by omega) (by omega);rw[Int.mul_ediv_cancel _ (by omega)]at this;exact this
 have hw:(o7 b L ⟨⟨0,0,true⟩,[]⟩).toNat<=42768:=by
  unfold o7;simp only;have:(0:Int).toNat=0:=rfl;rw[this];omega
 unfold Zy;simp only[if_true,List.length_nil];have:(o7 b L ⟨⟨0,0,true⟩,[]⟩).toNat*(2*b.PX.length+3)<=42768*20003:=Nat.mul_le_mul hw (by omega);omega
open Go.Proofs
def ln(b:Bk)(s:RH):Int:=wu b.Qi (bP b s).1 s.s
def SK(b:Bk):Nat->RH->Int->List (Option Q7)
 |0,_,_=>[]
 |f+1,s,no=>if fC b s then[]else
  if 0<=ln b s/\(no+1)%2≠ln b s then none::some (bP b s).1::SK b f (bP b s).2 (no+2)else some (bP b s).1::SK b f (bP b s).2 (no+1)
def Ua:Option Q7->V
 |none=>.iface 71 (.agg [])
 |some p=>.iface 69 (bw p)
structure ZA(P9 e2 i2 i4 i6:Nat)(no:Int)(s:RH)(ZJ U:ag):Prop where
 sub:aa ZJ U
 y:U i2=some ⟨e2,1,[.yl P9]⟩
 n:U i4=some ⟨3,1,[vI no]⟩
 st:U i6=some ⟨114,4,[df s]⟩
 n2:ZJ i2=none
 n4:ZJ i4=none
 n6:ZJ i6=none
 ZO:i2≠i4
 e26:i2≠i6
 e46:i4≠i6
def ZA.mono{P9 e2 i2 i4 i6:Nat}{no:Int}{s:RH}{ZJ U J:ag}(h:ZA P9 e2 i2 i4 i6 no s ZJ U)(hs:aa U J):ZA P9 e2 i2 i4 i6 no s ZJ J:=
 ⟨h.sub.trans hs,hs _ _ h.y,hs _ _ h.n,hs _ _ h.st,h.n2,h.n4,h.n6,h.ZO,h.e26,h.e46⟩
def ZA.given{P9 e2 i2 i4 i6:Nat}{no:Int}{s:RH}{ZJ U P5 Z':ag}(h:ZA P9 e2 i2 i4 i6 no s ZJ U)(hb:bf ZJ (u' U i4 ⟨3,1,[vI (no+1)]⟩) P5 Z'):ZA P9 e2 i2 i4 i6 (no+1) s P5 Z':=by
 obtain⟨a1,a2⟩:=hb.2 i2 _ h.n2 (by rw[ab h.ZO];exact h.y);obtain⟨b1,b2⟩:=hb.2 i4 _ h.n4 af;obtain⟨c1,c2⟩:=hb.2 i6 _ h.n6 (by rw[ab h.e46.symm];exact h.st);exact⟨hb.1,a1,b1,c1,a2,b2,c2,h.ZO,h.e26,h.e46⟩
def ZA.next{P9 e2 i2 i4 i6:Nat}{no:Int}{s:RH}{ZJ U V7:ag}{i10:Nat}{o:Ob}(h:ZA P9 e2 i2 i4 i6 no s ZJ U)(hs:aa (u' U i6 o) V7)(hf:u' U i6 o i10=none)(t:RH):
 ZA P9 e2 i2 i4 i10 no t ZJ (u' V7 i10 ⟨114,4,[df t]⟩):=by
 have h1:=(h.sub.az (o:=o) h.n6)
 have y':=hs _ _ ((ab h.e26 (o:=o)).trans h.y);have n':=hs _ _ ((ab h.e46 (o:=o)).trans h.n);have k2:i2≠i10:=λe=>by rw[<-e,ab h.e26,h.y]at hf;cases hf
 have k4:i4≠i10:=λe=>by rw[<-e,ab h.e46,h.n]at hf;cases hf
 have nn:ZJ i10=none:=h1.none hf;exact⟨(h1.trans hs).az nn,(ab k2).trans y',(ab k4).trans n',af,h.n2,h.n4,nn,h.ZO,k2,k4⟩
def DQ{b:Bk}(hb:ei b){s:RH}(hp:s.bV.length<=1000000)(he:¬fC b s):(bP b s).2.bV.length<=1000000:=by
 have Qu:iT b s:=Decidable.byContradiction λh=>he (.inl h);have Su:=hb.TH;have RF:0<=s.s.atom:=by rcases Qu.2 with h|h;exact h.1.1;omega
 unfold bP;split
 .have:(b.PX.dropWhile (nY (cb b s.s .aL).body)).length<=b.PX.length:=(List.dropWhile_sublist _).length_le;show(b.PX.dropWhile (nY (cb b s.s .aL).body)).length<=_;omega
 .split
  .show(eg (bG b s.s).body s.bV 0).2.1.length<=_;cases hpp:s.bV with
   |cons f r=>have:=qh (body:=(bG b s.s).body) f r;rw[hpp]at hp;simp only[Rc]at this hp;omega
   |nil=>simp[eg]
  .rename_i hf;have hm:dS b.atoms s.s:=Qu.2.resolve_right λh=>hf (.inl h.1);have:=(pZ (x:=dr b s) hb.toBkOk hm hb.pos (iu hb.toBkFull s.s RF)).bV;show(fv b (dr b s)).bV.length<=_;omega
def Ea(b:Bk)(hb:BkFull b):aP prog 36 [.rp (bN b)] (bR b.Qi):=λU=>
 (D7 b hb U).LL λ_ _ h=>h.2.zn h.1 rfl
def zN(b:Bk)(hb:ei b){L:Int}(hL:kc b L):Iter prog 35 [.rp (.rp (bN b))] ((SK b 1000000001 ⟨⟨0,0,true⟩,[]⟩ 0).map λx=>[Ua x]):=by
 refine⟨e35.c,λP9 τ Jx Z0 hy hJ=>?_⟩;refine(e35.r (by simp[c35]) ?_).2;have hs:=aa.refl Z0;have hmu:=wL hL;have Q0:=hb.brk;have R8:=hb.len;have Su:=hb.TH;have Sv:∀s:RH,(df s).cells=[vI s.s.atom,vI s.s.done,.bool s.s.free,aJ s.bV]:=λ_=>rfl;have Tv:∀s:RH,(df s).stays=true:=λ_=>rfl;have Ru:∀p:Q7,(bw p).cells=[vI p.no,vI p.kind,aO p.hs,aO p.fs,aO p.ls]:=λ_=>rfl;have TD:∀p:Q7,(bw p).stays=true:=λ_=>rfl;have ldB:∀U:ag,bT U false 1 (.rp (.rp (bN b)))=some (.rp (bN b)):=λU=>rfl;generalize hXS:(SK b 1000000001 ⟨⟨0,0,true⟩,[]⟩ 0).map (λx=>[Ua x])=XS at*;refine ad.mix 8 ?_;apply sR;simp only[go_sem,seval,c35,ldB];refine ae λi2 Z2 s2 a2 f2=>?_;have z2:=hs.none f2;replace hs:=hs.trans s2;simp only[go_sem,seval,ldB];refine ad.ay rfl rfl rfl (Ea b hb.toBkFull _) ?_;apply sR;simp only[go_sem,seval,ldB,gN,gJ];refine ae λi4 Z4 s4 a4 f4=>?_;have n24:=ao a2 f4;replace a2:=s4 _ _ a2;have z4:=hs.none f4;replace hs:=hs.trans s4;simp only[go_sem,seval,a4,a2];generalize Tt:u' _ i4 _=Y4;replace a4:=(congrFun Tt i4).symm.trans af;replace a2:=((congrFun Tt i2).symm.trans (ab n24)).trans a2;replace hs:=Eq.subst (motive:=aa _) Tt (hs.az z4);clear Tt;apply sR;simp only[go_sem,seval,ldB];refine ad.ay rfl rfl rfl (DU b hb.toBkFull _) ?_;apply sR;simp only[go_sem,seval];refine ae λi6 Z6 s6 a6 f6=>?_;have n46:=ao a4 f6;replace a4:=s6 _ _ a4;have n26:=ao a2 f6;replace a2:=s6 _ _ a2;have z6:=hs.none f6;replace hs:=hs.trans s6;simp only[go_sem,seval,a6,a4,a2,Sv,Tv];generalize hq6:u' _ i6 _=Y6;replace a6:=(congrFun hq6 i6).symm.trans af;replace a4:=((congrFun hq6 i4).symm.trans (ab n46)).trans a4;replace a2:=((congrFun hq6 i2).symm.trans (ab n26)).trans a2;replace hs:=Eq.subst (motive:=aa _) hq6 (hs.az z6);clear hq6;apply sR;simp only[go_sem,seval];have hJ0:ZA P9 109 i2 i4 i6 0 ⟨⟨0,0,true⟩,[]⟩ Z0 Y6:=⟨hs,a2,a4,a6,z2,z4,z6,n24,n26,n46⟩
 clear hs a2 a4 a6;generalize Y6=J at*;refine ad.loop (λm st=>∃(s:RH) (no:Int) (pre:List (List V)) (ZJ:ag) (i6':Nat),Zy b L s<m/\XS=pre++(SK b m s no).map (λx=>[Ua x])/\τ pre ZJ/\
  ZA P9 109 i2 i4 i6' no s ZJ st.U/\st.s 0=.yl P9/\st.s 1=.rp (.rp (bN b))/\st.s 3=bR b.Qi/\st.s 4=.ptr i4 0 0/\st.s 5=.fn 37 [.ptr i4 0 0,.ptr i2 0 0]/\st.s 6=.ptr i6' 0 0/\
  0<=no/\no+2*m<=2000000002/\s.bV.length<=1000000) 1000000001 ?_ ?_
 .exact⟨⟨⟨0,0,true⟩,[]⟩,0,[],Z0,i6,by omega,by rw[jU,hXS],hJ,hJ0,rfl,rfl,rfl,rfl,rfl,rfl,by omega,by omega,by simp⟩
 clear hJ0 hJ;rintro m ⟨S,J⟩ ⟨s,no,pre,ZJ,i6,hm,hx,Rt,Wr,t0,t1,t3,t4,t5,t6,hn0,hn1,hp⟩;simp only at Wr t0 t1 t3 t4 t5 t6;obtain⟨f,rfl⟩:∃f,m=f+1:=⟨m-1,by omega⟩
 have r6:=Wr.st;refine ad.mix 8 ?_;apply sR;simp only[go_sem,seval,t0,t1,t3,t4,t5,t6,ldB,r6];refine ad.ay rfl rfl rfl (CJ b hb.toBkFull s hp _) ?_;by_cases he:fC b s
 .rw[SP he];apply sR;simp only[go_sem,seval];rw[SK,aE he,List.map_nil,kj]at hx;subst hx;exact⟨_,ZJ,Wr.sub,Wk.refl Wr.sub _,.inl Rt⟩
 rw[Sz he];apply sR;simp only[go_sem,seval,t0,t1,t3,t4,t5,t6,ldB,r6];refine ad.ay rfl rfl rfl (IZ b hb.toBkFull hb.fh s hp _) ?_;rw[aF he];apply sR;simp only[go_sem,seval,t0,t1,t3,t4,t5,t6,ldB,r6];have hs:=aa.refl J;refine ae λi7 Z7 s7 a7 f7=>?_;have z7:=hs.none f7;replace hs:=hs.trans s7;simp only[go_sem,seval];refine ae λi8 Z8 s8 a8 f8=>?_;have V8:=ao a7 f8;replace a7:=s8 _ _ a7;have z8:=hs.none f8;replace hs:=hs.trans s8;simp only[go_sem,seval,a7,a8,Ru,TD];generalize Th:u' _ i7 _=Y7;replace a7:=(congrFun Th i7).symm.trans af;replace a8:=((congrFun Th i8).symm.trans (ab V8.symm)).trans a8;replace hs:=Eq.subst (motive:=aa _) Th (hs.az z7);clear Th;simp only[go_sem,seval,a7,a8,Sv,Tv];generalize RA:u' _ i8 _=Y8;replace a8:=(congrFun RA i8).symm.trans af;replace a7:=((congrFun RA i7).symm.trans (ab V8)).trans a7;replace hs:=Eq.subst (motive:=aa _) RA (hs.az z8);clear RA;have Rf:=Wr.mono hs;have r6':=Rf.st;have r4:=Rf.n;have Qu:iT b s:=Decidable.byContradiction λh=>he (.inl h);have RF:0<=s.s.atom/\s.s.atom<b.Qi.length:=by
  rcases Qu.2 with h|h
  .have:=h.1;omega
  .omega
 simp only[go_sem,seval,t0,t1,t3,t4,t5,t6,ldB,r6',a7,a8,Ru,TD,Sv,Tv,gJ,gN];refine ad.ay rfl rfl rfl (Is b.Qi (by omega) (bP b s).1 s.s RF.1 RF.2 _) ?_;rw[show wu b.Qi (bP b s).1 s.s=ln b s from rfl];have hmn:=zL hb hL he;have hpn:=DQ hb hp he;have r5:PM .i64 (no+1):=ak;have m7:ZJ i7=none:=Wr.sub.none z7;have m8:ZJ i8=none:=Wr.sub.none z8;have d47:i7≠i4:=λe=>by have:=Wr.n;rw[<-e,z7]at this;cases this
 have d48:i8≠i4:=λe=>by have:=Wr.n;rw[<-e,z8]at this;cases this
 have htm:(no+1).tmod 2=(no+1)%2:=Int.tmod_eq_emod_of_nonneg (by omega);by_cases hw:0<=ln b s/\(no+1)%2≠ln b s
 .rw[SK,aF he,aE hw]at hx;have q1:(ln b s>=0)=True:=PK hw.1;have q2:((no+1).tmod 2≠ln b s)=True:=PK (by rw[htm];exact hw.2);generalize ln b s=W at*;apply sR;simp only[go_sem,seval,t0,t1,t3,t4,t5,t6,r4,r5,q1,q2];refine ad.call rfl rfl rfl (xG (x:=.iface 71 (.agg [])) r5 Rf.n Rf.y Rf.ZO.symm (hy pre _ _ ZJ _ hx Rt (Rf.sub.az Rf.n4))) ?_;rintro _ Z8b ⟨b',rfl,ZJ8,QM,QE⟩;have Ws:=Rf.given QM;obtain⟨a7b,k7⟩:=QM.2 i7 _ m7 (by rw[ab d47];exact a7);obtain⟨a8b,k8⟩:=QM.2 i8 _ m8 (by rw[ab d48];exact a8);have r55:PM .i64 (no+1+1):=ak;have Tb:XS=(pre++[[Ua none]])++[.iface 69 (bw (bP b s).1)]::(SK b f (bP b s).2 (no+1+1)).map (λx=>[Ua x]):=by
   rw[hx,show no+2=no+1+1 by omega];simp[Ua]
  rcases QE with⟨rfl,QE⟩|⟨rfl,QE⟩
  .apply sR;simp only[go_sem,seval,t0,t1,t3,t4,t5,t6,a7b,Ru,TD];refine ad.call rfl rfl rfl (xG (x:=.iface 69 (bw (bP b s).1)) r55 Ws.n Ws.y Ws.ZO.symm (hy (pre++[[Ua none]]) _ _ ZJ8 _ Tb QE (Ws.sub.az Ws.n4))) ?_;rintro _ Z9 ⟨b',rfl,ZJ9,QM,QE⟩;have Rz:=Ws.given QM;obtain⟨a8',k8⟩:=QM.2 i8 _ k8 (by rw[ab d48];exact a8b);have r9:=Rz.st;rcases QE with⟨rfl,QE⟩|⟨rfl,QE⟩
   .apply sR;simp only[go_sem,seval,t0,t1,t3,t4,t5,t6,a8',r9,Sv,Tv];refine ae λi10 V7 Sj Qq f10=>?_;simp only[go_sem,seval,Qq,Sv,Tv];refine⟨f,by omega,(bP b s).2,(no+1)+1,(pre++[[Ua none]])++[[Ua (some (bP b s).1)]],ZJ9,i10,by omega,?_,QE,Rz.next Sj f10 _,?_⟩
    .rw[Tb];simp[Ua]
    .simp[t0,t1,t3,t4,t5];exact⟨by omega,by omega,hpn⟩
   .apply sR;simp only[go_sem,seval];refine⟨_,ZJ9,Rz.sub,Wk.refl Rz.sub _,.inr ⟨_,?_,QE⟩⟩;rw[Tb];exact⟨(SK b f (bP b s).2 ((no+1)+1)).map λx=>[Ua x],by simp⟩
  .apply sR;simp only[go_sem,seval];refine⟨_,ZJ8,Ws.sub,Wk.refl Ws.sub _,.inr ⟨_,?_,QE⟩⟩;rw[hx];exact⟨(some (bP b s).1::SK b f (bP b s).2 (no+2)).map λx=>[Ua x],by simp[Ua]⟩
 .rw[SK,aF he,aF hw]at hx;have hq:(ln b s>=0)=False\/(ln b s>=0)=True/\((no+1).tmod 2≠ln b s)=False:=by
   by_cases h:ln b s>=0
   .exact .inr ⟨PK h,PG (λg=>hw ⟨h,by rw[<-htm];exact g⟩)⟩
   .exact .inl (PG h)
  generalize ln b s=W at*;have Tb:XS=pre++[.iface 69 (bw (bP b s).1)]::(SK b f (bP b s).2 (no+1)).map (λx=>[Ua x]):=hx;rcases hq with q1|⟨q1,q2⟩
  .apply sR;simp only[go_sem,seval,t0,t1,t3,t4,t5,t6,r4,r5,a7,Ru,TD,q1];refine ad.call rfl rfl rfl (xG (x:=.iface 69 (bw (bP b s).1)) r5 Rf.n Rf.y Rf.ZO.symm (hy pre _ _ ZJ _ Tb Rt (Rf.sub.az Rf.n4))) ?_;rintro _ Z9 ⟨b',rfl,ZJ9,QM,QE⟩;have Rz:=Rf.given QM;obtain⟨a8',k8⟩:=QM.2 i8 _ m8 (by rw[ab d48];exact a8);have r9:=Rz.st;rcases QE with⟨rfl,QE⟩|⟨rfl,QE⟩
   .apply sR;simp only[go_sem,seval,t0,t1,t3,t4,t5,t6,a8',r9,Sv,Tv];refine ae λi10 V7 Sj Qq f10=>?_;simp only[go_sem,seval,Qq,Sv,Tv];refine⟨f,by omega,(bP b s).2,no+1,pre++[[Ua (some (bP b s).1)]],ZJ9,i10,by omega,?_,QE,Rz.next Sj f10 _,?_⟩
    .rw[Tb];simp[Ua]
    .simp[t0,t1,t3,t4,t5];exact⟨by omega,by omega,hpn⟩
   .apply sR;simp only[go_sem,seval];refine⟨_,ZJ9,Rz.sub,Wk.refl Rz.sub _,.inr ⟨_,?_,QE⟩⟩;rw[Tb];exact⟨(SK b f (bP b s).2 (no+1)).map λx=>[Ua x],by simp⟩
  .apply sR;simp only[go_sem,seval,t0,t1,t3,t4,t5,t6,r4,r5,a7,Ru,TD,q1,q2];refine ad.call rfl rfl rfl (xG (x:=.iface 69 (bw (bP b s).1)) r5 Rf.n Rf.y Rf.ZO.symm (hy pre _ _ ZJ _ Tb Rt (Rf.sub.az Rf.n4))) ?_;rintro _ Z9 ⟨b',rfl,ZJ9,QM,QE⟩;have Rz:=Rf.given QM;obtain⟨a8',k8⟩:=QM.2 i8 _ m8 (by rw[ab d48];exact a8);have r9:=Rz.st;rcases QE with⟨rfl,QE⟩|⟨rfl,QE⟩
   .apply sR;simp only[go_sem,seval,t0,t1,t3,t4,t5,t6,a8',r9,Sv,Tv];refine ae λi10 V7 Sj Qq f10=>?_;simp only[go_sem,seval,Qq,Sv,Tv];refine⟨f,by omega,(bP b s).2,no+1,pre++[[Ua (some (bP b s).1)]],ZJ9,i10,by omega,?_,QE,Rz.next Sj f10 _,?_⟩
    .rw[Tb];simp[Ua]
    .simp[t0,t1,t3,t4,t5];exact⟨by omega,by omega,hpn⟩
   .apply sR;simp only[go_sem,seval];refine⟨_,ZJ9,Rz.sub,Wk.refl Rz.sub _,.inr ⟨_,?_,QE⟩⟩;rw[Tb];exact⟨(SK b f (bP b s).2 (no+1)).map λx=>[Ua x],by simp⟩
variable {P:Program} {n:Nat}
def BD{o:Op}{xs:List VX}(h:PO P n o=.more .sV xs):∃t,o=.alloc t/\nQ P t=true:=by
 cases o
 case alloc t=>
  simp only[PO]at h;split at h
  .cases h
  .split at h
   .rename_i hn;exact⟨t,rfl,hn⟩
   .cases h
 case call c=>
  obtain⟨callee,args,argTypes⟩:=c;cases callee
  case builtin b=>cases b<;>simp only[PO]at h<;>(repeat' split at h)<;>cases h
  all_goals (simp only[PO]at h;cases h)
 case unOp op t x=>cases op<;>simp only[PO]at h<;>cases h
 case makeFunc f a b=>cases f<;>simp only[PO]at h<;>(repeat' split at h)<;>cases h
 case binOp op t x y yt=>cases op<;>simp only[PO,bE]at h<;>(repeat' split at h)<;>cases h
 all_goals (simp only[PO]at h;(repeat' split at h)<;>cases h)
def Bw{o:Op}{xs:List VX}(h:PO P n o=.more .uy xs):∃t x y,o=.store t x y/\nQ P t=true/\xs=[cx n x,cx n y]:=by
 cases o
 case store t x y=>
  simp only[PO]at h;split at h
  .cases h
  .split at h
   .rename_i hn;simp only[Qc.more.injEq,true_and]at h;exact⟨t,x,y,rfl,hn,h.symm⟩
   .cases h
 case call c=>
  obtain⟨callee,args,argTypes⟩:=c;cases callee
  case builtin b=>cases b<;>simp only[PO]at h<;>(repeat' split at h)<;>cases h
  all_goals (simp only[PO]at h;cases h)
 case unOp op t x=>cases op<;>simp only[PO]at h<;>cases h
 case makeFunc f a b=>cases f<;>simp only[PO]at h<;>(repeat' split at h)<;>cases h
 case binOp op t x y yt=>cases op<;>simp only[PO,bE]at h<;>(repeat' split at h)<;>cases h
 all_goals (simp only[PO]at h;(repeat' split at h)<;>cases h)
def ad.sV{st:St}{Q:St->Prop}{k:List It}{i:aG}{l:List aG}(hw:bl st.s i.g=some true)(ho:i.op=.more .sV [])
 (h:ad P n (.ops l::k) ⟨aW st.s i.dst (.rp (.agg [])),st.U⟩ Q):ad P n (.ops (i::l)::k) st Q:=by
 refine ad.ins (by rw[ho];simp) hw λF hn I a w o all hi hs next Q' M'=>?_
 subst hn;obtain⟨PL,hd⟩:=cC hi;rw[ho]at PL;obtain⟨t,g1,hn⟩:=BD PL;have PY:(execOp a.eval o).run P w=.ok (.value (.pointer (some ⟨w.heap.size,0,none⟩))) (w.alloc (.cells #[] t)):=by
  unfold execOp;rw[g1];simp[Instr.alloc,qe hn,newVar,newRow,Value.cells]
 unfold Oper.wp;rw[PY];obtain⟨h1,hk⟩:=hs.sat.more (.cells #[] t);refine M' _ _ _ ⟨I,?_⟩ h;rw[<-hd];exact hs.step h1 (cm.refl I) hk (by simp) (by simp only[A'];exact⟨w.heap.size,0,rfl,by simp,.inl rfl,by simp[bt,aQ]⟩)
def ad.uy{st:St}{Q:St->Prop}{k:List It}{i:aG}{l:List aG}{xa xv:VX}{u:V}(hw:bl st.s i.g=some true)(ho:i.op=.more .uy [xa,xv])(ha:xa.ev st.s=.rp u)(hv:xv.ev st.s=.agg [])
 (h:ad P n (.ops l::k) ⟨aW st.s i.dst (.PI []),st.U⟩ Q):ad P n (.ops (i::l)::k) st Q:=by
 refine ad.ins (by rw[ho];simp) hw λF hn I a w o all hi hs next Q' M'=>?_
 subst hn;obtain⟨PL,hd⟩:=cC hi;rw[ho]at PL;obtain⟨t,x,y,g1,hn,g2⟩:=Bw PL;simp only[List.cons.injEq,and_true]at g2;obtain⟨rfl,rfl⟩:=g2;have R1:=bK hs x;have R2:=bK hs y;rw[ha]at R1;rw[hv]at R2;simp only[A']at R1 R2;obtain⟨b,off,e1,_⟩:=R1;obtain⟨vals,e2,e3,_⟩:=R2;simp only[aq]at e3;subst e3;obtain⟨ti,_,W2,RM,_⟩:=ng hn;have PY:(execOp a.eval o).run P w=.ok .skip w:=by
  unfold execOp;rw[g1];simp[Instr.storeAt,Instr.sureAddr,e1,e2,storeVar,sizeOf,typeInfo,W2,RM,Value.cells,storeCells]
 unfold Oper.wp;rw[PY];refine M' _ _ _ ⟨I,?_⟩ h;rw[<-hd];exact hs.pure (by simp[A',aq,undef])
open Go.Proofs
def E2(b:Bk):aP prog 15 [.rp (bN b)] (.fn 35 [.rp (.rp (bN b))]):=λU=>by
 refine e15.r (by simp[c15]) ?_;refine ad.mix 4 ?_;apply sR;simp only[go_sem,seval,c15];refine ae λSn Z1 s1 a1 f1=>?_;simp only[go_sem,seval];exact⟨_,U,s1,Wk.fn (vs':=[.rp (.rp (bN b))]) ⟨Wk.ptr s1 a1 f1,trivial⟩,rfl,rfl⟩
def pgN(k:Nat)(x:Option Q7):Q7:=match x with
 |none=>⟨(k:Int)+1,3,[],[],[]⟩
 |some p=>{ p with no:=(k:Int)+1 }
def sE(L:List (Option Q7)):List Q7:=(List.range L.length).map λk=>pgN k (L.getD k none)
def pgV(k:Nat)(x:Option Q7):V:=match x with
 |none=>.agg [vI ((k:Int)+1),vI 3,.aL,.aL,.aL]
 |some p=>bw { p with no:=(k:Int)+1 }
def pS(L:List (Option Q7)):List V:=(List.range L.length).map λk=>pgV k (L.getD k none)
def D1(L:List (Option Q7))(x:Option Q7):pS (L++[x])=pS L++[pgV L.length x]:=by
 unfold pS;rw[fB,List.length_singleton,List.range_succ,eo];congr 1
 .refine List.map_congr_left λk hk=>?_;have:=List.mem_range.1 hk;rw[tQ,tQ,E7 this]
 .simp
def EX(L:List (Option Q7)):(pS L).length=L.length:=by simp[pS]
def se(b:Bk):∀(f:Nat) (s:RH) (no:Int),(SK b f s no).length<=2*f
 |0,_,_=>by simp[SK]
 |f+1,s,no=>by
  rw[SK];split
  .simp
  .split
   .have:=se b f (bP b s).2 (no+2);simp only[Rc];omega
   .have:=se b f (bP b s).2 (no+1);simp only[Rc];omega
def gg(b:Bk):List Q7:=if(b.atoms.length:Int)+b.PX.length=0 then[⟨1,3,[],[],[]⟩]else sE (SK b 1000000001 ⟨⟨0,0,true⟩,[]⟩ 0)
open Go.Proofs
def bf.No{ZJ U P5 Z':ag}(h:bf ZJ U P5 Z'){id:Nat}{o:Ob}(hn:U id=none)(hj:P5 id=none):bf ZJ U P5 (u' Z' id o):=
 ⟨h.1.az hj,λi x h1 h2=>by
  obtain⟨h3,h4⟩:=h.2 i x h1 h2;have:i≠id:=λe=>by rw[e,hn]at h2;cases h2
  simp[Vc.u',this,h3,h4]⟩
def RQ.maps{α:Type}{U:ag}{N:Nat->Prop}{f g:α->V}:∀{l:List α},(∀a∈l,Fz U N (f a) (g a))->RQ U N (l.map f) (l.map g)
 |[],_=>.nil
 |a::l,h=>.cons _ _ _ _ (h a (by simp)) (RQ.maps λx hx=>h x (by simp[hx]))
def zq(p:Q7):(bw p).vm=true:=by
 have h:∀l:List Qk,(aO l).vm=true:=λl=>l5 (f:=aZ) (λ_=>rfl) l;show jc [vI p.no,vI p.kind,aO p.hs,aO p.fs,aO p.ls]=true;simp only[jc,h];rfl
def HC{U:ag}{N:Nat->Prop}(L:List (Option Q7)):RQ U N (pS L) ((sE L).map bw):=by
 unfold pS sE;rw[List.map_map];refine RQ.maps λk _=>?_;simp only[Function.comp];cases L.getD k none with
 |none=>exact .agg _ _ (.cons _ _ _ _ (.same _ rfl) (.cons _ _ _ _ (.same _ rfl) (.cons _ _ _ _ (.nil 7) (.cons _ _ _ _ (.nil 7) (.cons _ _ _ _ (.nil 7) .nil)))))
 |some p=>exact .same _ (zq _)
def aN.Pq{K U:ag}{N:Nat->Prop}{e sz:Nat}{v:V}{rows Qv:List V}(h:aN K U e sz v rows)(hN:∀id,K id=none->N id)(hr:RQ U N rows Qv):Fz U N v (.sl sz Qv):=by
 rcases h with⟨rfl,rfl⟩|⟨id,rfl,ho,hk⟩
 .cases hr;exact .nil sz
 .exact .own id 0 rows.length ⟨e,sz,rows⟩ Qv ho (hN id hk) (by simp) (by rw[Aj,hU];exact hr)
def dk(L:List Q7):V:=.sl 5 (L.map bw)
def Ek(l:List Nd)(hl:eY l)(w h:Int):
 aP prog 5 [aM l,vI w,vI h] (if jJ l w h=0 then .PI [dk (gg (gv l w h)),vI 0]else .PI [.aL,vI (jJ l w h)]):=λU=>by
 refine e5.r (by simp[c5]) ?_;have hs:=aa.refl U;refine ad.mix 8 ?_;apply sR;simp only[go_sem,seval,c5];refine ad.ay rfl rfl rfl (Nb l hl w h _) ?_;by_cases he:jJ l w h=0
 .have hb:=wC hl he;have hL:=ug he;rw[D8,aE he,aE he,he];generalize gv l w h=b at*;generalize gS l h=L at*;have q1:((0:Int)≠0)=False:=PG (λh=>h rfl);apply sR;simp only[go_sem,seval,q1];refine ae λi10 V7 Sj Qq f10=>?_;have UO:=hs.none f10;replace hs:=hs.trans Sj;simp only[go_sem,seval,Qq];refine ad.ay rfl rfl rfl (E2 b _) ?_;apply sR;simp only[go_sem,seval];generalize hS:mix 8 _ _=S;have S8:S 8=.rp (bN b):=by rw[<-hS];rfl
  have Zc:S 10=.ptr i10 0 0:=by rw[<-hS];rfl
  have S27:S 27=.fn 35 [.rp (.rp (bN b))]:=by rw[<-hS];rfl
  clear hS;have hit:=zN b hb hL;have hSl:=se b 1000000001 ⟨⟨0,0,true⟩,[]⟩ 0;have hPR:gg b=if(b.atoms.length:Int)+b.PX.length=0 then[⟨1,3,[],[],[]⟩]else sE (SK b 1000000001 ⟨⟨0,0,true⟩,[]⟩ 0):=rfl
  generalize gg b=PR at*;generalize SK b 1000000001 ⟨⟨0,0,true⟩,[]⟩ 0=SH at*;refine ad.eK (g:=.t 27) (caps:=[.rp (.rp (bN b))]) S27 hit (λx hx=>?_) [] (λpre ZJ=>∃v,ZJ i10=some ⟨29,1,[v]⟩/\aa U ZJ/\aN (bg U i10) ZJ 45 5 v (pS (SH.take pre.length)))
   (λ_ _ _=>False) ?_ ?_ ?_ ?_ ?_
  .obtain⟨t,_,rfl⟩:=eI.1 hx;rfl
  .exact⟨.aL,Qq,Sj,by simpa[pS]using aN.start⟩
  .rintro pre x post ZJ ZB Rv ⟨v,J10,Js,Jo⟩ B';obtain⟨t,W2,rfl⟩:=pH (f:=Ua) Rv;have Uc:pre.length<SH.length:=(mL.1 W2).1;have hlen:(pre++[[Ua t]]).length=pre.length+1:=by simp
   have Qn:pS (SH.take (pre.length+1))=pS (SH.take pre.length)++[pgV pre.length t]:=by
    rw[Ax,W2,Option.toList_some,D1,jt,Nat.min_eq_left (by omega)]
   rw[hlen,Qn];have TA:(pS (SH.take pre.length)).length=pre.length:=by rw[EX,jt];omega
   have TF:=Jo.vc.1;have Yv:=Jo.vc.2;have Yw:=Jo.len;rw[TA]at Yw;generalize Qj:pS (SH.take pre.length)=rows at*;have Ww:=B' _ _ J10;generalize Ro:lT S [28] [Ua t]=S0;have Vt:S0 10=.ptr i10 0 0:=by rw[<-Ro];exact Zc
   have T28:S0 28=Ua t:=by rw[<-Ro];rfl
   clear Ro;refine ad.mix 12 ?_;apply sR;simp only[go_sem,seval,Vt,T28];apply sR;simp only[go_sem,seval,Vt,T28];rw[av];intro i12 f12;have m12:i10≠i12:=ao Ww f12;have r1:PM .i64 ((pre.length:Int)+1):=ak;have Ru:∀p:Q7,(bw p).cells=[vI p.no,vI p.kind,aO p.hs,aO p.fs,aO p.ls]:=λ_=>rfl;have TL:∀l:List Qk,(aO l).cells=[aO l]:=λ_=>rfl;have Rr:∀l:List Qk,(aO l).stays=true:=λ_=>rfl;have TD:∀p:Q7,(bw p).stays=true:=λ_=>rfl;have TS:=(bf.refl B').qH (o:=⟨45,5,[.agg [vI 0,vI 3,.aL,.aL,.aL]]⟩) f12;have y10:u' ZB i12 ⟨45,5,[.agg [vI 0,vI 3,.aL,.aL,.aL]]⟩ i10=some ⟨29,1,[v]⟩:=by rw[ab m12];exact Ww
   have a12:u' ZB i12 ⟨45,5,[.agg [vI 0,vI 3,.aL,.aL,.aL]]⟩ i12=some ⟨45,5,[.agg [vI 0,vI 3,.aL,.aL,.aL]]⟩:=af;have Qp:(rows.length+1)*89<=140737488355328:=by omega
   have k2:bg U i10 i10≠none:=λh=>(aI.1 h).1 rfl;have ZX:ZJ i12=none:=B'.none f12;cases t with
   |none=>
    simp only[go_sem,seval,Vt,T28,Ua,Hz];generalize u' ZB i12 ⟨45,5,[.agg [vI 0,vI 3,.aL,.aL,.aL]]⟩=X' at*;refine ad.sV rfl rfl ?_;refine ad.uy (u:=.agg []) rfl rfl rfl rfl ?_;apply sR;simp only[go_sem,seval,Vt,y10,a12,TF,Yv,Yw,r1,ab m12,ab m12.symm,Ru,TD];rw[av];intro i45 f45;have y2:u' X' i12 (⟨45,5,[.agg [vI ((pre.length:Int)+1),vI 3,.aL,.aL,.aL]]⟩:Ob) i10=some ⟨29,1,[v]⟩:=by rw[ab m12];exact y10
    have hB2:bf ZJ ZB ZJ (u' X' i12 (⟨45,5,[.agg [vI ((pre.length:Int)+1),vI 3,.aL,.aL,.aL]]⟩:Ob)):=TS.No f12 ZX;generalize u' X' i12 (⟨45,5,[.agg [vI ((pre.length:Int)+1),vI 3,.aL,.aL,.aL]]⟩:Ob)=Y2 at*;have hB3:=hB2.qH (o:=(⟨45,5,[.agg [vI ((pre.length:Int)+1),vI 3,.aL,.aL,.aL]]⟩:Ob)) f45;have y3:u' Y2 i45 (⟨45,5,[.agg [vI ((pre.length:Int)+1),vI 3,.aL,.aL,.aL]]⟩:Ob) i10=some ⟨29,1,[v]⟩:=by rw[ab (ao y2 f45)];exact y2
    have a45:u' Y2 i45 (⟨45,5,[.agg [vI ((pre.length:Int)+1),vI 3,.aL,.aL,.aL]]⟩:Ob) i45=some (⟨45,5,[.agg [vI ((pre.length:Int)+1),vI 3,.aL,.aL,.aL]]⟩:Ob):=af;generalize u' Y2 i45 (⟨45,5,[.agg [vI ((pre.length:Int)+1),vI 3,.aL,.aL,.aL]]⟩:Ob)=X3 at*;obtain⟨PU,QV,Uh⟩:=Jo.C6 hB3.1;have Ti:∀(i:Nat) (Zx:ag),bg U i10 i≠none->Vc.bF Zx PU i=Zx i:=λi Zx hk=>by
     cases PU with
     |none=>rfl
     |some a=>exact er (λe=>hk (by rw[e];exact(Uh a rfl).1))
    simp only[go_sem,seval,QV,cW a45,Qp,Vt];rw[av];intro i46 f46;have f46:X3 i46=none:=f46;have m46:i10≠i46:=ao y3 f46;have f46':Vc.bF X3 PU i46=none:=by
     cases PU with
     |none=>exact f46
     |some a=>simp only[Vc.bF,del];split<;>first|rfl|exact f46
    have y4:u' (Vc.bF X3 PU) i46 ⟨45,5,rows++[.agg [vI ((pre.length:Int)+1),vI 3,.aL,.aL,.aL]]⟩ i10=some ⟨29,1,[v]⟩:=by rw[ab m46,Ti _ _ k2];exact y3
    have hB9:=((hB3.DS (e:=PU) λi h=>(Uh i h).2).new (o:=⟨45,5,rows++[.agg [vI ((pre.length:Int)+1),vI 3,.aL,.aL,.aL]]⟩) f46').set (id:=i10) (o:=⟨29,1,[v]⟩) (o':=⟨29,1,[.own i46 0 (rows.length+1)]⟩) (by rw[ab m46,Ti _ _ k2];exact J10);simp only[go_sem,seval,TF,y4,Vt];refine⟨_,hB9,.own i46 0 (rows.length+1),af,?_,?_⟩
    .refine aa.az (λi o h=>?_) UO;have h1:=Js _ _ h;rw[ab (ao (hB3.1 _ _ h1) f46),Ti _ _ (λhk=>by rw[(aI.1 hk).2]at h;cases h)];exact h1
    .refine aN.new (by simp) (by rw[ab m46.symm,af];rfl) ?_;rw[aI];refine⟨m46.symm,?_⟩;cases h:U i46 with
     |none=>rfl
     |some o=>rw[hB3.1 _ _ (Js _ _ h)]at f46;cases f46
   |some p=>
    simp only[go_sem,seval,Vt,T28,Ua,Hz];generalize u' ZB i12 ⟨45,5,[.agg [vI 0,vI 3,.aL,.aL,.aL]]⟩=J at*;rw[av];intro i13 f13;have m13:i12≠i13:=ao a12 f13;have SU:i10≠i13:=ao y10 f13;have TS:=TS.qH (o:=⟨69,5,[bw p]⟩) f13;have y10:u' J i13 ⟨69,5,[bw p]⟩ i10=some ⟨29,1,[v]⟩:=by rw[ab SU];exact y10
    have a12:u' J i13 ⟨69,5,[bw p]⟩ i12=some ⟨45,5,[.agg [vI 0,vI 3,.aL,.aL,.aL]]⟩:=by rw[ab m13];exact a12
    have RW:u' J i13 ⟨69,5,[bw p]⟩ i13=some ⟨69,5,[bw p]⟩:=af;simp only[go_sem,seval,Ru,TD];generalize u' J i13 ⟨69,5,[bw p]⟩=X' at*;simp only[go_sem,seval,Vt,y10,a12,RW,TF,Yv,Yw,r1,ab m12,ab m12.symm,Ru,TD,TL,Rr];rw[av];intro i45 f45;have y2:u' X' i12 (⟨45,5,[.agg [vI ((pre.length:Int)+1),vI p.kind,aO p.hs,aO p.fs,aO p.ls]]⟩:Ob) i10=some ⟨29,1,[v]⟩:=by rw[ab m12];exact y10
    have hB2:bf ZJ ZB ZJ (u' X' i12 (⟨45,5,[.agg [vI ((pre.length:Int)+1),vI p.kind,aO p.hs,aO p.fs,aO p.ls]]⟩:Ob)):=TS.No f12 ZX;generalize u' X' i12 (⟨45,5,[.agg [vI ((pre.length:Int)+1),vI p.kind,aO p.hs,aO p.fs,aO p.ls]]⟩:Ob)=Y2 at*;have hB3:=hB2.qH (o:=(⟨45,5,[.agg [vI ((pre.length:Int)+1),vI p.kind,aO p.hs,aO p.fs,aO p.ls]]⟩:Ob)) f45;have y3:u' Y2 i45 (⟨45,5,[.agg [vI ((pre.length:Int)+1),vI p.kind,aO p.hs,aO p.fs,aO p.ls]]⟩:Ob) i10=some ⟨29,1,[v]⟩:=by rw[ab (ao y2 f45)];exact y2
    have a45:u' Y2 i45 (⟨45,5,[.agg [vI ((pre.length:Int)+1),vI p.kind,aO p.hs,aO p.fs,aO p.ls]]⟩:Ob) i45=some (⟨45,5,[.agg [vI ((pre.length:Int)+1),vI p.kind,aO p.hs,aO p.fs,aO p.ls]]⟩:Ob):=af;generalize u' Y2 i45 (⟨45,5,[.agg [vI ((pre.length:Int)+1),vI p.kind,aO p.hs,aO p.fs,aO p.ls]]⟩:Ob)=X3 at*;obtain⟨PU,QV,Uh⟩:=Jo.C6 hB3.1;have Ti:∀(i:Nat) (Zx:ag),bg U i10 i≠none->Vc.bF Zx PU i=Zx i:=λi Zx hk=>by
     cases PU with
     |none=>rfl
     |some a=>exact er (λe=>hk (by rw[e];exact(Uh a rfl).1))
    simp only[go_sem,seval,QV,cW a45,Qp,Vt];rw[av];intro i46 f46;have f46:X3 i46=none:=f46;have m46:i10≠i46:=ao y3 f46;have f46':Vc.bF X3 PU i46=none:=by
     cases PU with
     |none=>exact f46
     |some a=>simp only[Vc.bF,del];split<;>first|rfl|exact f46
    have y4:u' (Vc.bF X3 PU) i46 ⟨45,5,rows++[.agg [vI ((pre.length:Int)+1),vI p.kind,aO p.hs,aO p.fs,aO p.ls]]⟩ i10=some ⟨29,1,[v]⟩:=by rw[ab m46,Ti _ _ k2];exact y3
    have hB9:=((hB3.DS (e:=PU) λi h=>(Uh i h).2).new (o:=⟨45,5,rows++[.agg [vI ((pre.length:Int)+1),vI p.kind,aO p.hs,aO p.fs,aO p.ls]]⟩) f46').set (id:=i10) (o:=⟨29,1,[v]⟩) (o':=⟨29,1,[.own i46 0 (rows.length+1)]⟩) (by rw[ab m46,Ti _ _ k2];exact J10);simp only[go_sem,seval,TF,y4,Vt];refine⟨_,hB9,.own i46 0 (rows.length+1),af,?_,?_⟩
    .refine aa.az (λi o h=>?_) UO;have h1:=Js _ _ h;rw[ab (ao (hB3.1 _ _ h1) f46),Ti _ _ (λhk=>by rw[(aI.1 hk).2]at h;cases h)];exact h1
    .refine aN.new (by simp) (by rw[ab m46.symm,af];rfl) ?_;rw[aI];refine⟨m46.symm,?_⟩;cases h:U i46 with
     |none=>rfl
     |some o=>rw[hB3.1 _ _ (Js _ _ h)]at f46;cases f46
  .rintro Z' ⟨v,Qq,hs,Jo⟩;rw[cL,hU]at Jo;have TF:=Jo.vc.1;have Yv:=Jo.vc.2;have Tq:=iV b.atoms;have Vu:=gy b.PX;have Su:=hb.TH;have R8:=hb.len;have rr:PM .i64 ((b.atoms.length:Int)+b.PX.length):=ak;refine ad.mix 12 ?_;apply sR;simp only[go_sem,seval,S8,Zc];refine ad.ay rfl rfl rfl (D5 b hb.toBkFull _) ?_;apply sR;simp only[go_sem,seval,S8,Zc,jv];have hK:aa U Z':=hs;have hs:=aa.refl Z';refine ae λi15 Y15 s15 VB f15=>?_;have n1015:=ao Qq f15;replace Qq:=s15 _ _ Qq;have z15:=hs.none f15;replace hs:=hs.trans s15;simp only[go_sem,seval,VB,Qq,Zc,aA,aD,aT,aV];generalize Sw:u' _ i15 _=Z15;replace VB:=(congrFun Sw i15).symm.trans af;replace Qq:=((congrFun Sw i10).symm.trans (ab n1015)).trans Qq;replace hs:=Eq.subst (motive:=aa _) Sw (hs.az z15);clear Sw;by_cases hz:(b.atoms.length:Int)+b.PX.length=0
   .have qz:((b.atoms.length:Int)+b.PX.length=0)=True:=PK hz;rw[aE hz]at hPR;simp only[go_sem,seval,VB,Qq,Zc,Tq,Vu,rr,qz,aA,aD,aT,aV];have a10':=Qq;refine ae λi58 Z58 s58 a58 f58=>?_;have n1058:=ao Qq f58;replace Qq:=s58 _ _ Qq;have z58:=hs.none f58;replace hs:=hs.trans s58;simp only[go_sem,seval,a58,Qq,Zc,TF,Yv];rw[hPR];have hs3:=(hK.trans hs).az (id:=i10) (o:=⟨29,1,[.own i58 0 1]⟩) UO;have m58:i10≠i58:=ao a10' f58;have hf:Fz (u' Z58 i10 ⟨29,1,[.own i58 0 1]⟩) (λid=>U id=none) (.PI [.own i58 0 1,vI 0]) (.PI [dk [⟨1,3,[],[],[]⟩],vI 0]):=
     .PI _ _ (.cons _ _ _ _ (.own i58 0 1 ⟨45,5,[.agg [vI 1,vI 3,.aL,.aL,.aL]]⟩ _ ((ab m58.symm).trans a58) (hK.none z58) (by simp) (RQ.one (.agg _ _ (.cons _ _ _ _ (.same _ rfl) (.cons _ _ _ _ (.same _ rfl) (.cons _ _ _ _ (.nil 7) (.cons _ _ _ _ (.nil 7) (.cons _ _ _ _ (.nil 7) .nil)))))))) (RQ.same [vI 0] rfl))
    exact⟨_,U,hs3,hf.wk hs3 (λ_ h=>h),rfl,rfl⟩
   .have qz:((b.atoms.length:Int)+b.PX.length=0)=False:=PG hz;rw[aF hz]at hPR;simp only[go_sem,seval,VB,Qq,Zc,Tq,Vu,rr,qz,TF,Yv,aA,aD,aT,aV];rw[hPR];have hf:Fz Z15 (λid=>U id=none) (.PI [v,vI 0]) (.PI [dk (sE SH),vI 0]):=
     .PI _ _ (.cons _ _ _ _ ((Jo.mono hs).Pq (λid h=>(aI.1 h).2) (HC SH)) (RQ.same [vI 0] rfl))
    exact⟨_,U,hK.trans hs,hf.wk (hK.trans hs) (λ_ h=>h),rfl,rfl⟩
  .intro id h;cases h
  .rintro pre Z' _ ⟨⟩
 .have q1:(jJ l w h≠0)=True:=PK he;rw[aF he];apply sR;simp only[go_sem,seval,q1];exact au.pure hs rfl
def Vy(l:List Qy):Int->Int->List Qk->Option (Int×Int)
 |a,d,[]=>some (a,d)
 |a,d,x::r=>
  if(0<=a/\a<l.length)/\x.atom=a/\x.node=(Rx l a).node/\x.fr=d/\1<=x.h/\x.w=(Rx l a).w/\x.x=(Rx l a).x/\d+x.h<=(Rx l a).h then
   (if d+x.h=(Rx l a).h then Vy l (a+1) 0 r else if r=[]then some (a,d+x.h)else none)
  else none
def AH{b:Bk}(hb:ei b)(F:Int->Qk)(hF:∀k (h:k<b.atoms.length),F k=⟨b.atoms[k].node,k,0,b.atoms[k].x,(F k).y,b.atoms[k].w,b.atoms[k].h⟩):
 ∀(m k:Nat),k+m<=b.atoms.length->Vy b.atoms k 0 ((List.range m).map λi:Nat=>F ((k:Int)+i))=some (((k+m:Nat):Int),0)
 |0,k,_=>by simp[Vy]
 |m+1,k,h=>by
  have hk:k<b.atoms.length:=by omega
  have hp:=hb.pos _ (QF hk);rw[List.range_succ_eq_map,dO,List.map_map];have e:=hF k hk;have e0:F ((k:Int)+((0:Nat):Int))=F k:=by simp
  have ih:=AH hb F hF m (k+1) (by omega);rw[e0,Vy,bn hk,e];simp only;rw[aE ⟨⟨by omega,by omega⟩,trivial,trivial,trivial,hp,trivial,trivial,by omega⟩,aE (by omega)];have e1:((k:Int)+1)=((k+1:Nat):Int):=by omega
  have e2:((λi:Nat=>F ((k:Int)+i))∘Nat.succ)=λi:Nat=>F (((k+1:Nat):Int)+i):=by
   funext i;simp only[Function.comp];congr 1;omega
  rw[e1,e2,ih];congr 2;omega
def zw{b:Bk}(hb:ei b){s:Q6}(hm:dS b.atoms s){kept shift high:Int}{c:Nat}(h1:s.atom<c)(h2:c<=b.atoms.length):
 Vy b.atoms s.atom s.done ((List.range (c-s.atom.toNat)).map λi:Nat=>cH high (dC b.atoms s kept shift (s.atom+(i:Nat))))=some ((c:Int),0):=by
 have U1:=hm;obtain⟨⟨h3,h4⟩,h5,h6⟩:=hm;obtain⟨a,ha⟩:∃a:Nat,s.atom=a:=⟨s.atom.toNat,by omega⟩
 have R8:a<b.atoms.length:=by omega
 rw[ha,bn R8]at h6;have hp:=hb.pos _ (QF R8);obtain⟨m,hmm⟩:∃m,c-s.atom.toNat=m+1:=⟨c-s.atom.toNat-1,by omega⟩
 rw[hmm,List.range_succ_eq_map,dO,List.map_map];have e0:cH high (dC b.atoms s kept shift (s.atom+((0:Nat):Int)))=⟨b.atoms[a].node,a,s.done,b.atoms[a].x,dK b.atoms s kept shift a+s.done+high,b.atoms[a].w,b.atoms[a].h-s.done⟩:=by
  have:s.atom+((0:Nat):Int)=a:=by omega
  rw[this,dC,aE ⟨U1,by omega,by omega⟩,aE (by omega)];simp only[cH,Qk.bQ,lM,gb,bn R8]
 let F:Int->Qk:=λk=>if k=s.atom then⟨b.atoms[a].node,k,0,b.atoms[a].x,0,b.atoms[a].w,b.atoms[a].h⟩else if s.atom<k then cH high (dC b.atoms s kept shift k)else⟨(Rx b.atoms k).node,k,0,(Rx b.atoms k).x,0,(Rx b.atoms k).w,(Rx b.atoms k).h⟩
 have hF:∀k (h:k<b.atoms.length),F k=⟨b.atoms[k].node,k,0,b.atoms[k].x,(F k).y,b.atoms[k].w,b.atoms[k].h⟩:=λk h=>by
  by_cases e:(k:Int)=s.atom
  .obtain rfl:k=a:=by omega
   simp only[F,aE e]
  .by_cases e2:s.atom<k
   .simp only[F,aF e,aE e2];rw[dC,aE ⟨U1,by omega,by omega⟩,aF e];simp only[cH,lM,gb,bn h]
   .simp only[F,aF e,aF e2,bn h]
 have hr:=AH hb F hF m (a+1) (by omega);rw[e0,Vy,ha,bn R8];simp only;rw[aE ⟨⟨by omega,by omega⟩,trivial,trivial,trivial,by omega,trivial,trivial,by omega⟩,aE (by omega)];have e1:((a:Int)+1)=((a+1:Nat):Int):=by omega
 have e2:(List.range m).map ((λi:Nat=>cH high (dC b.atoms s kept shift ((a:Int)+(i:Nat))))∘Nat.succ)=(List.range m).map λi:Nat=>F (((a+1:Nat):Int)+i):=by
  refine List.map_congr_left λi _=>?_;have:((a:Int)+((Nat.succ i:Nat):Int))=((a+1:Nat):Int)+i:=by omega
  simp only[Function.comp,this];simp only[F];rw[aF (by omega),aE (by omega)]
 rw[e1,e2,hr];congr 2;omega
def tq{b:Bk}(hb:ei b){s:RH}(he:¬fC b s):Vy b.atoms s.s.atom s.s.done (bP b s).1.fs=some ((bP b s).2.s.atom,(bP b s).2.s.done):=by
 have Qu:iT b s:=Decidable.byContradiction λh=>he (.inl h);have RF:0<=s.s.atom:=by rcases Qu.2 with h|h;exact h.1.1;omega
 have hg:=kL hb he;revert hg;unfold bP;split
 .rename_i h0;intro _;have hn:s.s.atom=0/\s.s.done=0:=by
   rcases Qu.2 with h|h
   .have:=h.1;rw[h0.1]at this;simp at this;omega
   .rw[h0.1]at h;simpa using h
  show Vy b.atoms s.s.atom s.s.done []=_;rw[Vy,hn.1,hn.2];rfl
 .split
  .intro _;rfl
  .rename_i hf;intro hg;have hm:dS b.atoms s.s:=Qu.2.resolve_right λh=>hf (.inl h.1);have Zz:(mB (eD b (dr b s))).kind=1:=(kf b (dr b s)).2;obtain⟨-,g1,g2,hcg⟩:=hg.cut Zz;change Vy b.atoms s.s.atom s.s.done (eD b (dr b s)).fs=some ((fv b (dr b s)).s.atom,(fv b (dr b s)).s.done);change sc b s.s (fv b (dr b s)).s (eD b (dr b s)).fs _ _ at hcg;have Ux:ez b (dr b s)<=b.atoms.length:=qF;have Q0:=hb.brk;unfold eD fv at hcg|-;by_cases P4:fQ b.Qi (dr b s).s.atom (ez b (dr b s))
   .rw[aE P4,aE P4];obtain⟨c,c1,c2,c3⟩:=uh P4 (by omega);rw[show ye b (dr b s)=c from c1,eL];have c2':s.s.atom<c:=c2;exact zw hb hm c2' (by omega)
   .rw[aF P4,aF P4]at hcg|-;have Zi:qj b.atoms s.s (bG b s.s).body:=⟨hm,iu hb.toBkFull s.s RF⟩
    obtain⟨⟨h3,h4⟩,h5,h6⟩:=hm;obtain⟨a,ha⟩:∃a:Nat,s.s.atom=a:=⟨s.s.atom.toNat,by omega⟩
    have R8:a<b.atoms.length:=by omega
    have hp:=hb.pos _ (QF R8);have hbd:=iu hb.toBkFull s.s RF;have XZ:Rx b.atoms s.s.atom=b.atoms[a]:=by rw[ha,bn R8]
    show Vy b.atoms s.s.atom s.s.done [cH (bG b s.s).high (jD b.atoms s.s (bG b s.s).body)]=some ((eX b.atoms s.s (bG b s.s).body).atom,(eX b.atoms s.s (bG b s.s).body).done);rw[jD,aE Zi,eX,aE Zi,fE,jZ];simp only[Vy,cH,Qk.cut,Qk.bQ,gb,XZ];rw[XZ]at h6;rw[aE ⟨⟨h3,h4⟩,trivial,trivial,trivial,by omega,trivial,trivial,by omega⟩];by_cases e:s.s.done+min (b.atoms[a].h-s.s.done) (bG b s.s).body=b.atoms[a].h
    .have C':¬(s.s.done+min (b.atoms[a].h-s.s.done) (bG b s.s).body<b.atoms[a].h):=by omega
     rw[aE e,aF C']
    .have C':s.s.done+min (b.atoms[a].h-s.s.done) (bG b s.s).body<b.atoms[a].h:=by omega
     rw[aF e,aE C'];simp
def AN{x:O'}{r:List O'}:∀(p:List O') (i:Nat),(x::r).Sublist p->∃k:Nat,kZ x p i=((i+k:Nat):Int)/\r.Sublist (p.drop (k+1))
 |[],i,h=>by cases h
 |q::p,i,h=>by
  rw[kZ];by_cases e:x=q
  .subst e;rw[aE rfl];exact⟨0,rfl,List.cons_sublist_cons.1 h⟩
  .rw[aF e];have h':(x::r).Sublist p:=by
    cases h with
    |cons _ h=>exact h
    |cons_cons _ h=>exact absurd rfl e
   obtain⟨k,h1,h2⟩:=AN p (i+1) h';exact⟨k+1,by rw[h1];congr 1;omega,by simpa using h2⟩
def AD{PX:List O'}:∀(p:List O') (at':Nat),p.Sublist (PX.drop at')->lP PX p at'=true
 |[],at',_=>rfl
 |x::r,at',h=>by
  obtain⟨k,h1,h2⟩:=AN _ 0 h;rw[gY]at h1;rw[lP,h1,aF (by omega),eL];refine AD r _ ?_;rw[List.drop_drop]at h2;rw[show at'+k+1=at'+(k+1) by omega];exact h2
def Aa{x:O'}:∀(p:List O') (i k:Nat),kZ x p i=((i+k:Nat):Int)->p[k]?=some x
 |[],i,k,h=>by simp[kZ]at h;omega
 |q::p,i,k,h=>by
  rw[kZ]at h;split at h
  .rename_i e;obtain rfl:k=0:=by omega
   simp[e]
  .rcases oR x p (i+1)with h2|⟨m,h2,_⟩
   .rw[h2]at h;omega
   .have hk:k=m+1:=by rw[h2]at h;omega
    subst hk;rw[Du];exact Aa p (i+1) m h2
def sI{PX:List O'}:∀(p:List O') (at':Nat),lP PX p at'=true->p.Sublist (PX.drop at')
 |[],at',_=>List.nil_sublist _
 |x::r,at',h=>by
  rw[lP]at h;split at h
  .cases h
  .rename_i hk;rcases oR x (PX.drop at') 0 with e|⟨k,e,SN⟩
   .exact absurd (by rw[e];decide) hk
   .rw[e,gY,eL]at h;have hx:=Aa _ 0 k e;obtain⟨hl,hg⟩:=mL.1 hx;have hr:=sI r _ h;have e1:PX.drop at'=(PX.drop at').take k++x::(PX.drop at').drop (k+1):=by
     conv=>lhs;rw[<-nG k (PX.drop at')]
     rw[gT hl,hg]
    rw[e1,List.drop_drop,show at'+(k+1)=at'+k+1 by omega];exact(List.Sublist.cons_cons x hr).trans (List.sublist_append_right _ _)
def yY{body:Int}:∀(l:List O') (sh:Int),(eg body l sh).2.1.Sublist l
 |[],_=>by simp[eg]
 |f::r,sh=>by
  rw[eg];split
  .exact List.Sublist.refl _
  .exact(yY r _).trans (List.sublist_cons_self _ _)
def Ej{top shift body:Int}(L:List O'):(jH top shift body L).2.Sublist L:=by
 suffices key:∀(L L0:List O') (x:List O'×List O'),x.2.Sublist L0->(L.foldl (λx f=>mG body x f (fM top shift f)) x).2.Sublist (L0++L)from by have h:=key L [] ([],[]) (List.Sublist.refl _);rw[jU]at h;exact h
 intro L
 induction L with
 |nil=>intro L0 x h;simpa using h
 |cons f L ih=>
  intro L0 x h;rw[iY,show L0++f::L=(L0++[f])++L by simp];refine ih _ _ ?_;simp only[mG];split
  .exact h.append (List.Sublist.refl _)
  .exact h.trans (List.sublist_append_left _ _)
def wS{b:Bk}{s:Q6}{to kept shift body:Int}:(eF b.atoms b.PX s to kept shift body).2.Sublist b.PX:=by
 unfold eF;split
 .exact(Ej _).trans List.filter_sublist
 .exact List.nil_sublist _
def Gx{b:Bk}(hb:ei b){s:RH}(he:¬fC b s):iT b (bP b s).2:=by
 have Qu:iT b s:=Decidable.byContradiction λh=>he (.inl h);have hg:=kL hb he;have hp:s.bV.Sublist b.PX:=sI _ 0 Qu.1;refine⟨AD _ 0 ?_,?_⟩
 .rw[Aj];unfold bP;split
  .exact List.dropWhile_sublist _
  .split
   .exact(yY _ _).trans hp
   .show(fv b (dr b s)).bV.Sublist b.PX;unfold fv;split
    .exact wS
    .exact wS
 .rcases hg.kd with k|k
  .obtain⟨hm,-,-,hc⟩:=hg.cut k;have U1:=hm;obtain⟨⟨h0,h1⟩,h2,h3⟩:=hm;cases hc with
   |more q1 q2 q3 q4 q5=>
    left;unfold iP at q3;rw[aE U1]at q3;have:=(tU hb.toBkFull s.s h0).2.1;refine⟨by omega,by omega,.inr ?_⟩;rw[q1];omega
   |whole c r y q1 q2 q3 q4 q5 q6 q7 q8 q9=>
    rw[q1];by_cases QT:c=b.atoms.length
    .exact .inr ⟨by simp only;omega,rfl⟩
    .exact .inl ⟨⟨by simp only;omega,by simp only;omega⟩,Int.le_refl _,.inl rfl⟩
  .have hf:=hg.no' k;have RJ:=tq hb he;rw[hf,Vy]at RJ;have e:=Option.some.inj RJ;have e1:(bP b s).2.s.atom=s.s.atom:=(congrArg Prod.fst e).symm;have e2:(bP b s).2.s.done=s.s.done:=(congrArg Prod.snd e).symm;unfold dS;rw[e1,e2];exact Qu.2
def fsO:Option Q7->List Qk
 |none=>[]
 |some p=>p.fs
def goL(l:List Qy):Int->Int->List (List Qk)->Option (Int×Int)
 |a,d,[]=>some (a,d)
 |a,d,x::r=>match Vy l a d x with
  |some (a',d')=>goL l a' d' r
  |none=>none
def Di(b:Bk)(QQ:∀a∈b.atoms,1<=a.h):iT b ⟨⟨0,0,true⟩,[]⟩:=by
 refine⟨rfl,?_⟩;by_cases h:b.atoms.length=0
 .exact .inr ⟨by simp only;omega,rfl⟩
 .exact .inl ⟨⟨Int.le_refl _,by simp only;omega⟩,Int.le_refl _,.inl rfl⟩
def ui{b:Bk}(hb:ei b){L:Int}(hL:kc b L):∀(f:Nat) (s:RH) (no:Int),iT b s->Zy b L s<f->goL b.atoms s.s.atom s.s.done ((SK b f s no).map fsO)=some ((b.atoms.length:Int),0)
 |0,s,no,_,h=>by omega
 |f+1,s,no,hm,h=>by
  rw[SK];by_cases he:fC b s
  .rw[aE he];have h2:=he.resolve_left (λh=>h hm);have h3:s.s.done=0:=by
    rcases hm.2 with h|h
    .have:=h.1.2;omega
    .exact h.2
   simp only[List.map_nil,goL,h2.1,h3]
  .rw[aF he];have hp:=tq hb he;have hn:=zL hb hL he;have hmn:=Gx hb he;split
   .rw[dO,dO,goL];simp only[fsO,Vy];rw[goL,hp];exact ui hb hL f _ _ hmn (by omega)
   .rw[dO,goL];simp only[fsO];rw[hp];exact ui hb hL f _ _ hmn (by omega)
def Dc{b:Bk}(hb:ei b){L:Int}(hL:kc b L):goL b.atoms 0 0 ((SK b 1000000001 ⟨⟨0,0,true⟩,[]⟩ 0).map fsO)=some ((b.atoms.length:Int),0):=
 ui hb hL 1000000001 ⟨⟨0,0,true⟩,[]⟩ 0 (Di b hb.pos) (by have:=wL hL;omega)
def xC(l:List Qy)(a d:Int)(k:Nat):Int:=if(k:Int)<a then(Rx l k).h else if(k:Int)=a then d else 0
def fP(k:Int):List Qk->Int
 |[]=>0
 |x::r=>(if x.atom=k then x.h else 0)+fP k r
def ew(k:Int):List Qk->Nat
 |[]=>0
 |x::r=>(if x.atom=k then 1 else 0)+ew k r
def mM(k:Int):∀L M:List Qk,fP k (L++M)=fP k L+fP k M
 |[],M=>by simp[fP]
 |x::r,M=>by rw[List.cons_append,fP,fP,mM k r M];omega
def wE(k:Int):∀L:List Qk,ew k L=0->fP k L=0
 |[],_=>rfl
 |x::r,h=>by
  rw[ew]at h;rw[fP,wE k r (by omega)];split
  .rename_i g;rw[aE g]at h;omega
  .rfl
def CL{l:List Qy}(k:Nat):∀(fs:List Qk) (a d a' d':Int),Vy l a d fs=some (a',d')->fP k fs+xC l a d k=xC l a' d' k/\∀x∈fs,0<=x.atom/\x.atom<l.length
 |[],a,d,a',d',h=>by
  rw[Vy]at h;obtain⟨rfl,rfl⟩:=Prod.mk.inj (Option.some.inj h);exact⟨by simp[fP],λx h=>by cases h⟩
 |x::r,a,d,a',d',h=>by
  rw[Vy]at h;split at h
  .rename_i g;obtain⟨g1,g2,-,-,-,-,-,g3⟩:=g;split at h
   .rename_i g4;obtain⟨h1,h2⟩:=CL k r _ _ _ _ h;refine⟨?_,λy hy=>?_⟩
    .rw[<-h1,fP,g2];unfold xC;by_cases e1:(k:Int)<a
     .rw[aF (by omega),aE e1,aE (by omega)];omega
     .by_cases e2:(k:Int)=a
      .rw[aE e2.symm,aF e1,aE e2,aE (by omega),e2];omega
      .rw[aF (λh=>e2 h.symm),aF e1,aF e2,aF (by omega)];split<;>omega
    .rcases cD.1 hy with rfl|hy
     .omega
     .exact h2 y hy
   .split at h
    .rename_i g5;obtain⟨rfl,rfl⟩:=Prod.mk.inj (Option.some.inj h);subst g5;refine⟨?_,λy hy=>?_⟩
     .rw[fP,fP,g2];unfold xC;by_cases e1:(k:Int)<a
      .rw[aF (by omega),aE e1];omega
      .by_cases e2:(k:Int)=a
       .rw[aE e2.symm,aF e1,aE e2,aE e2];omega
       .rw[aF (λh=>e2 h.symm),aF e1,aF e2,aF e2];omega
     .obtain rfl:=iM.1 hy;omega
    .cases h
  .cases h
def xX{l:List Qy}(k:Nat):∀(L:List (List Qk)) (a d a' d':Int),goL l a d L=some (a',d')->fP k L.flatten+xC l a d k=xC l a' d' k/\∀x∈L.flatten,0<=x.atom/\x.atom<l.length
 |[],a,d,a',d',h=>by
  rw[goL]at h;obtain⟨rfl,rfl⟩:=Prod.mk.inj (Option.some.inj h);exact⟨by simp[fP],λx h=>by simp at h⟩
 |x::r,a,d,a',d',h=>by
  rw[goL]at h;cases hx:Vy l a d x with
  |none=>rw[hx]at h;cases h
  |some p=>
   obtain⟨a1,d1⟩:=p;rw[hx]at h;obtain⟨h1,h2⟩:=CL k x _ _ _ _ hx;obtain⟨h3,h4⟩:=xX k r _ _ _ _ h;refine⟨by rw[List.flatten_cons,mM];omega,λy hy=>?_⟩;rw[List.flatten_cons]at hy;exact(dM.1 hy).elim (h2 y) (h4 y)
def tP(L:List Qk):Nat->Nat
 |0=>0
 |n+1=>tP L n+ew n L
def wh(x:Qk)(r:List Qk):∀n:Nat,tP (x::r) n=tP r n+if 0<=x.atom/\x.atom<n then 1 else 0
 |0=>by rw[aF (by omega)];rfl
 |n+1=>by
  rw[tP,tP,wh x r n,ew];by_cases h:x.atom=n
  .rw[aE h,aF (by omega),aE (by omega)];omega
  .rw[aF h];by_cases h2:0<=x.atom/\x.atom<n
   .rw[aE h2,aE (by omega)];omega
   .rw[aF h2,aF (by omega)];omega
def Ab:∀(L:List Qk) (n:Nat),(∀x∈L,0<=x.atom/\x.atom<n)->tP L n=L.length
 |[],n,_=>by
  induction n with
  |zero=>rfl
  |succ n ih=>rw[tP,ih (λx h=>by cases h)];rfl
 |x::r,n,h=>by
  rw[wh,aE (h x (by simp)),Ab r n (λy hy=>h y (by simp[hy]))];rfl
def tk(L:List Qk):∀n:Nat,(∀k:Nat,k<n->1<=ew k L)->n<=tP L n/\(n<tP L n↔∃k:Nat,k<n/\1<ew k L)
 |0,_=>⟨Qh _,by simp[tP]⟩
 |n+1,h=>by
  obtain⟨h1,h2⟩:=tk L n (λk hk=>h k (by omega));have h3:=h n (by omega);rw[tP];refine⟨by omega,⟨λg=>?_,λ⟨k,g1,g2⟩=>?_⟩⟩
  .by_cases e:1<ew n L
   .exact⟨n,by omega,e⟩
   .obtain⟨k,k1,k2⟩:=h2.1 (by omega);exact⟨k,by omega,k2⟩
  .by_cases e:k=n
   .subst e;omega
   .have:=h2.2 ⟨k,by omega,g2⟩;omega
def C9{b:Bk}(hb:ei b){L:Int}(hL:kc b L):
 let P:=((SK b 1000000001 ⟨⟨0,0,true⟩,[]⟩ 0).map fsO).flatten
 (∀k:Nat,k<b.atoms.length->fP k P=(Rx b.atoms k).h)/\(∀x∈P,0<=x.atom/\x.atom<b.atoms.length)/\b.atoms.length<=P.length/\(b.atoms.length<P.length↔∃k:Nat,k<b.atoms.length/\1<ew k P):=by
 intro P;have h:=Dc hb hL;have hs:∀k:Nat,k<b.atoms.length->fP k P=(Rx b.atoms k).h:=λk hk=>by
  have h1:fP k P+xC b.atoms 0 0 k=xC b.atoms b.atoms.length 0 k:=(xX k _ _ _ _ _ h).1;unfold xC at h1;rw[aE (show(k:Int)<(b.atoms.length:Int) by omega)]at h1;split at h1
  .omega
  .split at h1
   .omega
   .omega
 have hr:=(xX 0 _ _ _ _ _ h).2;have hc:∀k:Nat,k<b.atoms.length->1<=ew k P:=λk hk=>by
  have h1:=hs k hk;rw[bn hk]at h1;have h2:=hb.pos _ (QF hk);by_cases h0:ew k P=0
  .have:=wE k P h0;omega
  .omega
 obtain⟨c1,c2⟩:=tk P b.atoms.length hc;rw[Ab P _ hr]at c1 c2;exact⟨hs,hr,c1,c2⟩
def rh(u:Int):List Qk->Int
 |[]=>u
 |x::r=>rh (max u (x.y+x.h)) r
def jQ(p:Q7):Int:=rh (rh (rh 0 p.hs) p.fs) p.ls
def mU{top e:Int}(ht:0<=top):∀(L:List Qk) (u:Int),Ve top e L->0<=u->u<=e->0<=rh u L/\rh u L<=e
 |[],u,_,h0,h1=>⟨h0,h1⟩
 |x::r,u,h,h0,h1=>by
  obtain⟨a1,a2,a3⟩:=h x (by simp);exact mU ht r (max u (x.y+x.h)) (λy hy=>h y (List.mem_cons_of_mem _ hy)) (by omega) (by omega)
def DN(h:Int)(p:Q7):Prop:=(0<=jQ p/\jQ p<=h)/\(p.kind=3->p.hs=[]/\p.fs=[]/\p.ls=[])/\Ve 0 h p.hs/\Ve 0 h p.fs/\Ve 0 h p.ls
def G4{b:Bk}(hb:ei b){s:RH}(he:¬fC b s):DN b.h (bP b s).1:=by
 have hg:=kL hb he;have Qu:iT b s:=Decidable.byContradiction λh=>he (.inl h);have h0:0<=s.s.atom:=by
  rcases Qu.2 with h|h
  .exact h.1.1
  .have:=h.1;omega
 obtain⟨r1,r2,r3,-⟩:=tU hb.toBkFull s.s h0;have w:∀{t:Int} {L:List Qk},0<=t->∀{e:Int},e<=b.h->Ve t e L->Ve 0 b.h L:=λht _ hE h f hf=>by
  obtain⟨a1,a2,a3⟩:=h f hf;omega
 have d1:=w (Int.le_refl 0) (show(bG b s.s).high<=b.h by omega) hg.hd;have d2:=w r1 (Int.le_refl _) hg.fl;have d3:=w r1 (Int.le_refl _) hg.lo;have u1:=mU (Int.le_refl 0) _ _ d1 (Int.le_refl 0) (by omega);have u2:=mU (Int.le_refl 0) _ _ d2 u1.1 u1.2;have u3:=mU (Int.le_refl 0) _ _ d3 u2.1 u2.2;exact⟨u3,λh=>by rcases hg.kd with k|k<;>omega,d1,d2,d3⟩
def By{b:Bk}(hb:ei b):∀(f:Nat) (s:RH) (no:Int),∀p,some p∈SK b f s no->DN b.h p
 |0,_,_,p,h=>by rw[SK]at h;cases h
 |f+1,s,no,p,h=>by
  rw[SK]at h;split at h
  .cases h
  .rename_i he;have hp:=G4 hb he;split at h
   .rcases cD.1 h with h|h
    .cases h
    .rcases cD.1 h with h|h
     .rw[Option.some.inj h];exact hp
     .exact By hb f _ _ p h
   .rcases cD.1 h with h|h
    .rw[Option.some.inj h];exact hp
    .exact By hb f _ _ p h
def wQ{h n:Int}(hh:0<=h):DN h ⟨n,3,[],[],[]⟩:=
 ⟨⟨Int.le_refl 0,hh⟩,λ_=>⟨rfl,rfl,rfl⟩,(λf hf=>by cases hf),(λf hf=>by cases hf),(λf hf=>by cases hf)⟩
def D2{b:Bk}(hb:ei b):∀p∈gg b,DN b.h p:=by
 have hh:0<=b.h:=by have:=hb.h1;omega
 unfold gg;split
 .intro p hp;obtain rfl:=iM.1 hp;exact wQ hh
 .intro p hp;unfold sE at hp;obtain⟨k,hk,rfl⟩:=eI.1 hp;have hk:=List.mem_range.1 hk;generalize hL:SK b 1000000001 ⟨⟨0,0,true⟩,[]⟩ 0=L at*;have hx:L.getD k none=L[k]:=by rw[tQ,SQ hk];rfl
  rw[hx];cases hq:L[k]with
  |none=>exact wQ hh
  |some q=>
   have hm:some q∈SK b 1000000001 ⟨⟨0,0,true⟩,[]⟩ 0:=by rw[hL,<-hq];exact QF hk
   exact By hb _ _ _ q hm
def Hu(L:List (Option Q7)):(sE L).map (·.fs)=L.map fsO:=by
 have h:(List.range L.length).map (λk=>L.getD k none)=L:=by
  refine List.ext_getElem (by simp) λi h1 h2=>?_;simp[tQ,h2]
 unfold sE;rw[List.map_map]
 conv=>rhs;rw[<-h,List.map_map]
 refine List.map_congr_left λk _=>?_;show(pgN k (L.getD k none)).fs=fsO (L.getD k none);cases L.getD k none<;>rfl
def aU(R:List Q7):List Qk:=(R.map (·.fs)).flatten
def yJ{b:Bk}(hb:ei b){L:Int}(hL:kc b L):
 (∀k:Nat,k<b.atoms.length->fP k (aU (gg b))=(Rx b.atoms k).h)/\(∀x∈aU (gg b),0<=x.atom/\x.atom<b.atoms.length)/\
 b.atoms.length<=(aU (gg b)).length/\(b.atoms.length<(aU (gg b)).length↔∃k:Nat,k<b.atoms.length/\1<ew k (aU (gg b))):=by
 unfold aU gg;split
 .rename_i h;have hn:b.atoms.length=0:=by omega
  rw[hn];refine⟨λk hk=>by omega,λx hx=>by simp at hx,Nat.zero_le _,?_⟩;simp
 .rw[Hu];exact C9 hb hL
open Go.Proofs
def yi(l:List Qk):dY false (aO l)=some (.int .i64 l.length):=by simp[aO,dY]
def sy{U:ag}{l:List Qk}{i:Nat}(h:i<l.length):bL U 7 (aO l) (.int .i64 i)=some (.rp (aZ l[i])):=by simp[aO,bL,h,aZ]
open Go.Proofs
def sU(l:List Q7):dY false (dk l)=some (.int .i64 l.length):=by simp[dk,dY]
def sW{U:ag}{l:List Q7}{i:Nat}(h:i<l.length):bL U 5 (dk l) (.int .i64 i)=some (.rp (bw l[i])):=by simp[dk,bL,h,bw]
def zd(U:ag)(l:List Qk):bT U false 1 (.rp (aO l))=some (aO l):=rfl
open Go.Proofs
section
variable {P:Program} {n:Nat} {st:St} {Q:St->Prop} {k:List It}
def Go.FZ{i:aG}{l:List aG}{fx:VX}{xs:List VX}{f:FuncId}{caps:List V}{v:V}(hw:bl st.s i.g=some true)(ho:i.op=.call fx xs)
 (hf:fx.ev st.s=.fn f caps)(hc:aP P f (xs.map (·.ev st.s)++caps) v)(h:Go P n (.d l k) ⟨aW st.s i.dst v,st.U⟩ Q):Go P n (.d (i::l) k) st Q:=by
 refine mc hw ?_;rw[ho];exact⟨f,caps,v,hf,λZ1 _=>hc Z1,h⟩
def Go.tC{i:aG}{l:List aG}{fx:VX}{xs:List VX}{f:FuncId}{caps:List V}{v:V}(hw:bl st.s i.g=some true)(ho:i.op=.call fx xs)
 (hf:fx.ev st.s=.fn f caps)(hc:∀Z1,aa st.U Z1->aC P f (xs.map (·.ev st.s)++caps) Z1 λr Z'=>r=v/\Z'=Z1)(h:Go P n (.d l k) ⟨aW st.s i.dst v,st.U⟩ Q):Go P n (.d (i::l) k) st Q:=by
 refine mc hw ?_;rw[ho];exact⟨f,caps,v,hf,λZ1 h1=>hc Z1 h1,h⟩
end
def jw(l:List Int):Int:=l.foldl (λs n=>bz (s+bz n)) 0
def jj(n:Int):-1099511627776<=bz n/\bz n<=1099511627776:=by unfold bz;omega
def uf(l:List Int)(hl:l.length<=1000000000):aP prog 27 [encI l] (vI (jw l)):=λU=>by
 refine e27.r (by simp[c27]) ?_;refine ad.mix 9 ?_;apply sR;simp only[go_sem,seval,av,ax,c27,eO];refine ad.loop (λm st=>∃i:Nat,i<=l.length/\m=l.length-i/\st.U=U/\st.s 6=encI l/\st.s 7=vI l.length/\st.s 8=vI i/\st.s 3=vI (jw (l.take i))) l.length ?_ ?_
 .exact⟨0,by omega,by omega,rfl,rfl,rfl,rfl,by simp[jw,mix,aW]⟩
 .rintro m ⟨s',Z'⟩ ⟨i,hi,rfl,P3,h6,h7,h8,h3⟩;simp only at P3 h6 h7 h8 h3;subst P3;refine ad.mix 9 ?_;by_cases C':i<l.length
  .have P':((i:Int)<(l.length:Int))=True:=by simp;omega
   have E':=gG (U:=Z') C';have U6:PM .i64 ((i:Int)+1):=ak;have Qn:jw (l.take (i+1))=bz (jw (l.take i)+bz l[i]):=by rw[jw,SO C',ov];rfl
   have hr:-1099511627776<=jw (l.take i)/\jw (l.take i)<=1099511627776:=by
    cases i with
    |zero=>simp[jw]
    |succ i=>
     have:i<l.length:=by omega
     have e:jw (l.take (i+1))=bz (jw (l.take i)+bz l[i]):=by rw[jw,SO this,ov];rfl
     rw[e];exact jj _
   have VA:=jj l[i];generalize l[i]=x at*;generalize jw (l.take i)=S at*;have r1:PM .i64 (S+bz x):=ak;apply sR;simp only[go_sem,seval,av,ax,h6,h7,h8,h3,P',E'];refine ad.ay rfl rfl rfl (iO x _) ?_;apply sR;simp only[go_sem,seval,av,ax,h6,h7,h8,h3,r1];refine ad.ay rfl rfl rfl (iO (S+bz x) _) ?_;apply sR;simp only[go_sem,seval,av,ax,h6,h7,h8,h3,U6];exact⟨_,by omega,i+1,by omega,rfl,by simp[h6,h7,Qn]⟩
  .have P':((i:Int)<(l.length:Int))=False:=by simp;omega
   apply sR;simp only[go_sem,seval,av,ax,h6,h7,h8,h3,P'];exact au.same (by rw[kT (by omega)])
def Mj(a b:Int):aP prog 28 [vI a,vI b] (vI (bz (bz a-bz b))):=λU=>by
 refine e28.r (by simp[c28]) ?_;refine ad.mix 5 ?_;have h1:=jj a;have h2:=jj b;have r1:PM .i64 (bz a-bz b):=ak;apply sR;simp only[go_sem,seval,av,ax,c28];refine ad.ay rfl rfl rfl (iO a _) ?_;apply sR;simp only[go_sem,seval,av,ax];refine ad.ay rfl rfl rfl (iO b _) ?_;apply sR;simp only[go_sem,seval,av,ax,r1];refine ad.ay rfl rfl rfl (iO _ _) ?_;apply sR;simp only[go_sem,seval,av,ax];exact au.same rfl
structure Rq where
 (no kind used free:Int)
deriving DecidableEq
def bX(f:Rq):V:=.agg [vI f.no,vI f.kind,vI f.used,vI f.free]
def Ya(p:Q7):Nat->List Qk
 |0=>p.hs
 |1=>p.fs
 |2=>p.ls
 |_=>[]
def Xc(p:Q7):Nat->List Qk
 |0=>[]
 |i+1=>Xc p i++Ya p i
def Sx(l:List Qk):List (List V):=l.map λt=>[aZ t]
def HV(U:ag)(x:Qk):bT U true 7 (.rp (aZ x))=some (aZ x):=rfl
def MM(p:Q7){i:Nat}(h:i<3):fa false 3 1 (.agg [aO p.hs,aO p.fs,aO p.ls]) (vI i)=some (aO (Ya p i)):=by
 have:i=0\/i=1\/i=2:=by omega
 rcases this with rfl|rfl|rfl<;>rfl
def vH(l:List Qk):(aO l).cells=[aO l]:=rfl
def we(l:List Qk):(aO l).stays=true:=rfl
def Bn(p:Q7)(hs:∀i,(Ya p i).length<=2000000):Iter prog 60 [.rp (bw p)] (Sx (Xc p 3)):=by
 refine⟨e60.c,λP9 τ Jx Z0 hy hJ=>?_⟩;refine(e60.r (by simp[c60]) ?_).2;refine ad.mix 12 ?_;apply sR;simp only[go_sem,seval,c60,bw,vH,we,zd];refine ad.loop (λm st=>∃(i:Nat) (ZJ:ag),i<=3/\m=3-i/\τ (Sx (Xc p i)) ZJ/\aa ZJ st.U/\
  st.s 0=.yl P9/\st.s 13=.agg [aO p.hs,aO p.fs,aO p.ls]/\st.s 14=vI i) 3 ?_ ?_
 .exact⟨0,Z0,by omega,by omega,hJ,aa.refl _,rfl,rfl,rfl⟩
 .rintro m ⟨s',Z'⟩ ⟨i,ZJ,hi,rfl,hJp,B',h0,YS,h14⟩;simp only at B' h0 YS h14;refine ad.mix 20 ?_;by_cases C':i<3
  .have P':((i:Int)<3)=True:=by simp;omega
   have hpg:=MM p C';have Ty:=hs i;have Su:Xc p (i+1)=Xc p i++Ya p i:=rfl;have SD:∃post,Sx (Xc p 3)=Sx (Xc p (i+1))++Sx post:=by
    have:i=0\/i=1\/i=2:=by omega
    rcases this with rfl|rfl|rfl
    .exact⟨p.fs++p.ls,by simp[Xc,Ya,Sx]⟩
    .exact⟨p.ls,by simp[Xc,Ya,Sx]⟩
    .exact⟨[],by simp[Sx]⟩
   obtain⟨post,Xj⟩:=SD;have r1:PM .i64 ((i:Int)+1):=ak;rw[Su]at Xj;generalize hl:Ya p i=l at*;generalize hbef:Xc p i=PV at*;apply sR;simp only[BB,seval,<-decide_not,bp,eT,aH,dF,dG,dB,dE,dH,bO,jm,dZ,bx,cQ,fb,cJ,cy,bI,gI,ct,bH,bM,QW,jg,cP,bJ,iy,di,bY,cO,cF,ji,binBV,bD,cX,V.cells,V.stays,Qw.nothing,h0,YS,h14,P',hpg,yi];refine ad.loop (λm st=>∃(j:Nat) (ZJ:ag),j<=l.length/\m=l.length-j/\τ (Sx (PV++l.take j)) ZJ/\aa ZJ st.U/\
    st.s 0=.yl P9/\st.s 13=.agg [aO p.hs,aO p.fs,aO p.ls]/\st.s 14=vI i/\st.s 17=aO l/\st.s 18=vI l.length/\st.s 19=vI j) l.length ?_ ?_
   .exact⟨0,ZJ,by omega,by omega,by simpa using hJp,B',h0,YS,h14,rfl,rfl,rfl⟩
   .rintro m ⟨s1,Z1⟩ ⟨j,ZK,hj,rfl,hJk,XD,k0,SU,V9,k17,k18,k19⟩;simp only at XD k0 SU V9 k17 k18 k19;refine ad.mix 20 ?_;by_cases Tr:j<l.length
    .have hjl':((j:Int)<(l.length:Int))=True:=by simp;omega
     have E':=sy (U:=Z1) Tr;have r2:PM .i64 ((j:Int)+1):=ak;have Qn:l.take (j+1)=l.take j++[l[j]]:=by rw[Ax,SQ Tr];rfl
     have Rv:Sx (Xc p 3)=Sx (PV++l.take j)++[aZ l[j]]::Sx (l.drop (j+1)++post):=by
      have e:l=l.take j++l[j]::l.drop (j+1):=by
       rw[<-gT Tr,nG]
      have e2:Sx l=Sx (l.take j)++[aZ l[j]]::Sx (l.drop (j+1)):=by
       rw[show Sx l=Sx (l.take j++l[j]::l.drop (j+1))from congrArg Sx e];simp only[Sx,eo,dO]
      rw[Xj,show Sx (PV++l)=Sx PV++Sx l by simp only[Sx,eo],e2,show Sx (PV++l.take j)=Sx PV++Sx (l.take j) by simp only[Sx,eo],show Sx (l.drop (j+1)++post)=Sx (l.drop (j+1))++Sx post by simp only[Sx,eo]];simp only[gw,List.cons_append]
     apply sR;simp only[go_sem,seval,k0,SU,V9,k17,k18,k19,hjl',E',HV];generalize l[j]=g at*;refine ae λVn Z2 s2 a2 f2=>?_;simp only[go_sem,seval,a2,aZ,k0,SU,V9,k17,k18,k19];generalize hZ5:u' Z2 Vn _=Z5;have hsub5:aa ZK Z5:=by rw[<-hZ5];exact(XD.trans s2).az (XD.none f2)
     refine ad.lK (Post:=λb Z'=>∃P5,bf ZK Z5 P5 Z'/\((b=true/\τ (Sx (PV++l.take j)++[[aZ g]]) P5)\/(b=false/\Jx (Sx (PV++l.take j)++[[aZ g]]) P5))) rfl rfl rfl (hy _ [aZ g] _ ZK Z5 Rv hJk hsub5) ?_;rintro b Z6 ⟨P5,QM,hb⟩;rcases hb with⟨rfl,hb⟩|⟨rfl,hb⟩
     .apply sR;simp only[go_sem,seval,k0,SU,V9,k17,k18,k19,r2];refine⟨_,?_,j+1,P5,by omega,rfl,?_,QM.1,by simp[k0,SU,V9,k17,k18]⟩
      .omega
      .rw[Qn,<-gw];show τ ((PV++l.take j++[g]).map λt=>[aZ t]) P5;rw[eo];exact hb
     .apply sR;simp only[go_sem,seval,k0,SU,V9,k17,k18,k19];refine⟨_,P5,QM.1,Wk.refl QM.1 _,.inr ⟨Sx (PV++l.take j)++[[aZ g]],?_,hb⟩⟩;rw[Rv];exact⟨Sx (l.drop (j+1)++post),by simp⟩
    .have hjl':((j:Int)<(l.length:Int))=False:=by simp;omega
     apply sR;simp only[go_sem,seval,k0,SU,V9,k17,k18,k19,hjl',r1];refine⟨_,?_,i+1,ZK,by omega,rfl,?_,XD,by simp[k0,SU]⟩
     .omega
     .rw[Su];rw[kT (by omega)]at hJk;exact hJk
  .have P':((i:Int)<3)=False:=by simp;omega
   obtain rfl:i=3:=by omega
   apply sR;simp only[go_sem,seval,h0,YS,h14,P'];exact⟨_,ZJ,B',Wk.refl B' _,.inl hJp⟩
def F2(p:Q7):aP prog 26 [bw p] (.fn 60 [.rp (bw p)]):=λU=>by
 refine e26.r (by simp[c26]) ?_;refine ad.mix 4 ?_;apply sR;simp only[go_sem,seval,c26,bw,vH,we];refine ae λSn Z1 s1 a1 f1=>?_;simp only[go_sem,seval];exact⟨_,U,s1,Wk.fn (vs':=[.rp (bw p)]) ⟨Wk.ptr s1 a1 f1,trivial⟩,rfl,rfl⟩
def Fl(a b:Int):Int:=if b>a then b else a
def rM(l:List Qk):Int:=l.foldl (λm g=>Fl m (jw [g.y,g.h])) 0
def xR(p:Q7)(h:Int):Rq:=⟨p.no,p.kind,rM (Xc p 3),bz (bz h-bz (rM (Xc p 3)))⟩
def B8(p:Q7)(h:Int)(hs:∀i,(Ya p i).length<=2000000):aP prog 11 [bw p,vI h] (bX (xR p h)):=λU=>by
 refine e11.r (by simp[c11]) ?_;refine ad.mix 10 ?_;have Ru:(bw p).cells=[vI p.no,vI p.kind,aO p.hs,aO p.fs,aO p.ls]:=rfl;have TD:(bw p).stays=true:=rfl;have hit:=Bn p hs;unfold xR;generalize hL:Xc p 3=L at*;have SC:=F2 p;obtain⟨e,he⟩:∃e,e=bw p:=⟨_,rfl⟩
 rw[<-he]at Ru TD hit SC|-;have RC:V.agg [vI p.no,vI p.kind,aO p.hs,aO p.fs,aO p.ls]=e:=by rw[he];rfl
 apply sR;simp only[go_sem,seval,c11,Ru,TD];refine ae λRs Z1 s1 a2 f2=>?_;simp only[go_sem,seval];refine ae λSS Z2 s2 a4 f4=>?_;simp only[go_sem,seval];refine ae λQl Z3 s3 a5 f5=>?_;have VF:Rs≠Ql:=ao (s2 _ _ a2) f5;have R0:SS≠Ql:=ao a4 f5;have n24:Rs≠SS:=ao a2 f4;have g2:=s3 _ _ (s2 _ _ a2);have g4:=s3 _ _ a4;have hsZ:aa U Z3:=(s1.trans s2).trans s3;have z5:U Ql=none:=(s1.trans s2).none f5;have z4:U SS=none:=s1.none f4;simp only[go_sem,seval,a5,g2,ab VF,Ru,TD,RC];refine ad.ay rfl rfl rfl (SC _) ?_;apply sR;simp only[go_sem,seval,av,ax];have uvi:V.cells (vI (rM L))=[vI (rM L)]:=rfl;generalize hS:mix 10 _ _=S;have S1:S 1=vI h:=by rw[<-hS];rfl
 have S2:S 2=.ptr Rs 0 0:=by rw[<-hS];rfl
 have S4:S 4=.ptr SS 0 0:=by rw[<-hS];rfl
 have S5:S 5=.ptr Ql 0 0:=by rw[<-hS];rfl
 have S8:S 8=.fn 60 [.rp e]:=by rw[<-hS];rfl
 clear hS;refine ad.eK (g:=.t 8) (caps:=[.rp e]) S8 hit (λx hx=>?_) [] (λpre ZJ=>ZJ=u' Z3 Ql ⟨3,1,[vI (rM (L.take pre.length))]⟩) (λ_ _ _=>False) ?_ ?_ ?_ ?_ ?_
 .obtain⟨t,_,rfl⟩:=eI.1 hx;rfl
 .rfl
 .rintro pre x post ZJ ZB Rv rfl B';obtain⟨t,W2,rfl⟩:∃t,L[pre.length]?=some t/\x=[aZ t]:=by
   have:=congrArg (·[pre.length]?) Rv;simp only[Sx,l3,Er (Qh _),Nat.sub_self,EE,Zq8]at this;obtain⟨t,h1,h2⟩:=this;exact⟨t,h1,h2.symm⟩
  have Qn:L.take (pre.length+1)=L.take pre.length++[t]:=by rw[Ax,W2];rfl
  have hlen:(pre++[[aZ t]]).length=pre.length+1:=by simp
  have huse:rM (L.take (pre.length+1))=Fl (rM (L.take pre.length)) (jw [t.y,t.h]):=by rw[Qn];unfold rM;rw[ov];rfl
  simp only[hlen,huse];generalize rM (L.take pre.length)=mo at*;have b5:=B' _ _ (af (U:=Z3) (id:=Ql) (o:=⟨3,1,[vI mo]⟩));generalize Ro:lT S [9] [aZ t]=S0;have T5:S0 5=.ptr Ql 0 0:=by rw[<-Ro];exact S5
  have T9:S0 9=aZ t:=by rw[<-Ro];rfl
  clear Ro;refine ad.mix 8 ?_;apply sR;simp only[go_sem,seval,T5,T9];refine ae λVn Z6 s6 a6 f6=>?_;have n56:Ql≠Vn:=ao b5 f6;simp only[go_sem,seval,a6,aZ,T5,T9];have c5:=s6 _ _ b5;apply sR;simp only[go_sem,seval,T5,T9,c5,ab n56,af];refine bj λYO Z7 s7 a7 f7=>?_;have d5:=s7 _ _ ((ab n56).trans c5);simp only[go_sem,seval];refine Go.tC (v:=vI (jw [t.y,t.h])) rfl rfl rfl (λZ8 h8=>aP.borrow (args':=[encI [t.y,t.h]])
   ⟨by have:=Wk.own (cV Z8) (h8 _ _ a7) (Z':=fe) rfl (off:=0) (len:=2) (by simp);exact this,trivial⟩ (uf _ (by simp)) rfl) ?_
  apply sG;simp only[go_sem,seval,T5,d5];have h7:aa ZB Z7:=(s6.az f6).trans s7;have hB:bf (u' Z3 Ql ⟨3,1,[vI mo]⟩) ZB (u' Z3 Ql ⟨3,1,[vI mo]⟩) Z7:=⟨B'.trans h7,λi o h1 h2=>⟨h7 _ _ h2,h1⟩⟩
  have hB2:=hB.set (o':=⟨3,1,[vI (Fl mo (jw [t.y,t.h]))]⟩) af;rw[bZ]at hB2;exact⟨_,hB2,rfl⟩
 .intro Z' hZ';have e5:Z' Ql=some ⟨3,1,[vI (rM L)]⟩:=by rw[hZ',Sx,cL,hU,af]
  have e2:Z' Rs=some ⟨45,5,[e]⟩:=by rw[hZ',ab VF];exact g2
  have e4:Z' SS=some ⟨42,4,[.agg [vI 0,vI 0,vI 0,vI 0]]⟩:=by rw[hZ',ab R0];exact g4
  have k5:aa U Z':=by rw[hZ'];exact hsZ.az z5
  generalize rM L=mo at*;refine ad.mix 10 ?_;apply sR;simp only[go_sem,seval,S1,S2,S4,S5,e2,e4,e5,Ru,TD];refine Go.FZ rfl rfl rfl (Mj h mo) ?_;apply sG;simp only[go_sem,seval,S4,e4,af];exact au.pure (k5.az z4) rfl
 .intro id h;cases h
 .rintro pre Z' _ h;exact h.elim
open Go.Proofs
structure Tk where
 Qr:Int
 blank:Int
 used:Int
 free:Int
 full:Int
 Sy:Int
 SL:Int
 least:Int
def eE(m:Tk):V:=.agg [vI m.Qr,vI m.blank,vI m.used,vI m.free,vI m.full,vI m.Sy,vI m.SL,vI m.least]
def dy(m:Tk)(x:Rq):Tk:={ m with Qr:=m.Qr+1,used:=jw [m.used,x.used],free:=jw [m.free,x.free] }
def u7(m:Tk)(i:Int)(x:Rq):Tk:=if m.full<0\/x.used>m.SL then{ m with full:=i,SL:=x.used }else m
def sY(m:Tk)(i:Int)(x:Rq):Tk:=if m.Sy<0\/x.used<m.least then{ m with Sy:=i,least:=x.used }else m
def kB(m:Tk)(i:Int)(x:Rq):Tk:=if x.kind=3 then{ dy m x with blank:=m.blank+1 }else sY (u7 (dy m x) i x) i x
def I8:List (List Nat):=[[],[],[],[],[3],[0,0,2],[5,0,2],[6,0,2],[7,2,0,2],[1,0,1,2,3,4,5,6,7,8],[9,0,1,2,3,4,5,6,7,8],[10,4,8,0,1,2,3,4,5,6,7,8]]
def nE(id Ql:Nat)(i u:Int)(o1 o2:Nat):Nat->V
 |0=>.ptr id 0 0
 |1=>.ptr id 0 0
 |2=>vI i
 |3=>.ptr Ql 0 2
 |4=>vI u
 |5=>.ptr id 0 0
 |6=>.ptr id 0 0
 |7=>.ptr id 0 o1
 |9=>.ptr id 0 0
 |10=>.ptr id 0 o2
 |_=>.PI []
def pC(U:ag)(id:Nat)(m1 m2:Tk):Nat->ag
 |0=>U
 |1=>u' U id ⟨84,8,[eE m1]⟩
 |_=>u' U id ⟨84,8,[eE m2]⟩
def zk{U:ag}{id Ql:Nat}{m1 m2:Tk}{o:Ob}(PZ:Ql≠id)(h5:U Ql=some o)(p:Nat):pC U id m1 m2 p Ql=some o:=by
 unfold pC;split
 .exact h5
 .rw[ab PZ];exact h5
 .rw[ab PZ];exact h5
def Jk:List aG:=[⟨some 68,.Qo (.t 0),none⟩,⟨some 69,.Qo (.t 0),none⟩,⟨some 70,.Qo (.t 1),none⟩,⟨some 71,.PN false 2 1 (.t 5),none⟩,⟨some 72,.load false 1 (.t 71),none⟩,⟨some 73,.nilCheck (.t 68),none⟩,⟨some 74,.PN true 0 6 (.t 73),none⟩,⟨some 75,.PN false 4 1 (.t 74),none⟩,⟨none,.store 1 (.t 75) (.t 70),none⟩,⟨some 76,.nilCheck (.t 69),none⟩,⟨some 77,.PN false 6 1 (.t 76),none⟩,⟨none,.store 1 (.t 77) (.t 72),none⟩]
def OH{S:Nat->V}{U:ag}{id Ql:Nat}{m:Tk}{x:Rq}{i:Int}{k:List It}{Q:St->Prop}(h0:S 0=.ptr id 0 0)(h1:S 1=vI i)(h5:S 5=.ptr Ql 0 0)(PZ:Ql≠id)
 (hid:U id=some ⟨84,8,[eE m]⟩)(R7:U Ql=some ⟨42,4,[bX x]⟩)
 (h:∀s',s' 0=.ptr id 0 0->s' 1=vI i->s' 5=.ptr Ql 0 0->ad prog 103 k ⟨s',u' U id ⟨84,8,[eE { m with full:=i,SL:=x.used }]⟩⟩ Q):ad prog 103 (.code (.kI Jk I8)::k) ⟨S,U⟩ Q:=by
 refine ad.M4 (by kernel_rfl) (nE id Ql i x.used 4 6) (pC U id { m with full:=i } { m with full:=i,SL:=x.used }) (by kernel_rfl) rfl ⟨?_,?_,?_,?_,?_,?_,?_,?_,?_,?_,?_,?_,trivial⟩ ?_
 .intro s' hd hf;exact⟨rfl,rfl,trivial,λp=>congrArg some ((hf 0 (by kernel_rfl)).trans h0)⟩
 .intro s' hd hf;exact⟨rfl,rfl,trivial,λp=>congrArg some ((hf 0 (by kernel_rfl)).trans h0)⟩
 .intro s' hd hf;exact⟨rfl,rfl,trivial,λp=>congrArg some ((hf 1 (by kernel_rfl)).trans h1)⟩
 .intro s' hd hf;have e:=hf 5 (by kernel_rfl);exact⟨rfl,rfl,trivial,λp=>by simp[aH,VX.ev,dZ,e,h5,nE]⟩
 .intro s' hd hf;have e:s' 71=.ptr Ql 0 2:=hd 3 (by decide);exact⟨rfl,rfl,trivial,λp=>by simp[aH,VX.ev,bT,e,zk PZ R7,nE,bX,V.cells]⟩
 .intro s' hd hf;have e:s' 68=.ptr id 0 0:=hd 0 (by decide);exact⟨rfl,rfl,trivial,λp=>by simp[aH,VX.ev,bD,e,nE]⟩
 .intro s' hd hf;have e:s' 73=.ptr id 0 0:=hd 5 (by decide);exact⟨rfl,rfl,trivial,λp=>by simp[aH,VX.ev,dZ,e,nE]⟩
 .intro s' hd hf;have e:s' 74=.ptr id 0 0:=hd 6 (by decide);exact⟨rfl,rfl,trivial,λp=>by simp[aH,VX.ev,dZ,e,nE]⟩
 .intro s' hd hf;have e:s' 75=.ptr id 0 4:=hd 7 (by decide);have e2:s' 70=vI i:=hd 2 (by decide);refine⟨?_,rfl⟩;show bH U 1 (s' 75) (s' 70)=some (pC U id _ _ 1);rw[e,e2];simp[bH,hid,eE,bM,V.cells,V.stays,pC]
 .intro s' hd hf;have e:s' 69=.ptr id 0 0:=hd 1 (by decide);exact⟨rfl,rfl,trivial,λp=>by simp[aH,VX.ev,bD,e,nE]⟩
 .intro s' hd hf;have e:s' 76=.ptr id 0 0:=hd 9 (by decide);exact⟨rfl,rfl,trivial,λp=>by simp[aH,VX.ev,dZ,e,nE]⟩
 .intro s' hd hf;have e:s' 77=.ptr id 0 6:=hd 10 (by decide);have e2:s' 72=vI x.used:=hd 4 (by decide);refine⟨?_,rfl⟩;show bH (pC U id _ _ 1) 1 (s' 77) (s' 72)=some (pC U id _ _ 2);rw[e,e2];simp[bH,eE,bM,V.cells,V.stays,pC,af,bZ]
 .intro s' hv hf;exact h s' ((hf 0 (by kernel_rfl)).trans h0) ((hf 1 (by kernel_rfl)).trans h1) ((hf 5 (by kernel_rfl)).trans h5)
def JI:List aG:=[⟨some 93,.Qo (.t 0),none⟩,⟨some 94,.Qo (.t 0),none⟩,⟨some 95,.Qo (.t 1),none⟩,⟨some 96,.PN false 2 1 (.t 5),none⟩,⟨some 97,.load false 1 (.t 96),none⟩,⟨some 98,.nilCheck (.t 93),none⟩,⟨some 99,.PN true 0 6 (.t 98),none⟩,⟨some 100,.PN false 5 1 (.t 99),none⟩,⟨none,.store 1 (.t 100) (.t 95),none⟩,⟨some 101,.nilCheck (.t 94),none⟩,⟨some 102,.PN false 7 1 (.t 101),none⟩,⟨none,.store 1 (.t 102) (.t 97),none⟩]
def MI{S:Nat->V}{U:ag}{id Ql:Nat}{m:Tk}{x:Rq}{i:Int}{k:List It}{Q:St->Prop}(h0:S 0=.ptr id 0 0)(h1:S 1=vI i)(h5:S 5=.ptr Ql 0 0)(PZ:Ql≠id)
 (hid:U id=some ⟨84,8,[eE m]⟩)(R7:U Ql=some ⟨42,4,[bX x]⟩)
 (h:∀s',s' 0=.ptr id 0 0->s' 1=vI i->s' 5=.ptr Ql 0 0->ad prog 103 k ⟨s',u' U id ⟨84,8,[eE { m with Sy:=i,least:=x.used }]⟩⟩ Q):ad prog 103 (.code (.kI JI I8)::k) ⟨S,U⟩ Q:=by
 refine ad.M4 (by kernel_rfl) (nE id Ql i x.used 5 7) (pC U id { m with Sy:=i } { m with Sy:=i,least:=x.used }) (by kernel_rfl) rfl ⟨?_,?_,?_,?_,?_,?_,?_,?_,?_,?_,?_,?_,trivial⟩ ?_
 .intro s' hd hf;exact⟨rfl,rfl,trivial,λp=>congrArg some ((hf 0 (by kernel_rfl)).trans h0)⟩
 .intro s' hd hf;exact⟨rfl,rfl,trivial,λp=>congrArg some ((hf 0 (by kernel_rfl)).trans h0)⟩
 .intro s' hd hf;exact⟨rfl,rfl,trivial,λp=>congrArg some ((hf 1 (by kernel_rfl)).trans h1)⟩
 .intro s' hd hf;have e:=hf 5 (by kernel_rfl);exact⟨rfl,rfl,trivial,λp=>by simp[aH,VX.ev,dZ,e,h5,nE]⟩
 .intro s' hd hf;have e:s' 96=.ptr Ql 0 2:=hd 3 (by decide);exact⟨rfl,rfl,trivial,λp=>by simp[aH,VX.ev,bT,e,zk PZ R7,nE,bX,V.cells]⟩
 .intro s' hd hf;have e:s' 93=.ptr id 0 0:=hd 0 (by decide);exact⟨rfl,rfl,trivial,λp=>by simp[aH,VX.ev,bD,e,nE]⟩
 .intro s' hd hf;have e:s' 98=.ptr id 0 0:=hd 5 (by decide);exact⟨rfl,rfl,trivial,λp=>by simp[aH,VX.ev,dZ,e,nE]⟩
 .intro s' hd hf;have e:s' 99=.ptr id 0 0:=hd 6 (by decide);exact⟨rfl,rfl,trivial,λp=>by simp[aH,VX.ev,dZ,e,nE]⟩
 .intro s' hd hf;have e:s' 100=.ptr id 0 5:=hd 7 (by decide);have e2:s' 95=vI i:=hd 2 (by decide);refine⟨?_,rfl⟩;show bH U 1 (s' 100) (s' 95)=some (pC U id _ _ 1);rw[e,e2];simp[bH,hid,eE,bM,V.cells,V.stays,pC]
 .intro s' hd hf;have e:s' 94=.ptr id 0 0:=hd 1 (by decide);exact⟨rfl,rfl,trivial,λp=>by simp[aH,VX.ev,bD,e,nE]⟩
 .intro s' hd hf;have e:s' 101=.ptr id 0 0:=hd 9 (by decide);exact⟨rfl,rfl,trivial,λp=>by simp[aH,VX.ev,dZ,e,nE]⟩
 .intro s' hd hf;have e:s' 102=.ptr id 0 7:=hd 10 (by decide);have e2:s' 97=vI x.used:=hd 4 (by decide);refine⟨?_,rfl⟩;show bH (pC U id _ _ 1) 1 (s' 102) (s' 97)=some (pC U id _ _ 2);rw[e,e2];simp[bH,eE,bM,V.cells,V.stays,pC,af,bZ]
 .intro s' hv hf;exact h s' ((hf 0 (by kernel_rfl)).trans h0) ((hf 1 (by kernel_rfl)).trans h1) ((hf 5 (by kernel_rfl)).trans h5)
def wH:bh:=(bh.VP true [⟨some 78,.Qo (.t 0),none⟩,⟨some 79,.nilCheck (.t 78),none⟩,⟨some 80,.PN true 0 6 (.t 79),none⟩,⟨some 81,.PN false 5 1 (.t 80),none⟩,⟨some 82,.load false 1 (.t 81),none⟩,⟨some 83,.bin .lss (.t 82) (.c (.int .i64 0)),none⟩,⟨some 84,.Qo (.t 83),none⟩,⟨some 85,.PN false 2 1 (.t 5),some (.t 84,false)⟩,⟨some 86,.load false 1 (.t 85),some (.t 84,false)⟩,⟨some 87,.Qo (.t 0),some (.t 84,false)⟩,⟨some 88,.nilCheck (.t 87),some (.t 84,false)⟩,⟨some 89,.PN false 7 1 (.t 88),some (.t 84,false)⟩,⟨some 90,.load false 1 (.t 89),some (.t 84,false)⟩,⟨some 91,.bin .lss (.t 86) (.t 90),some (.t 84,false)⟩,⟨some 92,.pick (.t 84) (.c (.bool true)) (.t 91),none⟩]).seq (.cond (.t 92) (.kI JI I8) .skip)
def JV{S:Nat->V}{U:ag}{id Ql:Nat}{m:Tk}{x:Rq}{i:Int}{Q:St->Prop}(h0:S 0=.ptr id 0 0)(h1:S 1=vI i)(h5:S 5=.ptr Ql 0 0)(PZ:Ql≠id)
 (hid:U id=some ⟨84,8,[eE m]⟩)(R7:U Ql=some ⟨42,4,[bX x]⟩)
 (h:∀s',Q ⟨s',u' U id ⟨84,8,[eE (sY m i x)]⟩⟩):ad prog 103 [.code wH] ⟨S,U⟩ Q:=by
 have fin:∀s',(m.Sy<0\/x.used<m.least)->Q ⟨s',u' U id ⟨84,8,[eE { m with Sy:=i,least:=x.used }]⟩⟩:=λs' hc=>by
  have:=h s';unfold sY at this;rwa [aE hc]at this
 have hide:=hid;have XE:=R7;unfold eE at hide;unfold bX at XE;refine ad.mix 6 ?_;by_cases hf:m.Sy<0
 .have Ts:(m.Sy<0)=True:=by simp[hf]
  apply sR;simp only[go_sem,seval,wH,h0,h1,h5,hide,XE,Ts,cd];exact MI h0 h1 h5 PZ hid R7 λs' _ _ _=>ad.nil (fin s' (.inl hf))
 .have Ts:(m.Sy<0)=False:=by simp[hf]
  by_cases hg:x.used<m.least
  .have hg':(x.used<m.least)=True:=by simp[hg]
   apply sR;simp only[go_sem,seval,wH,h0,h1,h5,hide,XE,Ts,hg',cd];exact MI h0 h1 h5 PZ hid R7 λs' _ _ _=>ad.nil (fin s' (.inr hg))
  .have hg':(x.used<m.least)=False:=by simp[hg]
   apply sR;simp only[go_sem,seval,wH,h0,h1,h5,hide,XE,Ts,hg',cd];have:=h;unfold sY at this;rw[aF (by rintro(h|h);exact hf h;exact hg h)]at this
   have hu:u' U id ⟨84,8,[eE m]⟩=U:=qt hid;rw[hu]at this;exact this _
def CZ{U J:ag}{id:Nat}{o:Ob}(h:∀j u,j≠id->U j=some u->J j=some u):aa (u' U id o) (u' J id o):=λj u e=>by
 by_cases hj:j=id
 .subst hj;rw[af]at e|-;exact e
 .rw[ab hj]at e|-;exact h j u hj e
def Mq(m:Tk)(i:Int)(x:Rq)(h1:0<=m.Qr/\m.Qr<=1000000000)(h2:0<=m.blank/\m.blank<=1000000000)(id:Nat)(U:ag)(hid:U id=some ⟨84,8,[eE m]⟩):
 aC prog 22 [.ptr id 0 0,vI i,bX x] U λr Z'=>r=.PI []/\Z'=u' U id ⟨84,8,[eE (kB m i x)]⟩:=by
 refine e22.r (by simp[SF]) ?_;refine ad.mix 6 ?_;have SR:=hid;unfold eE at SR;have r1:PM .i64 (m.Qr+1):=ak;apply sR;simp only[go_sem,seval,SF,bX];refine ae λi5 Z5 s5 a5 f5=>?_;have n5:id≠i5:=ao hid f5;have g:=s5 _ _ SR;have fin:∀(S:Nat->V) (J:ag) (h5:J i5=some ⟨42,4,[.agg [vI x.no,vI x.kind,vI x.used,vI x.free]]⟩) (hk:∀j u,j≠id->U j=some u->J j=some u) (t0:S 0=.ptr id 0 0) (t1:S 1=vI i) (t5:S 5=.ptr i5 0 0),
  ad prog 103 [It.code SF.code.rt.rt.rt] ⟨S,u' J id ⟨84,8,[eE (dy m x)]⟩⟩ λst=>au (.PI []) st.U λr Z'=>r=.PI []/\Z'=u' U id ⟨84,8,[eE (kB m i x)]⟩:=by
  intro S J h5 hk t0 t1 t5;have gm:∀o,au (.PI []) (u' J id o) λr Z'=>r=.PI []/\Z'=u' U id o:=λo=>⟨_,u' U id o,CZ hk,Wk.refl (CZ hk) _,rfl,rfl⟩
  have h0:∀m':Tk,u' J id ⟨84,8,[eE m']⟩ id=some ⟨84,8,[.agg [vI m'.Qr,vI m'.blank,vI m'.used,vI m'.free,vI m'.full,vI m'.Sy,vI m'.SL,vI m'.least]]⟩:=λm'=>af;have SM:∀o,u' J id o i5=some ⟨42,4,[.agg [vI x.no,vI x.kind,vI x.used,vI x.free]]⟩:=λo=>(ab n5.symm).trans h5;refine ad.mix 6 ?_;by_cases TN:x.kind=3
  .have q:(x.kind=3)=True:=PK TN;have hb:(dy m x).blank=m.blank:=rfl;have r2:PM .i64 (m.blank+1):=ak;apply sR;simp only[go_sem,seval,SF,bh.rt,t0,t1,t5,h0,SM,hb,r2,q,bZ];have:=gm ⟨84,8,[eE (kB m i x)]⟩;rw[show kB m i x={ dy m x with blank:=m.blank+1 } by unfold kB;rw[aE TN]]at this|-;exact this
  .have q:(x.kind=3)=False:=PG TN;have hpm:kB m i x=sY (u7 (dy m x) i x) i x:=by unfold kB;rw[aF TN]
   rw[hpm];have hmf:(dy m x).full=m.full/\(dy m x).SL=m.SL:=⟨rfl,rfl⟩
   have go:∀(S:Nat->V) (m':Tk),S 0=.ptr id 0 0->S 1=vI i->S 5=.ptr i5 0 0->ad prog 103 [.code wH] ⟨S,u' J id ⟨84,8,[eE m']⟩⟩ λst=>au (.PI []) st.U λr Z'=>r=.PI []/\Z'=u' U id ⟨84,8,[eE (sY m' i x)]⟩:=λS m' q0 q1 q5=>
    JV q0 q1 q5 n5.symm af (by rw[ab n5.symm];exact h5) λs'=>by simp only[bZ];exact gm _
   by_cases hc:m.full<0\/x.used>m.SL
   .have hpb:u7 (dy m x) i x={ dy m x with full:=i,SL:=x.used }:=by unfold u7;rw[hmf.1,hmf.2,aE hc]
    rw[hpb];have go2:∀(S:Nat->V),S 0=.ptr id 0 0->S 1=vI i->S 5=.ptr i5 0 0->ad prog 103 [.code (.kI Jk I8),.code wH] ⟨S,u' J id ⟨84,8,[eE (dy m x)]⟩⟩ λst=>au (.PI []) st.U λr Z'=>r=.PI []/\Z'=u' U id ⟨84,8,[eE (sY { dy m x with full:=i,SL:=x.used } i x)]⟩:=λS q0 q1 q5=>
     OH q0 q1 q5 n5.symm af (by rw[ab n5.symm];exact h5) λs' p0 p1 p5=>by rw[bZ];exact go s' _ p0 p1 p5
    by_cases hf:m.full<0
    .have q1:((dy m x).full<0)=True:=PK hf;apply sR;simp only[go_sem,seval,SF,bh.rt,t0,t1,t5,h0,SM,q,q1,cd];exact go2 _ t0 t1 t5
    .have q1:((dy m x).full<0)=False:=PG hf;have q2:(x.used>(dy m x).SL)=True:=PK (hc.resolve_left hf);apply sR;simp only[go_sem,seval,SF,bh.rt,t0,t1,t5,h0,SM,q,q1,q2,cd];exact go2 _ t0 t1 t5
   .have hpb:u7 (dy m x) i x=dy m x:=by unfold u7;rw[hmf.1,hmf.2,aF hc]
    rw[hpb];have q1:((dy m x).full<0)=False:=PG λh=>hc (.inl h);have q2:(x.used>(dy m x).SL)=False:=PG λh=>hc (.inr h)
    first
     |((refine ad.aY Qw.nothing 18 ?_;simp only[go_sem,seval,cg,SF,bh.rt,t0,t1,t5,h0,SM,q,q1,q2]);exact go _ (dy m x) t0 t1 t5)
     |((refine ad.aY Qw.nothing 19 ?_;simp only[go_sem,seval,cg,SF,bh.rt,t0,t1,t5,h0,SM,q,q1,q2]);exact go _ (dy m x) t0 t1 t5)
     |((refine ad.aY Qw.nothing 20 ?_;simp only[go_sem,seval,cg,SF,bh.rt,t0,t1,t5,h0,SM,q,q1,q2]);exact go _ (dy m x) t0 t1 t5)
     |((refine ad.aY Qw.nothing 21 ?_;simp only[go_sem,seval,cg,SF,bh.rt,t0,t1,t5,h0,SM,q,q1,q2]);exact go _ (dy m x) t0 t1 t5)
     |((refine ad.aY Qw.nothing 22 ?_;simp only[go_sem,seval,cg,SF,bh.rt,t0,t1,t5,h0,SM,q,q1,q2]);exact go _ (dy m x) t0 t1 t5)
     |((refine ad.aY Qw.nothing 23 ?_;simp only[go_sem,seval,cg,SF,bh.rt,t0,t1,t5,h0,SM,q,q1,q2]);exact go _ (dy m x) t0 t1 t5)
     |((refine ad.aY Qw.nothing 24 ?_;simp only[go_sem,seval,cg,SF,bh.rt,t0,t1,t5,h0,SM,q,q1,q2]);exact go _ (dy m x) t0 t1 t5)
     |((refine ad.aY Qw.nothing 25 ?_;simp only[go_sem,seval,cg,SF,bh.rt,t0,t1,t5,h0,SM,q,q1,q2]);exact go _ (dy m x) t0 t1 t5)
     |((refine ad.aY Qw.nothing 26 ?_;simp only[go_sem,seval,cg,SF,bh.rt,t0,t1,t5,h0,SM,q,q1,q2]);exact go _ (dy m x) t0 t1 t5)
     |((refine ad.aY Qw.nothing 27 ?_;simp only[go_sem,seval,cg,SF,bh.rt,t0,t1,t5,h0,SM,q,q1,q2]);exact go _ (dy m x) t0 t1 t5)
     |((refine ad.aY Qw.nothing 28 ?_;simp only[go_sem,seval,cg,SF,bh.rt,t0,t1,t5,h0,SM,q,q1,q2]);exact go _ (dy m x) t0 t1 t5)
     |((refine ad.aY Qw.nothing 29 ?_;simp only[go_sem,seval,cg,SF,bh.rt,t0,t1,t5,h0,SM,q,q1,q2]);exact go _ (dy m x) t0 t1 t5)
     |((refine ad.aY Qw.nothing 30 ?_;simp only[go_sem,seval,cg,SF,bh.rt,t0,t1,t5,h0,SM,q,q1,q2]);exact go _ (dy m x) t0 t1 t5)
     |((refine ad.aY Qw.nothing 31 ?_;simp only[go_sem,seval,cg,SF,bh.rt,t0,t1,t5,h0,SM,q,q1,q2]);exact go _ (dy m x) t0 t1 t5)
     |((refine ad.aY Qw.nothing 32 ?_;simp only[go_sem,seval,cg,SF,bh.rt,t0,t1,t5,h0,SM,q,q1,q2]);exact go _ (dy m x) t0 t1 t5)
     |((refine ad.aY Qw.nothing 33 ?_;simp only[go_sem,seval,cg,SF,bh.rt,t0,t1,t5,h0,SM,q,q1,q2]);exact go _ (dy m x) t0 t1 t5)
     |((refine ad.aY Qw.nothing 34 ?_;simp only[go_sem,seval,cg,SF,bh.rt,t0,t1,t5,h0,SM,q,q1,q2]);exact go _ (dy m x) t0 t1 t5)
     |((refine ad.aY Qw.nothing 35 ?_;simp only[go_sem,seval,cg,SF,bh.rt,t0,t1,t5,h0,SM,q,q1,q2]);exact go _ (dy m x) t0 t1 t5)
     |((refine ad.aY Qw.nothing 36 ?_;simp only[go_sem,seval,cg,SF,bh.rt,t0,t1,t5,h0,SM,q,q1,q2]);exact go _ (dy m x) t0 t1 t5)
     |((refine ad.aY Qw.nothing 37 ?_;simp only[go_sem,seval,cg,SF,bh.rt,t0,t1,t5,h0,SM,q,q1,q2]);exact go _ (dy m x) t0 t1 t5)
     |((refine ad.aY Qw.nothing 38 ?_;simp only[go_sem,seval,cg,SF,bh.rt,t0,t1,t5,h0,SM,q,q1,q2]);exact go _ (dy m x) t0 t1 t5)
     |((refine ad.aY Qw.nothing 39 ?_;simp only[go_sem,seval,cg,SF,bh.rt,t0,t1,t5,h0,SM,q,q1,q2]);exact go _ (dy m x) t0 t1 t5)
     |((refine ad.aY Qw.nothing 40 ?_;simp only[go_sem,seval,cg,SF,bh.rt,t0,t1,t5,h0,SM,q,q1,q2]);exact go _ (dy m x) t0 t1 t5)
     |((refine ad.aY Qw.nothing 41 ?_;simp only[go_sem,seval,cg,SF,bh.rt,t0,t1,t5,h0,SM,q,q1,q2]);exact go _ (dy m x) t0 t1 t5)
     |((refine ad.aY Qw.nothing 42 ?_;simp only[go_sem,seval,cg,SF,bh.rt,t0,t1,t5,h0,SM,q,q1,q2]);exact go _ (dy m x) t0 t1 t5)
     |((refine ad.aY Qw.nothing 43 ?_;simp only[go_sem,seval,cg,SF,bh.rt,t0,t1,t5,h0,SM,q,q1,q2]);exact go _ (dy m x) t0 t1 t5)
     |((refine ad.aY Qw.nothing 44 ?_;simp only[go_sem,seval,cg,SF,bh.rt,t0,t1,t5,h0,SM,q,q1,q2]);exact go _ (dy m x) t0 t1 t5)
     |((refine ad.aY Qw.nothing 45 ?_;simp only[go_sem,seval,cg,SF,bh.rt,t0,t1,t5,h0,SM,q,q1,q2]);exact go _ (dy m x) t0 t1 t5)
 simp only[go_sem,seval,g,r1];simp only[go_sem,seval,ab n5.symm,a5,af,cd];have h0:∀o,u' Z5 id o id=some o:=λo=>af;have h5:u' Z5 id ⟨84,8,[.agg [vI (m.Qr+1),vI m.blank,vI m.used,vI m.free,vI m.full,vI m.Sy,vI m.SL,vI m.least]]⟩ i5=some ⟨42,4,[.agg [vI x.no,vI x.kind,vI x.used,vI x.free]]⟩:=(ab n5.symm).trans a5;have hk:∀j u,j≠id->U j=some u->u' Z5 id ⟨84,8,[.agg [vI (m.Qr+1),vI m.blank,vI m.used,vI m.free,vI m.full,vI m.Sy,vI m.SL,vI m.least]]⟩ j=some u:=λj u h h'=>(ab h).trans (s5 _ _ h');replace h0:=h0 ⟨84,8,[.agg [vI (m.Qr+1),vI m.blank,vI m.used,vI m.free,vI m.full,vI m.Sy,vI m.SL,vI m.least]]⟩;generalize u' Z5 id ⟨84,8,[.agg [vI (m.Qr+1),vI m.blank,vI m.used,vI m.free,vI m.full,vI m.Sy,vI m.SL,vI m.least]]⟩=J at*;have a24:True:=trivial;have XA:True:=trivial;refine ad.Dp (by kernel_rfl) 8 (.fork [[],[],[],[2],[3,2],[4,3,2],[5,4,3,2],[],[7],[6,8,5,4,3,2,7],[9,6,8,5,4,3,2,7],[],[11],[12,11],[13,12,11],[14,13,12,11],[],[16],[15,17,14,13,12,11,16],[18,10,15,17,14,13,12,11,16,9,6,8,5,4,3,2,7],[0,2,3,4,5,6,7,8,9,10,15,19,14,13,12,11,18,17,16],[20,0,2,3,4,5,6,7,8,9,10,15,19,14,13,12,11,18,17,16],[21,0,2,3,4,5,6,7,8,9,10,15,19,20,14,13,12,11,18,17,16],[22,10,19,0,2,3,4,5,6,7,8,9,15,21,20,14,13,12,11,18,17,16],[1,0,2,3,4,5,6,7,8,9,10,11,12,13,14,15,16,17,18,19,20,21,22,23],[24,0,1,2,3,4,5,6,7,8,9,10,11,12,13,14,15,16,17,18,19,20,21,22,23],[25,0,1,2,3,4,5,6,7,8,9,10,11,12,13,14,15,16,17,18,19,20,21,22,23,24],[26,19,23,0,1,2,3,4,5,6,7,8,9,10,11,12,13,14,15,16,17,18,20,21,22,25,24]] [0,1,2,3,4,5,6,7,8,11,12,13,14,15,16,17] [9,18] [(.fork [[],[],[],[2],[3,2],[4,3,2],[5,4,3,2],[],[7],[6,8,5,4,3,2,7],[9,6,8,5,4,3,2,7],[],[11],[12,11],[13,12,11],[14,13,12,11],[],[16],[9,6,8,5,4,3,2,7,15,17,14,13,12,11,16],[9,6,8,5,4,3,2,7,18,10,15,17,14,13,12,11,16],[9,6,8,5,4,3,2,7,0,10,15,19,14,13,12,11,18,17,16],[9,6,8,5,4,3,2,7,20,0,10,15,19,14,13,12,11,18,17,16],[9,6,8,5,4,3,2,7,21,0,10,15,19,20,14,13,12,11,18,17,16],[9,6,8,5,4,3,2,7,22,10,19,0,15,21,20,14,13,12,11,18,17,16],[9,6,8,5,4,3,2,7,1,0,10,11,12,13,14,15,16,17,18,19,20,21,22,23],[9,6,8,5,4,3,2,7,24,0,1,10,11,12,13,14,15,16,17,18,19,20,21,22,23],[9,6,8,5,4,3,2,7,25,0,1,10,11,12,13,14,15,16,17,18,19,20,21,22,23,24],[9,6,8,5,4,3,2,7,26,19,23,0,1,10,11,12,13,14,15,16,17,18,20,21,22,25,24]] [9] [10,18] [(.leaf [[],[],[],[2],[3,2],[4,3,2],[5,4,3,2],[],[7],[6,8,5,4,3,2,7],[9,6,8,5,4,3,2,7],[],[11],[12,11],[13,12,11],[14,13,12,11],[],[16],[10,9,6,8,5,4,3,2,7,15,17,14,13,12,11,16],[10,9,6,8,5,4,3,2,7,18,15,17,14,13,12,11,16],[10,9,6,8,5,4,3,2,7,0,15,19,14,13,12,11,18,17,16],[10,9,6,8,5,4,3,2,7,20,0,15,19,14,13,12,11,18,17,16],[10,9,6,8,5,4,3,2,7,21,0,15,19,20,14,13,12,11,18,17,16],[10,9,6,8,5,4,3,2,7,22,19,0,15,21,20,14,13,12,11,18,17,16],[10,9,6,8,5,4,3,2,7,1,0,11,12,13,14,15,16,17,18,19,20,21,22,23],[10,9,6,8,5,4,3,2,7,24,0,1,11,12,13,14,15,16,17,18,19,20,21,22,23],[10,9,6,8,5,4,3,2,7,25,0,1,11,12,13,14,15,16,17,18,19,20,21,22,23,24],[10,9,6,8,5,4,3,2,7,26,19,23,0,1,11,12,13,14,15,16,17,18,20,21,22,25,24]] [10,18,19,20,21,22,23,24,25,26,27]),(.leaf [[],[],[],[2],[3,2],[4,3,2],[5,4,3,2],[],[7],[6,8,5,4,3,2,7],[18,9,6,8,5,4,3,2,7,15,17,14,13,12,11,16],[],[11],[12,11],[13,12,11],[14,13,12,11],[],[16],[9,6,8,5,4,3,2,7,15,17,14,13,12,11,16],[18,9,6,8,5,4,3,2,7,15,17,14,13,12,11,16,10],[18,9,6,8,5,4,3,2,7,15,17,14,13,12,11,16,0,10,19],[18,9,6,8,5,4,3,2,7,15,17,14,13,12,11,16,20,0,10,19],[18,9,6,8,5,4,3,2,7,15,17,14,13,12,11,16,21,0,10,19,20],[18,9,6,8,5,4,3,2,7,15,17,14,13,12,11,16,22,10,19,0,21,20],[18,9,6,8,5,4,3,2,7,15,17,14,13,12,11,16,1,0,10,19,20,21,22,23],[18,9,6,8,5,4,3,2,7,15,17,14,13,12,11,16,24,0,1,10,19,20,21,22,23],[18,9,6,8,5,4,3,2,7,15,17,14,13,12,11,16,25,0,1,10,19,20,21,22,23,24],[18,9,6,8,5,4,3,2,7,15,17,14,13,12,11,16,26,19,23,0,1,10,20,21,22,25,24]] [18,10,19,20,21,22,23,24,25,26,27])]),(.leaf [[],[],[],[2],[3,2],[4,3,2],[5,4,3,2],[],[7],[18,15,17,14,13,12,11,16,6,8,5,4,3,2,7],[18,15,17,14,13,12,11,16,9,6,8,5,4,3,2,7],[],[11],[12,11],[13,12,11],[14,13,12,11],[],[16],[15,17,14,13,12,11,16],[18,15,17,14,13,12,11,16,10,9,6,8,5,4,3,2,7],[18,15,17,14,13,12,11,16,0,2,3,4,5,6,7,8,9,10,19],[18,15,17,14,13,12,11,16,20,0,2,3,4,5,6,7,8,9,10,19],[18,15,17,14,13,12,11,16,21,0,2,3,4,5,6,7,8,9,10,19,20],[18,15,17,14,13,12,11,16,22,10,19,0,2,3,4,5,6,7,8,9,21,20],[18,15,17,14,13,12,11,16,1,0,2,3,4,5,6,7,8,9,10,19,20,21,22,23],[18,15,17,14,13,12,11,16,24,0,1,2,3,4,5,6,7,8,9,10,19,20,21,22,23],[18,15,17,14,13,12,11,16,25,0,1,2,3,4,5,6,7,8,9,10,19,20,21,22,23,24],[18,15,17,14,13,12,11,16,26,19,23,0,1,2,3,4,5,6,7,8,9,10,20,21,22,25,24]] [18,9,10,19,20,21,22,23,24,25,26,27])]) (by kernel_rfl) ?_;refine GT.nU (its:=[0,2,4,6,8,10,12,14,16,22,24,26,28,30,32,34]) (by kernel_rfl) ?_;refine RE.QS (n:=0) [] [0,2,4,6,8,10,12,14,16,22,24,26,28,30,32,34] [⟨(.some 15),(.Qo (.t 0)),.none⟩,⟨(.some 16),(.Qo (.t 0)),.none⟩,⟨(.some 17),(.Qo (.t 0)),.none⟩,⟨(.some 18),(.nilCheck (.t 17)),.none⟩,⟨(.some 19),(.PN .true 0 6 (.t 18)),.none⟩,⟨(.some 20),(.PN .false 2 1 (.t 19)),.none⟩,⟨(.some 21),(.load .false 1 (.t 20)),.none⟩,⟨(.some 22),(.PN .false 2 1 (.t 5)),.none⟩,⟨(.some 23),(.load .false 1 (.t 22)),.none⟩,⟨(.some 26),(.Qo (.t 0)),.none⟩,⟨(.some 27),(.nilCheck (.t 26)),.none⟩,⟨(.some 28),(.PN .true 0 6 (.t 27)),.none⟩,⟨(.some 29),(.PN .false 3 1 (.t 28)),.none⟩,⟨(.some 30),(.load .false 1 (.t 29)),.none⟩,⟨(.some 31),(.PN .false 3 1 (.t 5)),.none⟩,⟨(.some 32),(.load .false 1 (.t 31)),.none⟩] rfl rfl ?_;apply sG;simp only[go_sem,seval,h0,h5,af,bZ];refine⟨?_,?_⟩
 .refine GT.nU (its:=[18,31,35]) (by kernel_rfl) ?_;refine RE.QS (n:=0) [31,35] [18] [⟨(.some 24),(.ed 3 1 [(.t 21),(.t 23)]),.none⟩] rfl rfl ?_;apply sG;simp only[go_sem,seval,h0,h5,af,bZ];refine bj λi24 Z24 Wf a24 f24=>?_
  try replace XA:=Wf _ _ XA
  replace h0:=Wf _ _ h0;replace h5:=Wf _ _ h5;replace hk:=λj u g1 g2=>Wf _ _ (hk j u g1 g2);simp only[go_sem,seval,h0,h5,af,bZ];refine RE.Rl rfl rfl rfl rfl rfl trivial (by simp only[go_sem,seval,h0,h5,af,bZ]) ?_;refine RE.Rl rfl rfl rfl rfl rfl trivial (by simp only[go_sem,seval,h0,h5,af,bZ]) ?_;refine⟨?_,?_⟩
  .refine GT.ik (its:=[20,31,35,36,38,40,42,44,46,48,50,52,54]) (by kernel_rfl) ?_;refine RE.ay rfl rfl rfl rfl rfl (aP.borrow (args':=[encI [m.used,x.used]]) ⟨Wk.own (cV _) a24 (Z':=fe) rfl (off:=0) (len:=2) (by simp),trivial⟩ (uf _ (by simp)) rfl) ?_;refine RE.Rl rfl rfl rfl rfl rfl trivial (by simp only[go_sem,seval,h0,h5,af,bZ]) ?_;refine RE.Rl rfl rfl rfl rfl rfl trivial (by simp only[go_sem,seval,h0,h5,af,bZ]) ?_;refine RE.QS (n:=0) [38,40,42,44,46,48,50,52,54] [36] [⟨(.some 33),(.ed 3 1 [(.t 30),(.t 32)]),.none⟩] rfl rfl ?_;apply sG;simp only[go_sem,seval,h0,h5,af,bZ];refine bj λi33 Z33 VL XA f33=>?_
   try replace a24:=VL _ _ a24
   replace h0:=VL _ _ h0;replace h5:=VL _ _ h5;replace hk:=λj u g1 g2=>VL _ _ (hk j u g1 g2);simp only[go_sem,seval,h0,h5,af,bZ];refine RE.ay rfl rfl rfl rfl rfl (aP.borrow (args':=[encI [m.free,x.free]]) ⟨Wk.own (cV _) XA (Z':=fe) rfl (off:=0) (len:=2) (by simp),trivial⟩ (uf _ (by simp)) rfl) ?_;refine RE.QS (n:=0) [] [40,42,44,46,48,50,52,54] [⟨(.some 35),(.nilCheck (.t 15)),.none⟩,⟨(.some 36),(.PN .true 0 6 (.t 35)),.none⟩,⟨(.some 37),(.PN .false 2 1 (.t 36)),.none⟩,⟨.none,(.store 1 (.t 37) (.t 25)),.none⟩,⟨(.some 38),(.nilCheck (.t 16)),.none⟩,⟨(.some 39),(.PN .true 0 6 (.t 38)),.none⟩,⟨(.some 40),(.PN .false 3 1 (.t 39)),.none⟩,⟨.none,(.store 1 (.t 40) (.t 34)),.none⟩] rfl rfl ?_;apply sG;simp only[go_sem,seval,h0,h5,af,bZ];exact fin _ _ h5 hk rfl rfl rfl
  .refine GT.ik (its:=[36,20,38,40,42,44,46,48,50,52,54]) (by kernel_rfl) ?_;refine RE.QS (n:=0) [20,38,40,42,44,46,48,50,52,54] [36] [⟨(.some 33),(.ed 3 1 [(.t 30),(.t 32)]),.none⟩] rfl rfl ?_;apply sG;simp only[go_sem,seval,h0,h5,af,bZ];refine bj λi33 Z33 VL XA f33=>?_
   try replace a24:=VL _ _ a24
   replace h0:=VL _ _ h0;replace h5:=VL _ _ h5;replace hk:=λj u g1 g2=>VL _ _ (hk j u g1 g2);simp only[go_sem,seval,h0,h5,af,bZ];refine RE.ay rfl rfl rfl rfl rfl (aP.borrow (args':=[encI [m.used,x.used]]) ⟨Wk.own (cV _) a24 (Z':=fe) rfl (off:=0) (len:=2) (by simp),trivial⟩ (uf _ (by simp)) rfl) ?_;refine RE.ay rfl rfl rfl rfl rfl (aP.borrow (args':=[encI [m.free,x.free]]) ⟨Wk.own (cV _) XA (Z':=fe) rfl (off:=0) (len:=2) (by simp),trivial⟩ (uf _ (by simp)) rfl) ?_;refine RE.QS (n:=0) [] [40,42,44,46,48,50,52,54] [⟨(.some 35),(.nilCheck (.t 15)),.none⟩,⟨(.some 36),(.PN .true 0 6 (.t 35)),.none⟩,⟨(.some 37),(.PN .false 2 1 (.t 36)),.none⟩,⟨.none,(.store 1 (.t 37) (.t 25)),.none⟩,⟨(.some 38),(.nilCheck (.t 16)),.none⟩,⟨(.some 39),(.PN .true 0 6 (.t 38)),.none⟩,⟨(.some 40),(.PN .false 3 1 (.t 39)),.none⟩,⟨.none,(.store 1 (.t 40) (.t 34)),.none⟩] rfl rfl ?_;apply sG;simp only[go_sem,seval,h0,h5,af,bZ];exact fin _ _ h5 hk rfl rfl rfl
 .refine GT.ik (its:=[36,13,17,18,20,38,40,42,44,46,48,50,52,54]) (by kernel_rfl) ?_;refine RE.QS (n:=0) [13,17,18,20,38,40,42,44,46,48,50,52,54] [36] [⟨(.some 33),(.ed 3 1 [(.t 30),(.t 32)]),.none⟩] rfl rfl ?_;apply sG;simp only[go_sem,seval,h0,h5,af,bZ];refine bj λi33 Z33 VL XA f33=>?_
  try replace a24:=VL _ _ a24
  replace h0:=VL _ _ h0;replace h5:=VL _ _ h5;replace hk:=λj u g1 g2=>VL _ _ (hk j u g1 g2);simp only[go_sem,seval,h0,h5,af,bZ];refine RE.Rl rfl rfl rfl rfl rfl trivial (by simp only[go_sem,seval,h0,h5,af,bZ]) ?_;refine RE.Rl rfl rfl rfl rfl rfl trivial (by simp only[go_sem,seval,h0,h5,af,bZ]) ?_;refine RE.QS (n:=0) [20,38,40,42,44,46,48,50,52,54] [18] [⟨(.some 24),(.ed 3 1 [(.t 21),(.t 23)]),.none⟩] rfl rfl ?_;apply sG;simp only[go_sem,seval,h0,h5,af,bZ];refine bj λi24 Z24 Wf a24 f24=>?_
  try replace XA:=Wf _ _ XA
  replace h0:=Wf _ _ h0;replace h5:=Wf _ _ h5;replace hk:=λj u g1 g2=>Wf _ _ (hk j u g1 g2);simp only[go_sem,seval,h0,h5,af,bZ];refine RE.ay rfl rfl rfl rfl rfl (aP.borrow (args':=[encI [m.used,x.used]]) ⟨Wk.own (cV _) a24 (Z':=fe) rfl (off:=0) (len:=2) (by simp),trivial⟩ (uf _ (by simp)) rfl) ?_;refine RE.ay rfl rfl rfl rfl rfl (aP.borrow (args':=[encI [m.free,x.free]]) ⟨Wk.own (cV _) XA (Z':=fe) rfl (off:=0) (len:=2) (by simp),trivial⟩ (uf _ (by simp)) rfl) ?_;refine RE.QS (n:=0) [] [40,42,44,46,48,50,52,54] [⟨(.some 35),(.nilCheck (.t 15)),.none⟩,⟨(.some 36),(.PN .true 0 6 (.t 35)),.none⟩,⟨(.some 37),(.PN .false 2 1 (.t 36)),.none⟩,⟨.none,(.store 1 (.t 37) (.t 25)),.none⟩,⟨(.some 38),(.nilCheck (.t 16)),.none⟩,⟨(.some 39),(.PN .true 0 6 (.t 38)),.none⟩,⟨(.some 40),(.PN .false 3 1 (.t 39)),.none⟩,⟨.none,(.store 1 (.t 40) (.t 34)),.none⟩] rfl rfl ?_;apply sG;simp only[go_sem,seval,h0,h5,af,bZ];exact fin _ _ h5 hk rfl rfl rfl
open Go.Proofs
def bW(l:List Rq):V:=.sl 4 (l.map bX)
def iQ(l:List Rq):dY false (bW l)=some (vI l.length):=by simp[bW,dY]
def px{U:ag}{l:List Rq}{i:Nat}(h:i<l.length):bL U 4 (bW l) (vI i)=some (.rp (bX l[i])):=by
 unfold bW bL;simp[h]
def Iv(U:ag)(x:Rq):bT U true 4 (.rp (bX x))=some (bX x):=rfl
def U4:Tk:=⟨0,0,0,0,-1,-1,0,0⟩
def fW:Nat->Tk->List Rq->Tk
 |_,m,[]=>m
 |i,m,x::l=>fW (i+1) (kB m i x) l
def HZ(m:Tk):V:=.agg [vI m.Qr,vI m.blank,vI m.used,vI m.free,vI m.full,vI m.Sy]
def qf(x:Rq):∀(l:List Rq) (i:Nat) (m:Tk),fW i m (l++[x])=kB (fW i m l) (i+l.length:Nat) x
 |[],i,m=>rfl
 |y::l,i,m=>by
  rw[List.cons_append,fW,qf x l (i+1),fW,Rc,show i+1+l.length=i+(l.length+1) by omega]
def BR(m:Tk)(i:Int)(x:Rq)(k:Nat)(h1:0<=m.Qr/\m.Qr<=k)(h2:0<=m.blank/\m.blank<=k):
 (0<=(kB m i x).Qr/\(kB m i x).Qr<=(k+1:Nat))/\(0<=(kB m i x).blank/\(kB m i x).blank<=(k+1:Nat)):=by
 unfold kB sY u7 dy
 (repeat' split)<;>simp<;>omega
def BO(l:List Rq):(0<=(fW 0 U4 l).Qr/\(fW 0 U4 l).Qr<=l.length)/\(0<=(fW 0 U4 l).blank/\(fW 0 U4 l).blank<=l.length):=by
 have:∀n,∀l:List Rq,l.length=n->(0<=(fW 0 U4 l).Qr/\(fW 0 U4 l).Qr<=l.length)/\(0<=(fW 0 U4 l).blank/\(fW 0 U4 l).blank<=l.length):=by
  intro n
  induction n with
  |zero=>intro l h;rw[MT.1 h];simp[fW,U4]
  |succ n ih=>
   intro l h;have PZ:l≠[]:=λe=>by rw[e]at h;cases h
   have hl:=List.dropLast_concat_getLast PZ;have hd:l.dropLast.length=n:=by simp;omega
   have:=ih _ hd;rw[<-hl,qf];have hb:=BR (fW 0 U4 l.dropLast) (0+l.dropLast.length:Nat) (l.getLast PZ) l.dropLast.length this.1 this.2;simpa using hb
 exact this _ l rfl
def Gz(l:List Rq)(hl:l.length<=1000000):aP prog 8 [bW l] (HZ (fW 0 U4 l)):=λU=>by
 refine e8.r (by simp[c8]) ?_;refine ad.mix 7 ?_;apply sR;simp only[go_sem,seval,c8,iQ];refine ae λRs Z1 s1 a2 f2=>?_;simp only[go_sem,seval];refine ae λWU Z2 s2 a3 f3=>?_;have n23:Rs≠WU:=ao a2 f3;have g2:=s2 _ _ a2;have hs:=s1.trans s2;have z3:U WU=none:=s1.none f3;simp only[go_sem,seval,a3,iQ];refine ad.loop (λm st=>∃i:Nat,i<=l.length/\m=l.length-i/\aa U st.U/\st.U Rs=some ⟨51,6,[.agg [vI 0,vI 0,vI 0,vI 0,vI 0,vI 0]]⟩/\st.U WU=some ⟨84,8,[eE (fW 0 U4 (l.take i))]⟩/\
  st.s 2=.ptr Rs 0 0/\st.s 3=.ptr WU 0 0/\st.s 8=bW l/\st.s 9=vI l.length/\st.s 10=vI i) l.length ?_ ?_
 .exact⟨0,by omega,by omega,hs.az z3,(ab n23).trans g2,af,rfl,rfl,rfl,rfl,rfl⟩
 .rintro m ⟨s',Z'⟩ ⟨i,hi,rfl,B',VA,Yi,h2,h3,h8,h9,To⟩;simp only at B' VA Yi h2 h3 h8 h9 To;refine ad.mix 12 ?_;by_cases C':i<l.length
  .have P':((i:Int)<(l.length:Int))=True:=by simp;omega
   have E':=px (U:=Z') C';have r1:PM .i64 ((i:Int)+1):=ak;have Qn:l.take (i+1)=l.take i++[l[i]]:=by rw[Ax,SQ C'];rfl
   have hsn:fW 0 U4 (l.take (i+1))=kB (fW 0 U4 (l.take i)) i l[i]:=by
    rw[Qn,qf,jt,show 0+min i l.length=i by omega]
   obtain⟨b1,b2⟩:=BO (l.take i);have hlen:(l.take i).length<=1000000:=by simp;omega
   apply sR;simp only[go_sem,seval,h2,h3,h8,h9,To,P',E',Iv];refine ae λQl Z5 s5 a5 f5=>?_;have VF:=ao VA f5;have Xp:=ao Yi f5;simp only[go_sem,seval,a5,bX,h2,h3,h8,h9,To];have hc:=Mq (fW 0 U4 (l.take i)) i l[i] (by omega) (by omega) WU (u' Z5 Ql ⟨42,4,[bX l[i]]⟩) (by rw[ab Xp];exact s5 _ _ Yi);rw[<-h3]at hc;refine ad.call rfl rfl rfl hc ?_;rintro r Z6 ⟨rfl,rfl⟩;apply sR;simp only[go_sem,seval,h2,h3,h8,h9,To,r1];refine⟨_,?_,i+1,by omega,rfl,?_,?_,?_,by simp[h2,h3,h8,h9]⟩
   .omega
   .exact((B'.trans s5).az (B'.none f5)).az z3
   .rw[ab n23,ab VF];exact s5 _ _ VA
   .rw[hsn];all_goals exact af
  .have P':((i:Int)<(l.length:Int))=False:=by simp;omega
   obtain rfl:i=l.length:=by omega
   rw[hU]at Yi;unfold eE at Yi;apply sR;simp only[go_sem,seval,h2,h3,h8,h9,To,P',VA,Yi];exact au.pure (B'.az f2) rfl
def gZ:List Rq->Nat
 |[]=>0
 |x::l=>(if x.kind=3 then 1 else 0)+gZ l
def cS:List Rq->Int
 |[]=>0
 |x::l=>x.used+cS l
def zl:∀l m:List Rq,gZ (l++m)=gZ l+gZ m
 |[],m=>by simp[gZ]
 |x::l,m=>by rw[List.cons_append,gZ,gZ,zl l m];omega
def wa:∀l m:List Rq,cS (l++m)=cS l+cS m
 |[],m=>by simp[cS]
 |x::l,m=>by rw[List.cons_append,cS,cS,wa l m];omega
def CD:∀l:List Rq,gZ l<=l.length
 |[]=>by simp[gZ]
 |x::l=>by have:=CD l;rw[gZ,Rc];split<;>omega
def wB{h:Int}:∀l:List Rq,(∀x∈l,0<=x.used/\x.used<=h)->0<=h->0<=cS l/\cS l<=l.length*h
 |[],_,_=>by simp[cS]
 |x::l,H,h0=>by
  have h1:=H x (by simp);have h2:=wB l (λy hy=>H y (by simp[hy])) h0;rw[cS,Rc,Int.natCast_add,Int.add_mul];omega
def Ms{a b:Int}(ha:0<=a/\a<=1099511627776)(hb:0<=b)(h:a+b<=1099511627776):jw [a,b]=a+b:=by
 simp only[jw,iY,List.foldl_nil];unfold bz;omega
def Bo(m:Tk)(i:Int)(x:Rq):(kB m i x).Qr=m.Qr+1:=by
 unfold kB sY u7 dy
 (repeat' split)<;>rfl
def Bh(m:Tk)(i:Int)(x:Rq):(kB m i x).blank=m.blank+if x.kind=3 then 1 else 0:=by
 unfold kB sY u7 dy
 (repeat' split)<;>simp
def DX(m:Tk)(i:Int)(x:Rq):(kB m i x).used=jw [m.used,x.used]:=by
 unfold kB sY u7 dy
 (repeat' split)<;>rfl
def ux:∀(l:List Rq) (i:Nat) (m:Tk),(fW i m l).Qr=m.Qr+l.length
 |[],i,m=>by simp[fW]
 |x::l,i,m=>by rw[fW,ux l,Bo,Rc];omega
def tJ:∀(l:List Rq) (i:Nat) (m:Tk),(fW i m l).blank=m.blank+gZ l
 |[],i,m=>by simp[fW,gZ]
 |x::l,i,m=>by
  rw[fW,tJ l,Bh,gZ];split<;>omega
def wA:∀(l:List Rq) (i:Nat) (m:Tk),0<=m.used->(∀x∈l,0<=x.used)->m.used+cS l<=1099511627776->(fW i m l).used=m.used+cS l
 |[],i,m,_,_,_=>by simp[fW,cS]
 |x::l,i,m,h0,H,h=>by
  have h1:=H x (by simp);have h2:∀y∈l,0<=y.used:=λy hy=>H y (by simp[hy]);have h3:0<=cS l:=by
   clear h
   induction l with
   |nil=>simp[cS]
   |cons y l ih=>rw[cS];have:=h2 y (by simp);have:=ih (λz hz=>H z (by rcases cD.1 hz with rfl|hz<;>simp[*])) (λz hz=>h2 z (by simp[hz]));omega
  rw[cS]at h|-;have hp:=DX m i x;rw[Ms ⟨h0,by omega⟩ h1 (by omega)]at hp;rw[fW,wA l (i+1) _ (by omega) h2 (by omega),hp];omega
def IG{l:List Rq}(H:∀x∈l,0<=x.used):(fW 0 U4 l).Qr=l.length/\(fW 0 U4 l).blank=gZ l/\(cS l>1099511627776\/(fW 0 U4 l).used=cS l):=by
 refine⟨by rw[ux];show(0:Int)+_=_;omega,by rw[tJ];show(0:Int)+_=_;omega,?_⟩;by_cases h:cS l>1099511627776
 .exact .inl h
 .refine .inr ?_;rw[wA l 0 U4 (Int.le_refl 0) H (by show(0:Int)+_<=_;omega)];show(0:Int)+_=_;omega
def oF(h:Int)(p:Q7):Rq:=⟨p.no,p.kind,jQ p,h-jQ p⟩
def WB(n:Nat)(F:List Qk):List V:=(List.range n).map λk:Nat=>vI (fP (k:Int) F)
def pt(n:Nat)(F:List Qk):(WB n F).length=n:=by simp[WB]
def nA{n:Nat}(F:List Qk){a:Nat}(h:a<n):(WB n F)[a]?=some (vI (fP a F)):=by simp[WB,h]
def Cl{n:Nat}(F:List Qk)(x:Qk){a:Nat}(hx:x.atom=a)(h:a<n):(WB n F).set a (vI (fP a F+x.h))=WB n (F++[x]):=by
 refine List.ext_getElem? λi=>?_;rw[List.getElem?_set];have e:∀k:Nat,fP k (F++[x])=fP k F+if k=a then x.h else 0:=λk=>by
  rw[mM,fP,fP,hx];by_cases hk:k=a
  .rw[aE (by rw[hk]),aE hk];omega
  .rw[aF (λh=>hk (by omega)),aF hk];omega
 by_cases hi:i<n
 .rw[nA _ hi,nA _ hi,pt,e];by_cases hk:a=i
  .subst hk;simp[h]
  .have:i≠a:=λh=>hk h.symm;simp[hk,this]
 .have l1:(WB n F)[i]?=none:=nF (by rw[pt];omega);have l2:(WB n (F++[x]))[i]?=none:=nF (by rw[pt];omega);rw[l1,l2];have:a≠i:=by omega
  simp[this]
end Go.Vc
namespace Go.Proofs
open Go.Shelf
def Tryz.y6:Go.Shelf.Ren:=⟨fun|125=>54|128=>98|129=>99|189=>23|215=>142|216=>95|257=>53|294=>89|295=>90|296=>91|297=>92|298=>93|299=>94|300=>96|301=>97|328=>137|329=>138|330=>139|331=>140|332=>141|343=>187|n=>n,fun|0=>0|3=>3|4=>4|5=>5|9=>9|28=>25|46=>140|51=>204|53=>206|131=>135|182=>196|183=>197|218=>246|222=>250|228=>302|229=>242|n=>n,fun|n=>n⟩
def Tryz.Cj:Go.Proofs.Lays.n189 prog Tryz.y6:={
 mixed:=by kernel_rfl
 f125:=func54.trans (congrArg some (by kernel_rfl))
 f128:=func98.trans (congrArg some (by kernel_rfl))
 f129:=func99.trans (congrArg some (by kernel_rfl))
 f189:=func23.trans (congrArg some (by kernel_rfl))
 f215:=func142.trans (congrArg some (by kernel_rfl))
 f216:=func95.trans (congrArg some (by kernel_rfl))
 f257:=func53.trans (congrArg some (by kernel_rfl))
 f294:=func89.trans (congrArg some (by kernel_rfl))
 f295:=func90.trans (congrArg some (by kernel_rfl))
 f296:=func91.trans (congrArg some (by kernel_rfl))
 f297:=func92.trans (congrArg some (by kernel_rfl))
 f298:=func93.trans (congrArg some (by kernel_rfl))
 f299:=func94.trans (congrArg some (by kernel_rfl))
 f300:=func96.trans (congrArg some (by kernel_rfl))
 f301:=func97.trans (congrArg some (by kernel_rfl))
 f328:=func137.trans (congrArg some (by kernel_rfl))
 f329:=func138.trans (congrArg some (by kernel_rfl))
 f330:=func139.trans (congrArg some (by kernel_rfl))
 f331:=func140.trans (congrArg some (by kernel_rfl))
 f332:=func141.trans (congrArg some (by kernel_rfl))
 f343:=func187.trans (congrArg some (by kernel_rfl))
 t0:=underlying0
 a0:=Tryz.isAgg0
 z0:=Tryz.sizeOf0
 v0:=Tryz.zeroValue0
 t3:=underlying3
 a3:=Tryz.isAgg3
 z3:=Tryz.sizeOf3
 v3:=Tryz.zeroValue3
 t4:=underlying4
 a4:=Tryz.isAgg4
 z4:=Tryz.sizeOf4
 v4:=Tryz.zeroValue4
 t5:=underlying5
 a5:=Tryz.isAgg5
 z5:=Tryz.sizeOf5
 v5:=Tryz.zeroValue5
 t9:=underlying9
 a9:=Tryz.isAgg9
 z9:=Tryz.sizeOf9
 v9:=Tryz.zeroValue9
 t28:=underlying25
 a28:=Tryz.isAgg25
 z28:=Tryz.sizeOf25
 v28:=Tryz.zeroValue25
 t46:=underlying140
 a46:=Tryz.isAgg140
 z46:=Tryz.sizeOf140
 v46:=Tryz.zeroValue140
 t51:=underlying204
 a51:=Tryz.isAgg204
 z51:=Tryz.sizeOf204
 v51:=Tryz.zeroValue204
 t53:=underlying206
 a53:=Tryz.isAgg206
 z53:=Tryz.sizeOf206
 v53:=Tryz.zeroValue206
 t131:=underlying135
 a131:=Tryz.isAgg135
 z131:=Tryz.sizeOf135
 v131:=Tryz.zeroValue135
 t182:=underlying196
 a182:=Tryz.isAgg196
 z182:=Tryz.sizeOf196
 v182:=Tryz.zeroValue196
 t183:=underlying197
 a183:=Tryz.isAgg197
 z183:=Tryz.sizeOf197
 v183:=Tryz.zeroValue197
 t218:=underlying246
 a218:=Tryz.isAgg246
 z218:=Tryz.sizeOf246
 v218:=Tryz.zeroValue246
 t222:=underlying250
 a222:=Tryz.isAgg250
 z222:=Tryz.sizeOf250
 v222:=Tryz.zeroValue250
 t228:=underlying302
 a228:=Tryz.isAgg302
 z228:=Tryz.sizeOf302
 v228:=Tryz.zeroValue302
 t229:=underlying242
 a229:=Tryz.isAgg242
 z229:=Tryz.sizeOf242
 v229:=Tryz.zeroValue242 }
end Go.Proofs
namespace Go.Vc
open Go.Proofs
def aN.chK{K K' U:ag}{e sz:Nat}{v:V}{rows:List V}(h:aN K U e sz v rows)(hk:∀i,K i=none->K' i=none):aN K' U e sz v rows:=by
 rcases h with h|⟨id,h1,h2,h3⟩
 .exact .inl h
 .exact .inr ⟨id,h1,h2,hk _ h3⟩
def HF{K U:ag}{v:V}{ns:List Int}(h:aN K U 3 1 v (ns.map vI))(hn:ns.length<=1000000000)(hs:aa K U):
 aC prog 23 [v] U λr Z'=>r=.PI []/\∃ns':List Int,ns'.length=ns.length/\aN K Z' 3 1 v (ns'.map vI)/\aa K Z':=by
 rcases h with⟨rfl,h⟩|⟨id,rfl,ho,hk⟩
 .refine(EG Tryz.Cj (by kernel_rfl) U).mono ?_;rintro r Z' ⟨rfl,rfl⟩;exact⟨rfl,ns,rfl,.inl ⟨rfl,h⟩,hs⟩
 .rw[cL];refine(DO Tryz.Cj (by kernel_rfl) ho hn).mono ?_;rintro r Z' ⟨rfl,ns',h1,rfl⟩;exact⟨rfl,ns',h1,.inr ⟨id,by rw[cL,h1],af,hk⟩,hs.az hk⟩
def lg(F:List Qk)(k:Int):Option V:=if ew k F=0 then none else some (vI (ew k F))
def yF(k:Int):∀L M:List Qk,ew k (L++M)=ew k L+ew k M
 |[],M=>by simp[ew]
 |x::r,M=>by rw[List.cons_append,ew,ew,yF k r M];omega
def C0(k:Int):∀L:List Qk,ew k L<=L.length
 |[]=>by simp[ew]
 |x::r=>by have:=C0 k r;rw[ew,Rc];split<;>omega
def Em(F:List Qk)(x:Qk):(λm=>if m=x.atom then some (vI ((ew x.atom F:Int)+1))else lg F m)=lg (F++[x]):=by
 funext m;unfold lg;rw[yF,ew,ew];by_cases h:m=x.atom
 .subst h;rw[aE rfl,aE rfl,aF (by omega)];simp
 .have e:(if x.atom=m then 1 else 0)=0:=aF λe=>h e.symm;rw[aF h,e,Nat.add_zero]
def F1(F:List Qk)(m:Int):(lg F m).getD (.int .i64 0)=.int .i64 (ew m F):=by
 unfold lg;split
 .rename_i h;rw[h];rfl
 .rfl
def Ef{F:List Qk}{m:Int}{v:V}(h:lg F m=some v):v=vI (ew m F):=by
 unfold lg at h;split at h
 .cases h
 .exact(Option.some.inj h).symm
def wI:∀{ks L:List Int},ks.Nodup->(∀k∈ks,k∈L)->ks.length<=L.length
 |[],_,_,_=>Nat.zero_le _
 |k::ks,L,hn,h=>by
  obtain⟨h1,h2⟩:=List.nodup_cons.1 hn;have h3:=wI (L:=L.erase k) h2 λx hx=>(List.mem_erase_of_ne (λe=>h1 (by rw[<-e];exact hx))).2 (h x (List.mem_cons_of_mem _ hx));have h4:=List.length_erase_of_mem (h k (by simp));have h5:=List.length_pos_of_mem (h k (by simp));rw[Rc];omega
def Gh{F:List Qk}{ks:List Int}(hn:ks.Nodup)(h:∀m,m∈ks↔(lg F m).isSome=true):ks.length<=F.length:=by
 have hm:∀m∈ks,m∈F.map (·.atom):=λm hm=>by
  have h1:=(h m).1 hm;have h2:ew m F≠0:=λe=>by unfold lg at h1;rw[aE e]at h1;cases h1
  clear h1 hm h hn
  induction F with
  |nil=>simp[ew]at h2
  |cons x r ih=>
   rw[ew]at h2;by_cases e:x.atom=m
   .simp[e]
   .rw[aF e]at h2;exact List.mem_cons_of_mem _ (ih (by omega))
 have:=wI hn hm;simpa using this
def kp(U J:ag)(a b:Nat):ag:=λi=>if i=a\/i=b then J i else U i
def F6{U J:ag}{a b:Nat}(hs:aa U J):aa (kp U J a b) J:=λi o h=>by
 unfold kp at h;split at h
 .exact h
 .exact hs _ _ h
def JW{U J:ag}{a b:Nat}(ha:U a=none)(hb:U b=none):aa U (kp U J a b):=λi o h=>by
 have h1:i≠a:=λe=>by rw[e,ha]at h;cases h
 have h2:i≠b:=λe=>by rw[e,hb]at h;cases h
 unfold kp;rw[aF (by rintro(e|e);exact h1 e;exact h2 e)];exact h
def C3{U J X':ag}{a b:Nat}(ha:J a≠none)(hb:J b≠none):∀i,kp U J a b i=none->kp U X' a b i=none:=λi h=>by
 unfold kp at h|-;by_cases e:i=a\/i=b
 .rw[aE e]at h;rcases e with rfl|rfl
  .exact absurd h ha
  .exact absurd h hb
 .rw[aF e]at h|-;exact h
def jY.kp{c:IntKind}{U J:ag}{it im:Nat}{f:Int->Option V}{ks:List Int}(h:jY c J it im f ks):jY c (kp U J im it) it im f ks:=by
 obtain⟨b,since,c0,clock,seen,es,env,h1,h2,h3⟩:=h;exact⟨b,since,c0,clock,seen,es,env,by unfold Vc.kp;rw[aE (.inr rfl)];exact h1,by unfold Vc.kp;rw[aE (.inl rfl)];exact h2,h3⟩
def jY.two{c:IntKind}{J:ag}{it im:Nat}{f:Int->Option V}{ks:List Int}(h:jY c J it im f ks):J im≠none/\J it≠none:=by
 obtain⟨⟨o,h1,_⟩,o',h2,_⟩:=h.map;exact⟨by rw[h2];simp,by rw[h1];simp⟩
def ER(P:List Q7)(hP:∀p∈P,p.fs.length<=1000000)(hPl:P.length<=1000000)(hF:(aU P).length<=1000000000)(U:ag):
 aC prog 9 [dk P] U λr Z'=>(∃ks:List Int,r=encI ks/\(0<ks.length↔∃k:Int,1<ew k (aU P)))/\Z'=U:=by
 refine e9.r (by simp[c9]) ?_;have hs:=aa.refl U;have Yr:=sU P;have Ru:∀p:Q7,(bw p).cells=[vI p.no,vI p.kind,aO p.hs,aO p.fs,aO p.ls]:=λ_=>rfl;have TD:∀p:Q7,(bw p).stays=true:=λ_=>rfl;have hFc:∀l:List Qk,(aO l).cells=[aO l]:=λ_=>rfl;have hFs:∀l:List Qk,(aO l).stays=true:=λ_=>rfl;have TL:∀f:Qk,(aZ f).cells=[vI f.node,vI f.atom,vI f.fr,vI f.x,vI f.y,vI f.w,vI f.h]:=λ_=>rfl;have Rr:∀f:Qk,(aZ f).stays=true:=λ_=>rfl;have ldP:∀(U:ag) (p:Q7),bT U true 5 (.rp (bw p))=some (bw p):=λ_ _=>rfl;refine ad.mix 11 ?_;apply sR;simp only[go_sem,seval,c9];refine ad.mkMap rfl rfl λim fm=>?_;have zm:=hs.none fm;have U1:iL .i64 (u' U im (gh (.map #[] 0) [])) im (lg []):=⟨#[],0,[],af,⟨rfl,by simp,λm=>rfl,by simp⟩,.nil _⟩
 replace hs:=hs.az (o:=gh (.map #[] 0) []) zm;generalize u' U im (gh (.map #[] 0) [])=J at*;apply sR;simp only[go_sem,seval,Yr];refine ad.eh (λst=>aa U st.U/\iL .i64 st.U im (lg (aU P))/\st.s 3=.mp im)
  (λm st=>∃j:Nat,j<=P.length/\m=P.length-j/\aa U st.U/\iL .i64 st.U im (lg (aU (P.take j)))/\st.s 3=.mp im/\st.s 12=dk P/\st.s 13=vI P.length/\st.s 14=vI j) P.length ?_ ?_ ?_
 .exact⟨0,by omega,rfl,hs,U1,rfl,rfl,rfl,rfl⟩
 .rintro m ⟨S,Y1⟩ ⟨j,hj,rfl,T',hmj,t3,t12,t13,t14⟩;simp only at T' hmj t3 t12 t13 t14;refine ad.mix 22 ?_;by_cases C':j<P.length
  .have q:((j:Int)<P.length)=True:=PK;have E':=λU=>sW (U:=U) C';have r1:PM .i64 ((j:Int)+1):=ak;have Qn:aU (P.take (j+1))=aU (P.take j)++P[j].fs:=by
    unfold aU;rw[SO C',eo,List.flatten_append];simp
   have Su:=hP _ (QF C');have hlF:=yi P[j].fs;have hle:(aU (P.take (j+1))).length<=1000000000:=by
    have:aU P=aU (P.take (j+1))++aU (P.drop (j+1)):=by
     unfold aU;rw[<-List.flatten_append,<-eo,nG]
    rw[this,fB]at hF;omega
   rw[Qn,fB]at hle;rw[show P[j]'C'=P[j]from rfl]at*;generalize hp:P[j]=p at*;generalize hFj:aU (P.take j)=F at*;apply sR;simp only[go_sem,seval,t3,t12,t13,t14,q,E',ldP,Ru,TD,hFc,hFs];refine ae λi5 Z5 s5 a5 f5=>?_;have m5:=hmj.sub s5;have n5:im≠i5:=λe=>by obtain⟨es,ck,env,g1,-⟩:=hmj;rw[<-e,g1]at f5;cases f5
   have k5:=(T'.trans s5)
   have z5:=T'.none f5;simp only[go_sem,seval,a5,t3,t12,t13,t14,ldP,Ru,TD,hFc,hFs,hlF];have m6:iL .i64 (u' Z5 i5 ⟨45,5,[bw p]⟩) im (lg F):=by
    obtain⟨es,ck,env,g1,g2⟩:=m5;exact⟨es,ck,env,(ab n5).trans g1,g2⟩
   have k6:=k5.az (o:=⟨45,5,[bw p]⟩) z5;refine ad.eh (λst=>aa U st.U/\iL .i64 st.U im (lg (F++p.fs))/\st.s 3=.mp im/\st.s 12=dk P/\st.s 13=vI P.length/\st.s 14=vI j)
    (λm st=>∃i:Nat,i<=p.fs.length/\m=p.fs.length-i/\aa U st.U/\iL .i64 st.U im (lg (F++p.fs.take i))/\st.s 3=.mp im/\st.s 12=dk P/\st.s 13=vI P.length/\st.s 14=vI j/\st.s 19=aO p.fs/\st.s 20=vI p.fs.length/\st.s 21=vI i) p.fs.length ?_ ?_ ?_
   .exact⟨0,by omega,rfl,k6,by simpa using m6,t3,t12,t13,t14,rfl,rfl,rfl⟩
   .rintro m ⟨S,Y2⟩ ⟨i,hi,rfl,hsi,YE,u3,u12,U3,Vz,u19,u20,u21⟩;simp only at hsi YE u3 u12 U3 Vz u19 u20 u21;refine ad.mix 22 ?_;by_cases Yb:i<p.fs.length
    .have qi:((i:Int)<p.fs.length)=True:=PK;have Vr:=λU=>sy (U:=U) Yb;have r2:PM .i64 ((i:Int)+1):=ak;have ZC:F++p.fs.take (i+1)=(F++p.fs.take i)++[p.fs[i]]:=by
      rw[SO Yb,gw]
     have QT:(F++p.fs.take i).length<=1000000000:=by simp;omega
     generalize p.fs[i]=x at*;generalize F++p.fs.take i=G at*;have hcx:=C0 x.atom G;have r3:PM .i64 ((ew x.atom G:Int)+1):=ak;apply sR;simp only[go_sem,seval,u3,u12,U3,Vz,u19,u20,u21,qi,Vr,HV,TL,Rr];refine ae λi7 Z7 s7 a7 f7=>?_;have n7:im≠i7:=λe=>by obtain⟨es,ck,env,g1,-⟩:=YE;rw[<-e,g1]at f7;cases f7
     have m7:iL .i64 (u' Z7 i7 ⟨47,7,[aZ x]⟩) im (lg G):=by
      obtain⟨es,ck,env,g1,g2⟩:=YE;exact⟨es,ck,env,(ab n7).trans (s7 _ _ g1),g2⟩
     have k7:=(hsi.trans s7).az (o:=⟨47,7,[aZ x]⟩) (hsi.none f7);simp only[go_sem,seval,a7,u3,u12,U3,Vz,u19,u20,u21,TL,Rr];refine ad.tF (id:=im) (c:=.i64) (m:=x.atom) (f:=lg G) rfl rfl rfl m7 rfl ?_;apply sR;simp only[go_sem,seval,av,ax,F1,r3];refine ad.C7 (id:=im) (c:=.i64) (m:=x.atom) (f:=lg G) (v:=vI ((ew x.atom G:Int)+1)) rfl rfl rfl m7 rfl rfl λob hz m8=>?_;rw[Em]at m8;have k8:=k7.az (o:=ob) zm;apply sR;simp only[go_sem,seval,u3,u12,U3,Vz,u19,u20,u21,r2];exact⟨_,by omega,i+1,by omega,rfl,k8,by rw[ZC];exact m8,rfl⟩
    .have qi:((i:Int)<p.fs.length)=False:=PG;rw[kT (by omega)]at YE;apply sR;simp only[go_sem,seval,u3,u12,U3,Vz,u19,u20,u21,qi];exact⟨hsi,YE⟩
   .rintro⟨S,Y2⟩ ⟨hsi,YE,u3,u12,U3,Vz⟩;simp only at hsi YE u3 u12 U3 Vz;refine ad.mix 22 ?_;apply sR;simp only[go_sem,seval,u3,u12,U3,Vz,r1];refine⟨_,?_,j+1,by omega,rfl,hsi,?_,rfl⟩
    .omega
    .rw[Qn];exact YE
  .have q:((j:Int)<P.length)=False:=PG;rw[kT (by omega)]at hmj;apply sR;simp only[go_sem,seval,t3,t12,t13,t14,q];exact⟨T',hmj⟩
 .rintro⟨S,Y1⟩ ⟨T',hmj,t3⟩;simp only at T' hmj t3;generalize hG:aU P=F at*;refine ad.mix 11 ?_;apply sR;simp only[go_sem,seval,t3];refine ad.E0 rfl rfl rfl hmj λit ob ks fit hoz hr Q8 YI=>?_;have RG:=Gh Q8 YI;have zi:=T'.none fit;replace T':=T'.az (o:=ob) zi;generalize u' Y1 it ob=Y2 at*;apply sR;simp only[go_sem,seval];refine ad.eh (λst=>aa U st.U/\∃out:List Int,aN U st.U 3 1 (st.s 8) (out.map vI)/\out.length<=F.length/\(∀k∈out,1<ew k F)/\∀k,1<ew k F->k∈out)
   (λm st=>∃left out:List Int,m=left.length/\aa U st.U/\jY .i64 st.U it im (lg F) left/\aN (kp U st.U im it) st.U 3 1 (st.s 8) (out.map vI)/\out.length+left.length<=F.length/\(∀k∈out,1<ew k F)/\
     (∀k,1<ew k F->k∈out\/k∈left)/\st.s 33=.gp it) ks.length ?_ ?_ ?_
  .refine⟨ks,[],rfl,T',hr,aN.start,by simpa using RG,by simp,λk hk=>.inr ((YI k).2 ?_),rfl⟩;unfold lg;rw[aF (by omega)];rfl
  .rintro m ⟨S,X3⟩ ⟨left,out,rfl,Ty,Ux,ho,hlen,QH,Qa,t33⟩;simp only at Ty Ux ho t33;generalize hv8:S 8=v8 at ho;refine ad.mix 34 ?_;apply sR;simp only[go_sem,seval,av,ax,t33];refine ad.GR rfl rfl t33 Ux (λmk v ob2 ks' Yx hf hz2 VA ZD C' hent=>?_) (λTz=>?_)
   .obtain rfl:=Ef hf;have k2:=Ty.az (o:=ob2) zi;have ho2:aN (kp U (u' X3 it ob2) im it) (u' X3 it ob2) 3 1 v8 (out.map vI):=by
     obtain⟨g1,g2⟩:=Ux.two;have h1:=ho.chK (K':=kp U (u' X3 it ob2) im it) (C3 g1 g2);rcases h1 with h1|⟨id,e1,e2,e3⟩
     .exact .inl h1
     .refine .inr ⟨id,e1,?_,e3⟩;have:id≠it:=λe=>by
       unfold kp at e3;rw[aE (.inr e),e]at e3;simp[u']at e3
      rw[ab this];exact e2
    generalize u' X3 it ob2=Y4 at*;apply sR;simp only[go_sem,seval,av,ax,t33,hv8];refine ad.EV rfl rfl t33 hent ?_;by_cases hn:1<ew mk F
    .have q:((ew mk F:Int)>1)=True:=PK;have UN:(out.map vI).length=out.length:=cL ..;have Qj:(out++[mk]).map vI=out.map vI++[vI mk]:=by simp
     apply sR;simp only[go_sem,seval,t33,hv8,q];refine ae λi43 Z43 s43 a43 f43=>?_;obtain⟨PU,QV,Qx⟩:=ho2.dst s43;have Qp:(out.length+1)*9<=140737488355328:=by omega
     simp only[go_sem,seval,QV,cW a43,UN,Qp,t33];refine dI λi44 Z44 s44 a44 f44=>?_;have k44:=(Qx _ (aa.refl _) Z43 ((F6 k2).trans s43)).trans s44;have n44:kp U Y4 im it i44=none:=((F6 k2).trans s43).none f44;obtain⟨g1,g2⟩:=VA.two;simp only[go_sem,seval,t33];refine⟨_,?_,ks',out++[mk],rfl,(JW zm zi).trans k44,VA.kp.sub k44,?_,?_,?_,?_⟩
     .omega
     .rw[Qj];exact(aN.new (by simp) a44 n44).chK (C3 g1 g2)
     .rw[fB,List.length_singleton];omega
     .intro k hk;rcases dM.1 hk with hk|hk
      .exact QH k hk
      .rw[iM.1 hk];exact hn
     .intro k hk;rcases Qa k hk with h|h
      .exact .inl (List.mem_append_left _ h)
      .by_cases e:k=mk
       .exact .inl (List.mem_append_right _ (by rw[e];simp))
       .exact .inr ((ZD k).2 ⟨h,e⟩)
    .have q:((ew mk F:Int)>1)=False:=PG;apply sR;simp only[go_sem,seval,t33,hv8,q];refine⟨_,?_,ks',out,rfl,k2,VA,ho2,?_,QH,?_⟩
     .omega
     .omega
     .intro k hk;rcases Qa k hk with h|h
      .exact .inl h
      .exact .inr ((ZD k).2 ⟨h,λe=>hn (e▸hk)⟩)
   .subst Tz;apply sR;simp only[go_sem,seval,t33,hv8];refine⟨Ty,out,?_,by simpa using hlen,QH,λk hk=>?_⟩
    .refine ho.chK λi h=>?_;unfold kp at h;split at h
     .rename_i e;rcases e with rfl|rfl
      .exact zm
      .exact zi
     .exact h
    .rcases Qa k hk with h|h
     .exact h
     .cases h
  .rintro⟨S,X3⟩ ⟨Ty,out,ho,hol,h1,h2⟩;simp only at Ty ho;generalize hv8:S 8=v8 at ho;refine ad.mix 11 ?_;apply sR;simp only[go_sem,seval,hv8];refine ad.call rfl rfl rfl (HF ho (by omega) Ty) ?_;rintro r Z' ⟨rfl,ns,hl,WK,PW⟩;apply sR;simp only[go_sem,seval,hv8];refine⟨encI ns,U,PW,WK.wk (aa.refl _) PW,⟨ns,rfl,?_⟩,rfl⟩;rw[hl];constructor
   .intro h;cases out with
    |nil=>simp at h
    |cons k r=>exact⟨k,h1 k (by simp)⟩
   .rintro⟨k,hk⟩;have:=h2 k hk;exact rK.2 λe=>by rw[e]at this;cases this
open Go.Proofs
def II{l:List Nd}(hl:eY l){w h:Int}(he:jJ l w h=0):aP prog 6 [aM l,vI w] (.PI [jv (gv l w h),vI 0]):=by
 obtain⟨hw,hh,hc⟩:=kU he;obtain⟨RZ,WR,hwo,ZI⟩:=qd hc;have Xt:=lV l hl;rw[hc]at Xt;exact BQ l hl RZ WR (λx hx=>by have:=hwo x hx;omega) (by omega) Xt w hw.1 hw.2
def Dr(b:Bk):(gg b).length<=10000000000:=by
 unfold gg;split
 .simp
 .have h1:(sE (SK b 1000000001 ⟨⟨0,0,true⟩,[]⟩ 0)).length=(SK b 1000000001 ⟨⟨0,0,true⟩,[]⟩ 0).length:=by unfold sE;simp
  have:=se b 1000000001 ⟨⟨0,0,true⟩,[]⟩ 0;omega
open Go.Proofs
def oL{b:Bk}{s:Q6}{to kept shift body:Int}:(eF b.atoms b.PX s to kept shift body).1.length<=b.PX.length:=by
 unfold eF;split
 .have h1:=ni (uk b.atoms s kept) shift body (fX b.PX s to);have h2:(fX b.PX s to).length<=b.PX.length:=nu _ _ _;omega
 .simp
def Ga{b:Bk}(hb:BkOk b){s:RH}(h:iT b s):s.bV.length<=1000000:=by
 have h1:=(sI _ 0 h.1).length_le;rw[Aj]at h1;have:=hb.TH;omega
def EB{b:Bk}(hb:ei b){s:RH}(he:¬fC b s):(bP b s).1.hs.length<=1000000/\(bP b s).1.fs.length<=1000000/\(bP b s).1.ls.length<=2000000:=by
 have Qu:iT b s:=Decidable.byContradiction λh=>he (.inl h);have RF:0<=s.s.atom:=by rcases Qu.2 with h|h;exact h.1.1;omega
 have hg:=kL hb he;have Uc:=Ga hb.toBkOk Qu;have Su:=hb.TH;have R8:=hb.len;have UA:=sk hb.toBkFull s.s;have YL:=iu hb.toBkFull s.s RF;have hpf:∀f∈s.bV,0<=f.h:=λf hf=>hb.fh f (mY _ _ Qu.1 f hf);have htl:=(so (body:=(bG b s.s).body) s.bV 0 (Int.le_refl _) (by omega) hpf).1;refine⟨?_,?_,?_⟩
 .have h1:((TI b.nodes b.w (bG b s.s).P6).1).length<=1000000:=by rw[B7];exact UA.len
  unfold bP;split
  .exact h1
  .split
   .exact h1
   .show(eD b (dr b s)).hs.length<=_;rw[(kf b (dr b s)).1];exact h1
 .rcases hg.kd with k|k
  .obtain⟨hm,h1,-,hc⟩:=hg.cut k;have ha:=hm.1;cases hc with
   |more q1 q2 q3 q4 q5=>omega
   |whole c r y q1 q2 q3 q4 q5 q6 q7 q8 q9=>omega
  .rw[hg.no' k];simp
 .have h0:(dr b s).ls.length<=1000000:=by
   show([]++(eg (bG b s.s).body s.bV 0).1.map (pn (bG b s.s).high)).length<=_;rw[jU,cL];omega
  unfold bP;split
  .show([]++(b.PX.takeWhile (nY _)).map (pn _)).length<=_;rw[jU,cL];have:=(List.takeWhile_sublist (l:=b.PX) (nY (cb b s.s .aL).body)).length_le;omega
  .split
   .exact iq h0 (by omega)
   .show(eD b (dr b s)).ls.length<=_;unfold eD;split
    .show((dr b s).ls++((eF b.atoms b.PX _ _ _ _ _).1).map _).length<=_;rw[fB,cL];have:=oL (b:=b) (s:=({ dr b s with kind:=1 }:Wx).s) (to:=((ye b (dr b s)).toNat:Int)) (kept:=ec b (dr b s)) (shift:=({ dr b s with kind:=1 }:Wx).shift) (body:=({ dr b s with kind:=1 }:Wx).body);exact iq (Nat.add_le_add h0 (iq oL Su)) (by omega)
    .show((dr b s).ls++((eF b.atoms b.PX _ _ _ _ _).1).map _).length<=_;rw[fB,cL];exact iq (Nat.add_le_add h0 (iq oL Su)) (by omega)
open Go.Proofs
def FW(l:List Nd)(hl:eY l)(w:Int):∃g e,aP prog 6 [aM l,vI w] (.PI [qU g,vI e]):=by
 by_cases hw:xM w
 .by_cases hc:fj l=0
  .obtain⟨RZ,WR,hwo,ZI⟩:=qd hc;have Xt:=lV l hl;rw[hc]at Xt;exact⟨cZ l w,0,BQ l hl RZ WR (λx hx=>by have:=hwo x hx;omega) (by omega) Xt w hw.1 hw.2⟩
  .refine⟨⟨[],[],0⟩,fj l,λU=>?_⟩;refine e6.r (by simp[c6]) ?_;have hs:=aa.refl U;refine ad.mix 8 ?_;apply sR;simp only[go_sem,seval,c6];refine ae λi4 Z4 s4 a4 f4=>?_;have z4:=hs.none f4;replace hs:=hs.trans s4;have Qu:=mF w;rw[show decide (1<=w/\w<=1099511627776)=true from SP hw]at Qu;simp only[go_sem,seval];refine ad.ay rfl rfl rfl (Qu _) ?_;apply sR;simp only[go_sem,seval];refine ad.ay rfl rfl rfl (lV l hl _) ?_;have q:(fj l≠0)=True:=PK hc;apply sR;simp only[go_sem,seval,q,a4];exact⟨_,U,hs.az z4,Wk.PI (vs':=[qU ⟨[],[],0⟩,vI (fj l)]) ⟨Wk.agg (vs':=[bC [],aJ [],vI 0]) ⟨Wk.aL 8,Wk.aL 7,Wk.refl (hs.az z4) _,trivial⟩,Wk.refl (hs.az z4) _,trivial⟩,rfl,rfl⟩
 .refine⟨⟨[],[],0⟩,4,λU=>?_⟩;refine e6.r (by simp[c6]) ?_;have hs:=aa.refl U;refine ad.mix 8 ?_;apply sR;simp only[go_sem,seval,c6];refine ae λi4 Z4 s4 a4 f4=>?_;have z4:=hs.none f4;replace hs:=hs.trans s4;have Qu:=mF w;rw[show decide (1<=w/\w<=1099511627776)=false from Sz hw]at Qu;simp only[go_sem,seval];refine ad.ay rfl rfl rfl (Qu _) ?_;apply sR;simp only[go_sem,seval,a4];exact⟨_,U,hs.az z4,Wk.PI (vs':=[qU ⟨[],[],0⟩,vI 4]) ⟨Wk.agg (vs':=[bC [],aJ [],vI 0]) ⟨Wk.aL 8,Wk.aL 7,Wk.refl (hs.az z4) _,trivial⟩,Wk.refl (hs.az z4) _,trivial⟩,rfl,rfl⟩
def Gf(p:Q7):Prop:=p.hs.length<=1000000/\p.fs.length<=1000000/\p.ls.length<=2000000
def yp{b:Bk}(hb:ei b):∀(f:Nat) (s:RH) (no:Int) (p:Q7),some p∈SK b f s no->Gf p
 |0,_,_,p,h=>by cases h
 |f+1,s,no,p,h=>by
  rw[SK]at h;by_cases he:fC b s
  .rw[aE he]at h;cases h
  .rw[aF he]at h;have hl:=EB hb he;split at h
   .rcases cD.1 h with h|h
    .cases h
    .rcases cD.1 h with h|h
     .cases h;exact hl
     .exact yp hb f _ _ p h
   .rcases cD.1 h with h|h
    .cases h;exact hl
    .exact yp hb f _ _ p h
def BT{b:Bk}(hb:ei b){p:Q7}(h:p∈gg b):Gf p:=by
 unfold gg at h;split at h
 .rw[iM.1 h];exact⟨by simp,by simp,by simp⟩
 .unfold sE at h;obtain⟨k,hk,rfl⟩:=eI.1 h;cases hx:(SK b 1000000001 ⟨⟨0,0,true⟩,[]⟩ 0).getD k none with
  |none=>exact⟨by simp[pgN],by simp[pgN],by simp[pgN]⟩
  |some q=>
   refine yp hb 1000000001 ⟨⟨0,0,true⟩,[]⟩ 0 q ?_;rw[tQ]at hx;cases hy:(SK b 1000000001 ⟨⟨0,0,true⟩,[]⟩ 0)[k]? with
   |none=>rw[hy]at hx;cases hx
   |some y=>
    rw[hy]at hx;have:y=some q:=hx;rw[<-this];exact oe hy
open Go.Proofs
section
variable {P:Program} {n:Nat} {st:St} {Q:St->Prop} {k:List It}
def Fs{o:Op}{x y:VX}(h:PO P n o=.bin .add x y):∃t x0 y0 yt,o=.binOp .add t x0 y0 yt/\cx n x0=x/\cx n y0=y:=by
 cases o
 case binOp op' t x0 y0 yt=>
  simp only[PO,bE]at h
  repeat' split at h
  all_goals first
   |(simp only[Qc.bin.injEq]at h;obtain⟨rfl,h2,h3⟩:=h;exact⟨t,x0,y0,yt,rfl,h2,h3⟩)
   |cases h
   |(cases op'<;>cases h)
 case call c=>
  obtain⟨callee,args,argTypes⟩:=c;cases callee
  case builtin b=>cases b<;>simp only[PO]at h<;>(repeat' split at h)<;>cases h
  all_goals (simp only[PO]at h;cases h)
 case unOp op t x=>cases op<;>simp only[PO]at h<;>cases h
 case makeFunc f a b=>cases f<;>simp only[PO]at h<;>(repeat' split at h)<;>cases h
 all_goals (simp only[PO]at h;(repeat' split at h)<;>cases h)
def ad.NY{i:aG}{l:List aG}{x y:VX}{kk:IntKind}{a b:Int}(hw:bl st.s i.g=some true)(ho:i.op=.bin .add x y)(hx:x.ev st.s=.int kk a)(hy:y.ev st.s=.int kk b)
 (h:ad P n (.ops l::k) ⟨aW st.s i.dst (.int kk (kk.wrap (a+b))),st.U⟩ Q):ad P n (.ops (i::l)::k) st Q:=by
 refine ad.ins (by rw[ho];simp) hw λF hn I act w o all hi hs next Q' M'=>?_
 subst hn;obtain⟨PL,hd⟩:=cC hi;rw[ho]at PL;obtain⟨t,x0,y0,yt,g1,rfl,rfl⟩:=Fs PL;have ex:act.eval x0=.int kk a:=by
  have:=bK hs x0;rw[hx]at this;simpa[A']using this
 have ey:act.eval y0=.int kk b:=by
  have:=bK hs y0;rw[hy]at this;simpa[A']using this
 have PY:(execOp act.eval o).run P w=.ok (.value (.int kk (kk.wrap (a+b)))) w:=by
  unfold execOp;rw[g1];simp[ex,ey,eqGuard,binOp,Op.intArith]
 unfold Oper.wp;rw[PY];refine M' _ _ _ ⟨I,?_⟩ h;have:=hs.pure (d:=o.dst) (v:=.int kk (kk.wrap (a+b))) (x:=.int kk (kk.wrap (a+b))) (by simp[A']);rw[<-hd];exact this
end
def xi{H:Int}(hH:H<=1099511627776):∀(L:List Qk) (u:Int),Ve 0 H L->L.foldl (λm g=>Fl m (jw [g.y,g.h])) u=rh u L
 |[],_,_=>rfl
 |x::r,u,h=>by
  obtain⟨a1,a2,a3⟩:=h x (by simp);rw[iY,xi hH r _ (λy hy=>h y (List.mem_cons_of_mem _ hy)),rh,Ms ⟨a1,by omega⟩ a2 (by omega)];congr 1;unfold Fl;split<;>omega
def Hd{H:Int}(h0:0<=H)(hH:H<=1099511627776){p:Q7}(hp:DN H p):xR p H=oF H p:=by
 obtain⟨h1,-,h2,h3,h4⟩:=hp;have hu:rM (Xc p 3)=jQ p:=by
  show List.foldl _ 0 ((([]++p.hs)++p.fs)++p.ls)=_;rw[jU,ov,ov,xi hH _ _ h2,xi hH _ _ h3,xi hH _ _ h4];rfl
 unfold xR oF;rw[hu,show bz H=H by unfold bz;omega,show bz (jQ p)=jQ p by unfold bz;omega,show bz (H-jQ p)=H-jQ p by unfold bz;omega]
def zO(f:Rq):(bX f).cells=[vI f.no,vI f.kind,vI f.used,vI f.free]:=rfl
def yH(f:Rq):(bX f).stays=true:=rfl
def LK(P:List Q7)(h:Int)(h0:0<=h)(hh:h<=1099511627776)(hP:∀p∈P,DN h p/\p.hs.length<=2000000/\p.fs.length<=2000000/\p.ls.length<=2000000)(hl:P.length<=1000000):
 aP prog 7 [dk P,vI h] (bW (P.map (oF h))):=λU=>by
 refine e7.r (by simp[c7]) ?_;have hs:=aa.refl U;have Yr:=sU P;have Ru:∀p:Q7,(bw p).cells=[vI p.no,vI p.kind,aO p.hs,aO p.fs,aO p.ls]:=λ_=>rfl;have TD:∀p:Q7,(bw p).stays=true:=λ_=>rfl;have ldP:∀(U:ag) (p:Q7),bT U true 5 (.rp (bw p))=some (bw p):=λ_ _=>rfl;refine ad.mix 9 ?_;apply sR;simp only[go_sem,seval,c7,Yr];refine ad.eh (λst=>aa U st.U/\aN U st.U 42 4 (st.s 5) ((P.map (oF h)).map bX))
  (λm st=>∃j:Nat,j<=P.length/\m=P.length-j/\aa U st.U/\aN U st.U 42 4 (st.s 5) (((P.take j).map (oF h)).map bX)/\st.s 1=vI h/\st.s 8=dk P/\st.s 9=vI P.length/\st.s 10=vI j) P.length ?_ ?_ ?_
 .exact⟨0,by omega,rfl,hs,aN.start,rfl,rfl,rfl,rfl⟩
 .rintro m ⟨S,J⟩ ⟨j,hj,rfl,T',ho,t1,t8,t9,t10⟩;simp only at T' ho t1 t8 t9 t10;generalize hv5:S 5=v5 at ho;refine ad.mix 11 ?_;by_cases C':j<P.length
  .have q:((j:Int)<P.length)=True:=PK;have E':=λU=>sW (U:=U) C';have r1:PM .i64 ((j:Int)+1):=ak;have Qn:((P.take (j+1)).map (oF h)).map bX=((P.take j).map (oF h)).map bX++[bX (oF h P[j])]:=by
    rw[SO C',eo,eo];rfl
   obtain⟨hf,ZP,hl2,hl3⟩:=hP _ (QF C');have hpg:=B8 P[j] h (λi=>by match i with|0=>exact ZP|1=>exact hl2|2=>exact hl3|i+3=>simp[Ya])
   rw[Hd h0 hh hf]at hpg;have RC:V.agg [vI P[j].no,vI P[j].kind,aO P[j].hs,aO P[j].fs,aO P[j].ls]=bw P[j]:=rfl;have Tu:(((P.take j).map (oF h)).map bX).length=j:=by simp;omega
   generalize ((P.take j).map (oF h)).map bX=rows at*;generalize oF h P[j]=x at*;generalize P[j]=p at*;have Qp:(rows.length+1)*33<=140737488355328:=by omega
   apply sR;simp only[go_sem,seval,t1,hv5,t8,t9,t10,q,E',ldP,Ru,TD];refine ae λi7 Z7 s7 a7 f7=>?_;have k7:=T'.trans s7;have z7:=T'.none f7;simp only[go_sem,seval,a7,Ru,TD,RC,t1,hv5,t8,t9,t10];refine ad.ay rfl rfl rfl (hpg _) ?_;apply sR;simp only[go_sem,seval,zO,yH,t1,hv5,t8,t9,t10];refine ae λi18 Z18 s18 XQ f18=>?_;obtain⟨PU,QV,Qx⟩:=ho.dst ((s7.az (o:=⟨45,5,[bw p]⟩) f7).trans s18);simp only[go_sem,seval,QV,cW XQ,Qp,t1,t8,t9,t10];refine dI λi19 Z19 XC TB f19=>?_;have k18:=(k7.az (o:=⟨45,5,[bw p]⟩) z7).trans s18;have k19:=(Qx U (aa.refl _) Z18 k18).trans XC;simp only[go_sem,seval,t1,t8,t9,t10,r1];refine⟨_,?_,j+1,by omega,rfl,k19,?_,rfl⟩
   .omega
   .rw[Qn];exact aN.new (by simp) TB (k18.none f19)
  .have q:((j:Int)<P.length)=False:=PG;rw[kT (by omega)]at ho;apply sR;simp only[go_sem,seval,t1,hv5,t8,t9,t10,q];exact⟨T',ho⟩
 .rintro⟨S,J⟩ ⟨T',ho⟩;simp only at T' ho;generalize hv5:S 5=v5 at ho;refine ad.mix 9 ?_;apply sR;simp only[go_sem,seval,hv5];exact ho.zn T' rfl
end Go.Vc

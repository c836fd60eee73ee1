/- Part 10 of the library of this proof. -/
import Derived.Test.YtjladbkbleghlaaGreatW9
set_option linter.all false
set_option maxHeartbeats 8000000
set_option maxRecDepth 100000
namespace Go.Vc
open Go.RowKit
variable {P:Program} {n:Nat} {st:St} {Q:St->Prop} {k:List It} {I:Mu} {w:World}
def Hq{κ:Type}[DecidableEq κ]{kv:κ->Value}{kV:κ->V}{i:aK}{xm xk xv:VX}{kt:TypeId}(ho:i.op=.more (.XM kt) [xm,xk,xv]){id:Nat}{g:κ->Option V}{a:κ}{v:V}
 (hK:zn P kt kv kV)(hm:xm.ev st.s=.mp id)(TE:nU kv st.U id g)(hk:xk.ev st.s=kV a)(hv:xv.ev st.s=v){K:St->Prop}
 (h:∀ob:Ob,ob.sz=0->nU kv (C' st.U id ob) id (λb=>if a=b then some v else g b)->K ⟨aZ st.s i.dst (.PN []),C' st.U id ob⟩):
 ∀(F:Fr),F.n=n->∀(I:Mu) (a:Act) (w:World) (o:Oper) (all:Array Oper),bT P n all o=i->dh F I st a w->
  ∀(next:Act->World->Prop) (Q':Exit->Act->World->Prop),(∀Sh a' w',eG F Sh a' w'->K Sh->next a' w')->o.wp P a w next Q':=by
 intro F hn I ac w o all hi hs next Q' PL
 obtain⟨YT,Uf,YU,Rc⟩:=hK;replace Rc:=Rc a;replace YU:∀b,(b=a\/g b≠none)->∃l,keyOf P kt (kv b)=some l:=λb _=>YU b;subst hn;obtain⟨PV,hd⟩:=dP hi;rw[ho]at PV;obtain⟨t,e,x,y,z,g1,g2,g4⟩:=GJ PV;simp only[List.cons.injEq,and_true]at g4;obtain⟨rfl,rfl,rfl⟩:=g4;have u1:=uH g2;obtain⟨es,clock,ks,env,Qj,he,hlen,Rh,Rp⟩:=TE;have hr:=cz hs x;have WG:=cz hs y;have hrv:=cz hs z;rw[hm]at hr;rw[hk]at WG;rw[hv]at hrv;have WG:=Rc _ _ _ _ WG;simp only[E']at hr;have hks:∀b∈ks,∃l,keyOf P kt (kv b)=some l:=λb hb=>by
  obtain⟨j,hj⟩:=GO hb;refine YU b (.inr ?_);rw[<-Rp b,nG Rh hj hlen];have:j<env.length:=by rw[<-hlen];exact(nY.1 hj).1
  rw[Tq this];simp
 obtain⟨la,RN⟩:=YU a (.inl rfl);split at hr
 .rename_i b cap M';obtain⟨Q5,UC⟩:=hs.sat.Hg Qj M';simp only[tmpsOf]at UC;have Qm:∀(o':Obj) (V':List V),(∃es' VN ks',o'=.map es' VN/\es'.toList.map (·.key)=ks'.map kv/\ks'.length=V'.length/\ks'.Nodup/\∀b,assoc b ks' V'=if a=b then some v else g b)->ax I (aI I st.U) w V' (tmpsOf o')->
   (Instr.mapUpdate t (ac.eval x) (ac.eval y) (ac.eval z)).run P w=.ok () (w.putObj b o')->o.wp P ac w next Q':=by
   intro o' V' hmap' hrep' Qq;have hx:(execOp ac.eval o).run P w=.ok .skip (w.putObj b o'):=by
    unfold execOp;rcases g1 with g1|g1<;>(rw[g1];simp[Qq])
   have UF:=hs.sat.No Qj M' o' V' hrep';obtain⟨es',VN,ks',rfl,p1,p2,p3,p4⟩:=hmap';unfold Oper.wp;rw[hx];refine PL _ _ _ ⟨I,?_⟩ (h (gh (.map es' VN) V') rfl ⟨es',VN,ks',V',af,p1,p2,p3,p4⟩);rw[<-hd];exact hs.step UF.1 (dd.refl _) UF.2 (by simp) (by simp only[E'];exact⟨[],rfl,by simp[ax]⟩)
  rcases AT YT Uf he hks ⟨la,RN⟩ w with⟨q1,q2⟩|⟨j,en,q1,q2,q3,q4⟩
  .refine Qm (.map (es.push { key:=kv a,val:=ac.eval z,born:=clock }) (clock+1)) (env++[v]) ⟨_,_,ks++[a],rfl,?_,?_,?_,λb=>?_⟩ ?_ ?_
   .rw[Array.toList_push,fC,fC,he];rfl
   .rw[gY,gY,hlen];rfl
   .rw[List.nodup_append];exact⟨Rh,by simp,λx hx y hy e=>q2 (by rw[iW.1 hy]at e;exact e▸hx)⟩
   .rw[tD q2 hlen,Rp]
   .simp only[tmpsOf,Array.toList_push,fC,eD,List.map_nil];exact UC.append (by simp only[ax];exact⟨_,_,rfl,hrv,rfl⟩)
   .simp[Instr.mapUpdate,run_underlying u1,hr,WG,pX Q5,Uf.check w _ RN,q1,zx _ Q5]
  .have hl:(es.modify j λe=>{ e with key:=kv a,val:=ac.eval z }).toList=es.toList.set j { en with key:=kv a,val:=ac.eval z }:=by
    rw[Array.toList_modify,tM _ _ _ q2]
   refine Qm (.map (es.modify j λe=>{ e with key:=kv a,val:=ac.eval z }) clock) (env.set j v) ⟨_,_,ks,rfl,?_,?_,Rh,λb=>?_⟩ ?_ ?_
   .rw[hl,List.map_set,he];refine List.ext_getElem? λm=>?_;rw[List.getElem?_set];split
    .rename_i e;subst e;split
     .rw[ph,q4];rfl
     .rename_i Qr;rw[rC (by omega)]
    .rfl
   .rw[List.length_set,hlen]
   .rw[wJ Rh q4 hlen,Rp]
   .simp only[tmpsOf,hl,List.map_set];exact ax.set j UC hrv
   .have hkey:((es[j]?).map (·.key)).getD (kv a)=kv a:=by
     rw[<-Array.getElem?_toList,q2];simp[q3]
    simp[Instr.mapUpdate,run_underlying u1,hr,WG,pX Q5,Uf.check w _ RN,q1,zx _ Q5,hkey,Uf.stays w RN]
 .exact hr.elim
def XC.ta{κ:Type}[DecidableEq κ]{kv:κ->Value}{kV:κ->V}{m:Nat}{x:St}{K:St->Prop}{sp:List Nat}{i:aK}{l:List aK}{xm xk xv:VX}{kt:TypeId}(Ue:m∈sp)(hw:bB x.s i.g=some true)(ho:i.op=.more (.XM kt) [xm,xk,xv]){id:Nat}{g:κ->Option V}{a:κ}{v:V}
 (hK:zn P kt kv kV)(hm:xm.ev x.s=.mp id)(TE:nU kv x.U id g)(hk:xk.ev x.s=kV a)(hv:xv.ev x.s=v)
 (h:∀ob:Ob,ob.sz=0->nU kv (C' x.U id ob) id (λb=>if a=b then some v else g b)->j5 P n sp K (m+1) l ⟨aZ x.s i.dst (.PN []),C' x.U id ob⟩):j5 P n sp K m (i::l) x:=
 .inr ⟨Ue,by rw[ho];simp,hw,Hq ho hK hm TE hk hv h⟩
def RE.look{l:List aK}{K:St->Prop}{m:Nat}{rest:List Nat}{x:St}{i:aK}(hi:l[m/2]?=some i)(hm:m%2=0){xm xk:VX}{kt:TypeId}{ok:Bool}{zv v:V}(hw:bB x.s i.g=some true)(ho:i.op=.more (.U8 kt ok zv) [xm,xk])
 (hl:I6 P kt ok zv (xm.ev x.s) (xk.ev x.s) x.U v)(h:RE P l K rest ⟨aZ x.s i.dst v,x.U⟩):RE P l K (m::rest) x:=by
 rw[RE,hi];simp only[aE hm];exact .inr ⟨hw,by rw[ho];exact⟨v,hl,h⟩⟩
def RE.mkMap{l:List aK}{K:St->Prop}{m:Nat}{rest:List Nat}{x:St}{i:aK}(hi:l[m/2]?=some i)(hm:m%2=0)(hw:bB x.s i.g=some true)(ho:i.op=.more .mkMap [])
 (h:∀id,x.U id=none->RE P l K rest ⟨aZ x.s i.dst (.mp id),C' x.U id (gh (.map #[] 0) [])⟩):RE P l K (m::rest) x:=by
 rw[RE,hi];simp only[aE hm];exact .inr ⟨hw,by rw[ho];exact h⟩
open Go.Proofs Go.Proofs.Tryz
def okK(s:PH):Prop:=(Lit.int .i64 s.atom).wf=true/\(Lit.int .i64 s.done).wf=true
abbrev Ks:={ s:PH // okK s }
def Xm(s:Ks):Value:=.agg #[.int .i64 s.1.atom,.int .i64 s.1.done,.bool s.1.free]
def Ke{s:PH}(h1:0<=s.atom)(h2:s.atom<=4000000000000000000)(h3:0<=s.done)(h4:s.done<=4000000000000000000):okK s:=by
 have e1:IntKind.i64.min=-9223372036854775808:=by decide
 have e2:IntKind.i64.max=9223372036854775807:=by decide
 unfold okK Lit.wf;simp only[Ba,Sp,e1,e2];omega
def HA(a b:Ks)(h:Xm a=Xm b):a=b:=by
 obtain⟨⟨a1,a2,a3⟩,ha⟩:=a;obtain⟨⟨b1,b2,b3⟩,hb⟩:=b;simp only[Xm,Value.agg.injEq,Array.mk.injEq,List.cons.injEq,Value.int.injEq,Value.bool.injEq,true_and,and_true]at h;obtain⟨rfl,rfl,rfl⟩:=h;rfl
def Gf:laidOutB prog=true:=by kernel_rfl
def CO:37<prog.types.size:=of_decide_eq_true (by kernel_rfl)
def JK:prog.keyTypeAt 3 37=true:=by kernel_rfl
def HJ:WideMaps.KeyLaw prog 37:=deep_law_laid Gf (m:=3) (by omega) CO JK (by rw[underlying37])
def Ml:prog.keyType 37=true:=by kernel_rfl
def JG:prog.cellsOf 37=3:=by kernel_rfl
def KT:prog.cellsOf 3=1:=by kernel_rfl
def J5:prog.cellsOf 4=1:=by kernel_rfl
def kvS_und:prog.underlying 3=some (.int .i64):=by kernel_rfl
def kvS_unb:prog.underlying 4=some .bool:=by kernel_rfl
def Fw{b1 b2:Int}{b3:Bool}(h1:(Lit.int .i64 b1).wf=true)(h2:(Lit.int .i64 b2).wf=true):
 prog.keyLits (prog.types.size+1) 37 [.int .i64 b1,.int .i64 b2,.bool b3]=some [.int .i64 b1,.int .i64 b2,.bool b3]:=by
 have hr:=CO;generalize prog.types.size=n at*;obtain⟨d,rfl⟩:∃d,n=d+1:=⟨n-1,by omega⟩
 simp[Program.keyLits,underlying37,kvS_und,kvS_unb,JG,KT,J5,h1,h2]
def HS(b:Ks):∃l,keyOf prog 37 (Xm b)=some l:=by
 obtain⟨⟨b1,b2,b3⟩,h1,h2⟩:=b;have hf:(Xm ⟨⟨b1,b2,b3⟩,h1,h2⟩).formed prog 37=true:=by kernel_rfl
 unfold keyOf;rw[underlying37];simp only[Ml,hf,Bool.and_self,if_true];have hc:(Xm ⟨⟨b1,b2,b3⟩,h1,h2⟩).cells.toList=[.int .i64 b1,.int .i64 b2,.bool b3]:=rfl;rw[hc,Fw h1 h2];exact⟨_,rfl⟩
def HM(a:Ks)(I:Mu)(ow:Nat->Prop)(w:World)(X:Value)(h:E' I ow w (aF a.1) X):X=Xm a:=by
 simp only[aF,E',ax,vI]at h;obtain⟨PO,rfl,⟨x,xs,rfl,rfl,y,ys,rfl,rfl,z,zs,rfl,rfl,rfl⟩,-⟩:=h;rfl
def db(l:List PH):V:=.sl 3 (l.map aF)
def mz(l:List PH):dR false (db l)=some (.int .i64 l.length):=by simp[db,dR]
def kW{U:ag}{l:List PH}{i:Nat}(h:i<l.length):bS U 3 (db l) (.int .i64 i)=some (.rp (aF l[i])):=by simp[db,bS,h,aF]
def rX(s:PH)(U:ag):cj U true 3 (.rp (aF s))=some (aF s):=rfl
def lk(x:Q3×PH):V:=.agg [vI x.1.PX,vI x.1.Qo,vI x.2.atom,vI x.2.done,.bool x.2.free]
def dW(x:Q3×PH):(lk x).cells=[vI x.1.PX,vI x.1.Qo,vI x.2.atom,vI x.2.done,.bool x.2.free]:=rfl
def dX(x:Q3×PH):(lk x).stays=true:=rfl
def gg(x:Q3):V:=.agg [vI x.PX,vI x.Qo]
def bl(x:Q3):(gg x).cells=[vI x.PX,vI x.Qo]:=rfl
def bj(x:Q3):(gg x).stays=true:=rfl
def qj(b:Bk)(im:Nat):List V:=[aQ b.nodes,bH b.atoms,bV b.PQ,vI b.h,.mp im]
def mG(b:Bk)(im:Nat):Ob:=⟨81,5,[.agg (qj b im)]⟩
structure eV(b:Bk)(K U:ag)(i im:Nat):Prop where
 row:U i=some (mG b im)
 mp:∃g:Ks->Option V,nU Xm U im g/\∀s v,g s=some v->v=lk (dD b s.1)
 ni:K i=none
 nm:K im=none
 sub:aa K U
def eV.ne{b:Bk}{K U:ag}{i im:Nat}(h:eV b K U i im):i≠im:=by
 obtain⟨g,h1,-⟩:=h.mp;exact h1.ne h.row (by decide)
def eV.mono{b:Bk}{K U J:ag}{i im:Nat}(h:eV b K U i im)(hs:aa U J):eV b K J i im:=by
 obtain⟨g,h1,h2⟩:=h.mp;exact⟨hs _ _ h.row,⟨g,h1.sub hs,h2⟩,h.ni,h.nm,h.sub.trans hs⟩
def eV.less{b:Bk}{K K' U:ag}{i im:Nat}(h:eV b K' U i im)(hk:aa K K'):eV b K U i im:=⟨h.row,h.mp,hk.none h.ni,hk.none h.nm,hk.trans h.sub⟩
def eV.neK{b:Bk}{K U:ag}{i im j:Nat}{o:Ob}(h:eV b K U i im)(hj:K j=some o):j≠i/\j≠im:=by
 constructor
 .intro e;rw[e,h.ni]at hj;cases hj
 .intro e;rw[e,h.nm]at hj;cases hj
def qX(U:ag)(i im:Nat):ag:=λj=>if j=i\/j=im then none else U j
def dV{U:ag}{i im j:Nat}(h1:j≠i)(h2:j≠im):qX U i im j=U j:=aH λh=>h.elim h1 h2
def eV.off{b:Bk}{K U:ag}{i im:Nat}(h:eV b K U i im):eV b (qX U i im) U i im:=⟨h.row,h.mp,aE (.inl rfl),aE (.inr rfl),λj o hj=>by
 unfold qX at hj;split at hj
 .cases hj
 .exact hj⟩
def eV.lg{b:Bk}{K U:ag}{i im:Nat}(h:eV b K U i im):aa K (qX U i im):=λj o hj=>by
 obtain⟨h1,h2⟩:=h.neK hj;rw[dV h1 h2];exact h.sub _ _ hj
open Go.Proofs Go.Proofs.Tryz
section
variable {P:Program} {n:Nat} {st:St} {Q:St->Prop} {k:List It}
def Go.nk{i:aK}{l:List aK}{fx:VX}{xs:List VX}{f:FuncId}{caps:List V}{v:V}(hw:bB st.s i.g=some true)(ho:i.op=.call fx xs)
 (hf:fx.ev st.s=.fn f caps)(hc:∀Z1,aa st.U Z1->aB P f (xs.map (·.ev st.s)++caps) Z1 λr Z'=>r=v/\Z'=Z1)(h:Go P n (.d l k) ⟨aZ st.s i.dst v,st.U⟩ Q):Go P n (.d (i::l) k) st Q:=by
 refine oT hw ?_;rw[ho];exact⟨f,caps,v,hf,hc,h⟩
end
def az(s:PH):(aF s).cells=[vI s.atom,vI s.done,.bool s.free]:=rfl
def aA(s:PH):(aF s).stays=true:=rfl
def ct(im:Nat):(V.mp im).cells=[.mp im]:=rfl
def cp(im:Nat):(V.mp im).stays=true:=rfl
def pP(x:RX):(fT x).cells=[vI x.cls,vI x.forced,vI x.rank]:=rfl
def qe(b:Bk)(s:PH){U:ag}{i im:Nat}(h0:U i=some (mG b im)):
 aB prog 29 [.ptr i 0 0,aF s] U λr Z'=>r=.bool (decide (bY b s))/\Z'=U:=by
 refine e29.r (by simp[c29]) ?_;have hs:=aa.refl U;have RN:=jm b.atoms;rw[mG,qj]at h0;generalize hF:decide (bY b s)=F;refine ae.mix 5 ?_;apply sR;simp only[go_sem,seval,c29,az,aA];refine ad λi3 Z3 s3 a3 f3=>?_;have z3:=hs.none f3;replace hs:=hs.trans s3;replace h0:=s3 _ _ h0;by_cases hf:s.atom>=b.atoms.length
 .have q:(s.atom>=(b.atoms.length:Int))=True:=PK hf;simp only[go_sem,seval,h0,a3,q,RN,az,aA,aq,ao,ct,cp];exact av.pure hs (by rw[<-hF,Rt (show bY b s from hf)])
 .have q:(s.atom>=(b.atoms.length:Int))=False:=PF hf;simp only[go_sem,seval,h0,a3,q,RN,az,aA,aq,ao,ct,cp];exact av.pure hs (by rw[<-hF,Rv (show¬bY b s from hf)])
def xU{b:List RX}{k:Int}(h0:0<=k)(h1:k<b.length):∀U,bS U 3 (bV b) (.int .i64 k)=some (.rp (fT (Rz b k.toNat))):=λU=>by
 obtain⟨j,rfl⟩:∃j:Nat,k=j:=⟨k.toNat,by omega⟩
 have hj:j<b.length:=by omega
 have e:Rz b ((j:Int)).toNat=b[j]:=by simp[Rz,hj]
 rw[e];exact uO hj
def pt(b:Bk)(s:PH)(h1:0<=s.atom/\s.atom<b.PQ.length){U:ag}{i im:Nat}(h0:U i=some (mG b im)):
 aB prog 28 [.ptr i 0 0,aF s] U λr Z'=>r=vI (bN b s)/\Z'=U:=by
 refine e28.r (by simp[c28]) ?_;have hs:=aa.refl U;have VE:=xU h1.1 h1.2;rw[mG,qj]at h0;unfold bN;generalize Rz b.PQ s.atom.toNat=B at*;refine ae.mix 5 ?_;apply sR;simp only[go_sem,seval,c28,az,aA];refine ad λi3 Z3 s3 a3 f3=>?_;have z3:=hs.none f3;replace hs:=hs.trans s3;replace h0:=s3 _ _ h0;by_cases hd:s.done>0
 .have q:(s.done>0)=True:=PK hd;rw[aE hd];simp only[go_sem,seval,h0,a3,q,az,aA];exact av.pure hs rfl
 .have q:(s.done>0)=False:=PF hd;rw[aH hd];simp only[go_sem,seval,h0,a3,q,VE,pP,az,aA,bu,bt,ct,cp];exact av.pure hs rfl
def Fj(b:Bk)(k:Nat)(hk:k<b.PQ.length){U:ag}{i im:Nat}(h0:U i=some (mG b im)):
 aB prog 48 [.ptr i 0 0,vI k] U λr Z'=>r=aF (iG b k)/\Z'=U:=by
 refine e48.r (by simp[c48]) ?_;have hs:=aa.refl U;have VE:=xU (b:=b.PQ) (k:=k) (by omega) (by omega);rw[fp]at VE;rw[mG,qj]at h0;unfold iG;generalize Rz b.PQ k=B at*;refine ae.mix 5 ?_;apply sR;simp only[go_sem,seval,c48];refine ad λi4 Z4 s4 a4 f4=>?_;have z4:=hs.none f4;replace hs:=hs.trans s4;replace h0:=s4 _ _ h0;by_cases hd:B.forced=0
 .have q:(B.forced≠0)=False:=PF λh=>h hd;rw[Rv λh=>h hd];simp only[go_sem,seval,h0,a4,q,VE,pP,bu,bt,ct,cp];exact av.pure (hs.aD z4) rfl
 .have q:(B.forced≠0)=True:=PK hd;rw[Rt hd];simp only[go_sem,seval,h0,a4,q,VE,pP,bu,bt,ct,cp];exact av.pure (hs.aD z4) rfl
def Dh(b:Bk)(s:PH):Prop:=cM b.atoms s/\okP b s
instance (b:Bk) (s:PH):Decidable (Dh b s):=by unfold Dh okP;infer_instance
def KH(b:Bk)(hbr:b.PQ.length=b.atoms.length+1)(s:PH){U:ag}{i im:Nat}(h0:U i=some (mG b im)):
 aB prog 40 [.ptr i 0 0,aF s] U λr Z'=>r=.bool (decide (Dh b s))/\Z'=U:=by
 refine e40.r (by simp[c40]) ?_;have hs:=aa.refl U;have hm:=o7 b.atoms s;rw[mG,qj]at h0;generalize hF:decide (Dh b s)=F;refine ae.mix 5 ?_;apply sR;simp only[go_sem,seval,c40,az,aA];refine ad λi3 Z3 s3 a3 f3=>?_;have z3:=hs.none f3;replace hs:=hs.trans s3;replace h0:=s3 _ _ h0;by_cases g1:cM b.atoms s
 .rw[Rt g1]at hm;have VE:=xU (b:=b.PQ) (k:=s.atom) g1.1.1 (by have:=g1.1.2;omega);have hT:(s.free=true->s.done=0/\(s.atom=0\/(Rz b.PQ s.atom.toNat).forced≠0))->F=true:=λh=>by rw[<-hF];exact Rt ⟨g1,h⟩
  have hN:¬(s.free=true->s.done=0/\(s.atom=0\/(Rz b.PQ s.atom.toNat).forced≠0))->F=false:=λh=>by rw[<-hF];exact Rv λg=>h g.2
  clear hF;generalize Rz b.PQ s.atom.toNat=B at*;simp only[go_sem,seval,h0,a3,az,aA,aq,ao,ct,cp];refine Go.bZ rfl rfl rfl hm ?_;cases g2:s.free
  .apply sG;simp only[go_sem,seval,h0,a3,g2,Bool.not_true,Bool.not_false,az,aA,bu,bt,ct,cp];exact av.pure hs (by rw[hT (λh=>by rw[g2]at h;cases h)])
  .by_cases g3:s.done=0
   .have q3:(s.done=0)=True:=PK g3;by_cases g4:s.atom=0
    .have q4:(s.atom=0)=True:=PK g4;apply sG;simp only[go_sem,seval,h0,a3,g2,q3,q4,Bool.not_true,Bool.not_false,az,aA,bu,bt,ct,cp];exact av.pure hs (by rw[hT (λ_=>⟨g3,.inl g4⟩)])
    .have q4:(s.atom=0)=False:=PF g4;by_cases g5:B.forced=0
     .have q5:(B.forced≠0)=False:=PF λh=>h g5;apply sG;simp only[go_sem,seval,h0,a3,g2,q3,q4,q5,VE,Bool.not_true,Bool.not_false,pP,az,aA,bu,bt,ct,cp];exact av.pure hs (by rw[hN (λh=>(h g2).2.elim g4 λh=>h g5)])
     .have q5:(B.forced≠0)=True:=PK g5;apply sG;simp only[go_sem,seval,h0,a3,g2,q3,q4,q5,VE,Bool.not_true,Bool.not_false,pP,az,aA,bu,bt,ct,cp];exact av.pure hs (by rw[hT (λ_=>⟨g3,.inr g5⟩)])
   .have q3:(s.done=0)=False:=PF g3;apply sG;simp only[go_sem,seval,h0,a3,g2,q3,Bool.not_true,Bool.not_false,az,aA,bu,bt,ct,cp];exact av.pure hs (by rw[hN (λh=>g3 (h g2).1)])
 .rw[Rv g1]at hm;simp only[go_sem,seval,h0,a3,az,aA,aq,ao,ct,cp];refine Go.bZ rfl rfl rfl hm ?_;apply sG;simp only[go_sem,seval,Bool.not_false];exact av.pure hs (by rw[<-hF,Rv (λh=>g1 h.1)])
def oL(a b:Int):Int:=if a<b then -1 else if a>b then 1 else 0
def IU(a:Int):bb prog 49 [vI a] (.bool false):=λU=>by
 refine e49.r (by simp[c49]) ?_;have q:(a≠a)=False:=PF λh=>h rfl;refine ae.mix 3 ?_;apply sR;simp only[go_sem,seval,c49,q];exact av.same rfl
def FG(a b:Int):bb prog 27 [vI a,vI b] (vI (oL a b)):=λU=>by
 refine e27.r (by simp[c27]) ?_;refine ae.mix 7 ?_;apply sR;simp only[go_sem,seval,c27];refine ae.aC rfl rfl rfl (IU a _) ?_;apply sR;simp only[go_sem,seval];refine ae.aC rfl rfl rfl (IU b _) ?_;unfold oL;by_cases h1:a<b
 .have q1:(a<b)=True:=PK h1;apply sR;simp only[go_sem,seval,q1];exact av.same rfl
 .have q1:(a<b)=False:=PF h1;by_cases h2:a>b
  .have q2:(a>b)=True:=PK h2;apply sR;simp only[go_sem,seval,q1,q2];exact av.same rfl
  .have q2:(a>b)=False:=PF h2;apply sR;simp only[go_sem,seval,q1,q2];exact av.same rfl
open Go.Proofs Go.Proofs.Tryz
def orJ:List Int->Int
 |[]=>0
 |x::r=>if x≠0 then x else orJ r
def FA{l:List Int}{i:Nat}(h:i<l.length):orJ (l.drop i)=if l[i]≠0 then l[i]else orJ (l.drop (i+1)):=by
 rw[iy h,orJ]
def On{U:ag}{v:V}(l:List Int)(hl:l.length<=1000000)(hr:Reads U 1 false v (l.map vI)):
 aB prog 32 [v] U λr Z'=>r=vI (orJ l)/\Z'=U:=by
 refine e32.r (by simp[c32]) ?_;have Yq:dR false v=some (.int .i64 l.length):=by rw[hr.1,du]
 refine ae.mix 6 ?_;apply sR;simp only[go_sem,seval,c32,Yq];refine ae.loop (λm st=>∃i:Nat,i<=l.length/\m=l.length-i/\orJ l=orJ (l.drop i)/\st.U=U/\st.s 3=vI 0/\st.s 6=v/\st.s 7=vI l.length/\st.s 8=vI i) l.length ?_ ?_
 .exact⟨0,by omega,rfl,rfl,rfl,rfl,rfl,rfl,rfl⟩
 .rintro m ⟨s,Z'⟩ ⟨i,hi,rfl,heq,Qj,h3,h6,h7,h8⟩;simp only at Qj h3 h6 h7 h8;subst Qj;refine ae.mix 6 ?_;by_cases H':i<l.length
  .have q:((i:Int)<l.length)=True:=PK;have hd:=FA H';obtain⟨a,ha,RN⟩:=hr.2 i (vI l[i]) (by simp[H']);have r1:PY .i64 ((i:Int)+1):=ar;by_cases hx:l[i]=0
   .have q2:(l[i]≠0)=False:=PF λh=>h hx;rw[aH λh=>h hx]at hd;apply sR;simp only[go_sem,seval,h3,h6,h7,h8,q,q2,ha,RN,r1];exact⟨_,by omega,i+1,by omega,rfl,by rw[heq,hd],by simp[h3,h6,h7]⟩
   .have q2:(l[i]≠0)=True:=PK hx;rw[aE hx]at hd;apply sR;simp only[go_sem,seval,h3,h6,h7,h8,q,q2,ha,RN,r1];exact av.same (by rw[heq,hd])
  .have q:((i:Int)<l.length)=False:=PF;have RH:i=l.length:=by omega
   apply sR;simp only[go_sem,seval,h3,h6,h7,h8,q];exact av.same (by rw[heq,RH,qx];rfl)
def vk{U:ag}{id e:Nat}{l:List Int}(h:U id=some ⟨e,1,l.map vI⟩):Reads U 1 false (.own id 0 l.length) (l.map vI):=
 ⟨by simp[dR],λi r hi=>by
  obtain⟨h1,h2⟩:=nY.1 hi;refine⟨.ptr id i 0,by have:=jY h (i:=i) h1;rwa [du]at this,?_⟩;rw[List.getElem_map]at h2;subst h2;simp only[cj,h,hi];rfl⟩
instance (a b:Q3):Decidable (a.lt b):=by unfold Q3.lt;infer_instance
def M8(a b:Q3):(orJ [oL a.PX b.PX,oL a.Qo b.Qo]<0)=a.lt b:=by
 refine propext ?_;unfold Q3.lt;simp only[orJ,oL]
 (repeat' split)<;>omega
def Lo(a b:Q3):bb prog 10 [gg a,gg b] (.bool (decide (a.lt b))):=λU=>by
 refine e10.r (by simp[c10]) ?_;have hs:=aa.refl U;refine ae.mix 5 ?_;apply sR;simp only[go_sem,seval,c10,bl,bj];refine ad λi2 Z2 s2 a2 f2=>?_;have z2:=hs.none f2;replace hs:=hs.trans s2;simp only[go_sem,seval,a2,bl,bj];refine ad λi3 Z3 s3 a3 f3=>?_;have n23:=al a2 f3;replace a2:=s3 _ _ a2;have z3:=hs.none f3;replace hs:=hs.trans s3;simp only[go_sem,seval,a2,a3,bl,bj];refine Go.bZ rfl rfl rfl (FG _ _) ?_;apply sG;simp only[go_sem,seval,a2,a3,bl,bj];refine Go.bZ rfl rfl rfl (FG _ _) ?_;apply sG;simp only[go_sem,seval];refine bc λVW Y15 Vi SR f15=>?_;have n215:=al a2 f15;replace a2:=Vi _ _ a2;have n315:=al a3 f15;replace a3:=Vi _ _ a3;have z15:=hs.none f15;replace hs:=hs.trans Vi;simp only[go_sem,seval];refine Go.nk rfl rfl rfl (λZ1 h1=>On [oL a.PX b.PX,oL a.Qo b.Qo] (by simp) ?_) ?_
 .have h15:=h1 _ _ SR;exact vk (l:=[oL a.PX b.PX,oL a.Qo b.Qo]) h15
 .have q:=M8 a b;by_cases H':a.lt b
  .rw[PK H']at q;rw[Rt H'];apply sG;simp only[go_sem,seval,q];exact av.pure hs rfl
  .rw[PF H']at q;rw[Rv H'];apply sG;simp only[go_sem,seval,q];exact av.pure hs rfl
def Kd(a b:PH):jX false [0,0,1] (aF a) (aF b)=some (.bool (decide (a=b))):=by
 obtain⟨a1,a2,a3⟩:=a;obtain⟨b1,b2,b3⟩:=b;simp only[jX,aF,cX,bX,cQ,vI,Q4,List.length_nil,true_and,↓reduceIte,PH.mk.injEq];by_cases h1:a1=b1<;>by_cases h2:a2=b2<;>cases a3<;>cases b3<;>simp[h1,h2]
def Cl(a b:PH):jX true [0,0,1] (aF a) (aF b)=some (.bool (decide (a≠b))):=by
 obtain⟨a1,a2,a3⟩:=a;obtain⟨b1,b2,b3⟩:=b;simp only[jX,aF,cX,bX,cQ,vI,Q4,List.length_nil,true_and,↓reduceIte,ne_eq,PH.mk.injEq];by_cases h1:a1=b1<;>by_cases h2:a2=b2<;>cases a3<;>cases b3<;>simp[h1,h2]
def ou(a:PH):List PH->Nat->Int
 |[],_=>-1
 |q::r,i=>if a=q then i else ou a r (i+1)
def BT{a:PH}{p:List PH}{i:Nat}(h:i<p.length):ou a (p.drop i) i=if a=p[i]then(i:Int)else ou a (p.drop (i+1)) (i+1):=by
 rw[iy h,ou]
def xy(a:PH):∀(p:List PH) (i:Nat),(ou a p i>=0)=(a∈p)
 |[],i=>by simp[ou]
 |q::r,i=>by
  rw[ou,dc];split
  .rename_i h;simp[h]
  .rename_i h;rw[xy a r (i+1)];simp[h]
def aG(s:PH):V.agg [vI s.atom,vI s.done,.bool s.free]=aF s:=rfl
def DP(p:List PH)(hp:p.length<=1000000000)(a:PH):bb prog 50 [db p,aF a] (vI (ou a p 0)):=λU=>by
 refine e50.r (by simp[c50]) ?_;have hs:=aa.refl U;have V1:=mz p;refine ae.mix 9 ?_;apply sR;simp only[go_sem,seval,c50,az,aA];refine ad λi3 Z3 s3 a3 f3=>?_;have z3:=hs.none f3;replace hs:=hs.trans s3;simp only[go_sem,seval,V1,az,aA];refine ae.loop (λm st=>∃(i:Nat),i<=p.length/\m=p.length-i/\ou a p 0=ou a (p.drop i) i/\st.U=Z3/\st.s 0=db p/\st.s 3=.ptr i3 0 0/\st.s 7=vI p.length/\st.s 8=vI i) p.length ?_ ?_
 .exact⟨0,by omega,rfl,rfl,rfl,rfl,rfl,rfl,rfl⟩
 .rintro m ⟨s,Z'⟩ ⟨i,hi,rfl,heq,Qj,h0,h3,h7,h8⟩;simp only at Qj h0 h3 h7 h8;subst Qj;refine ae.mix 9 ?_;by_cases H':i<p.length
  .have q:((i:Int)<p.length)=True:=PK;have hd:=BT (a:=a) H';have O':=λU=>kW (U:=U) H';have r1:PY .i64 ((i:Int)+1):=ar;have WE:=Kd a p[i];have VO:=rX p[i];by_cases hc:a=p[i]
   .rw[Rt hc]at WE;apply sR;simp only[BB,seval,<-decide_not,bx,fb,aM,dn,dk,dp,dv,dG,bO,jj,fG,bz,eR,dr,eQ,cP,cD,bR,gW,cm,cA,cd,QS,jv,cV,bP,cX,bX,cQ,cC,jf,binBV,bK,cW,Rd.nothing,h0,h3,h7,h8,q,a3,O',VO,WE,az,aA,aG,V.gB,V.gC,V.fw,V.gy,V.iF,V.gz,V.fj,V.iR,V.gA,V.iP,V.gx,V.gG,V.fq,V.gE,V.iM,V.gF,V.fA,V.iC,V.gH,V.iB];refine av.pure hs ?_;rw[heq,hd,aE hc]
   .rw[Rv hc]at WE;apply sR;simp only[BB,seval,<-decide_not,bx,fb,aM,dn,dk,dp,dv,dG,bO,jj,fG,bz,eR,dr,eQ,cP,cD,bR,gW,cm,cA,cd,QS,jv,cV,bP,cX,bX,cQ,cC,jf,binBV,bK,cW,Rd.nothing,h0,h3,h7,h8,q,a3,O',VO,WE,r1,az,aA,aG,V.gB,V.gC,V.fw,V.gy,V.iF,V.gz,V.fj,V.iR,V.gA,V.iP,V.gx,V.gG,V.fq,V.gE,V.iM,V.gF,V.fA,V.iC,V.gH,V.iB];exact⟨_,by omega,i+1,by omega,rfl,by rw[heq,hd,aH hc],by simp[h0,h3,h7]⟩
  .have q:((i:Int)<p.length)=False:=PF;have RH:i=p.length:=by omega
   apply sR;simp only[go_sem,seval,h0,h3,h7,h8,q];refine av.pure hs ?_;rw[heq,RH,qx];rfl
def EV(p:List PH)(hp:p.length<=1000000000)(a:PH):bb prog 30 [db p,aF a] (.bool (decide (a∈p))):=λU=>by
 refine e30.r (by simp[c30]) ?_;have hs:=aa.refl U;refine ae.mix 5 ?_;apply sR;simp only[go_sem,seval,c30,az,aA];refine ad λi3 Z3 s3 a3 f3=>?_;have z3:=hs.none f3;replace hs:=hs.trans s3;simp only[go_sem,seval,a3,az,aA,aG];refine ae.aC rfl rfl rfl (DP p hp a _) ?_;have q:=xy a p 0;by_cases hm:a∈p
 .rw[PK hm]at q;rw[Rt hm];apply sR;simp only[go_sem,seval,q];exact av.pure hs rfl
 .rw[PF hm]at q;rw[Rv hm];apply sR;simp only[go_sem,seval,q];exact av.pure hs rfl
def mC(p:PH->Bool):List PH->Nat->Int
 |[],_=>-1
 |f::r,i=>if p f then i else mC p r (i+1)
def By{p:PH->Bool}{l:List PH}{i:Nat}(h:i<l.length):mC p (l.drop i) i=if p l[i]then(i:Int)else mC p (l.drop (i+1)) (i+1):=by
 rw[iy h,mC]
def qN(p:PH->Bool):∀(l:List PH) (i:Nat),(mC p l i>=0)=(l.any p=true)
 |[],i=>by simp[mC]
 |q::r,i=>by
  rw[mC,List.any_cons];cases h:p q
  .simp only[Bool.false_or,jz,if_false];exact qN p r (i+1)
  .simp
def Eo{U:ag}(l:List PH)(hl:l.length<=1000000){g:V}{f:FuncId}{caps:List V}(p:PH->Bool)
 (hg:g=.bm f caps)(hf:∀x∈l,aB prog f (caps++[aF x]) U λr Z'=>r=.bool (p x)/\Z'=U):
 aB prog 51 [db l,g] U λr Z'=>r=vI (mC p l 0)/\Z'=U:=by
 subst hg;refine e51.r (by simp[c51]) ?_;have Yq:=mz l;refine ae.mix 6 ?_;apply sR;simp only[go_sem,seval,c51,Yq];refine ae.loop (λm st=>∃i:Nat,i<=l.length/\m=l.length-i/\mC p l 0=mC p (l.drop i) i/\st.U=U/\st.s 0=db l/\st.s 1=.bm f caps/\st.s 7=vI l.length/\st.s 8=vI i) l.length ?_ ?_
 .exact⟨0,by omega,rfl,rfl,rfl,rfl,rfl,rfl,rfl⟩
 .rintro m ⟨s,Z'⟩ ⟨i,hi,rfl,heq,Qj,h0,h1,h7,h8⟩;simp only at Qj h0 h1 h7 h8;subst Qj;refine ae.mix 6 ?_;by_cases H':i<l.length
  .have q:((i:Int)<l.length)=True:=PK;have hd:=By (p:=p) H';have O':=λU=>kW (U:=U) H';have VO:=rX l[i];have hfx:=hf l[i] (QL H');have r1:PY .i64 ((i:Int)+1):=ar;apply sR;simp only[go_sem,seval,h0,h1,h7,h8,q,O',VO];refine ae.kS rfl rfl rfl hfx ?_;rintro r Z2 ⟨rfl,rfl⟩;cases hp:p l[i]
   .rw[hp]at hd;apply sR;simp only[go_sem,seval,h0,h1,h7,h8,r1];exact⟨_,by omega,i+1,by omega,rfl,by rw[heq,hd];simp,by simp[h0,h1,h7]⟩
   .rw[hp]at hd;apply sR;simp only[go_sem,seval];exact av.same (by rw[heq,hd];simp)
  .have q:((i:Int)<l.length)=False:=PF;have RH:i=l.length:=by omega
   apply sR;simp only[go_sem,seval,h0,h7,h8,q];exact av.same (by rw[heq,RH,qx];rfl)
def HY{U:ag}(l:List PH)(hl:l.length<=1000000){f:FuncId}{caps:List V}(p:PH->Bool)
 (hf:∀x∈l,aB prog f (caps++[aF x]) U λr Z'=>r=.bool (p x)/\Z'=U):
 aB prog 31 [db l,.bm f caps] U λr Z'=>r=.bool (l.any p)/\Z'=U:=by
 refine e31.r (by simp[c31]) ?_;refine ae.mix 5 ?_;apply sR;simp only[go_sem,seval,c31];refine ae.aC rfl rfl rfl (Eo l hl p rfl hf) ?_;cases hm:l.any p
 .have q:(mC p l 0>=0)=False:=by rw[qN,hm];simp
  apply sR;simp only[go_sem,seval,q];exact av.same rfl
 .have q:(mC p l 0>=0)=True:=by rw[qN,hm];simp
  apply sR;simp only[go_sem,seval,q];exact av.same rfl
open Go.Proofs Go.Proofs.Tryz
def Ie{b:Bk}{s:PH}(hm:cM b.atoms s):bw b s=rh b.nodes (R8 b.atoms s.atom).node b.h:=by
 have h1:=hm.1.2;have h2:=hm.1.1;have P':b.atoms≠[]:=λh=>by rw[h]at h1;simp at h1;omega
 unfold bw;rw[aH P',show min s.atom ((b.atoms.length:Int)-1)=s.atom by omega]
def zb{b:Bk}(hb:bU b){s:PH}(hm:cM b.atoms s):s.atom<=bQ b s/\bQ b s<=b.atoms.length:=by
 obtain⟨u,u1,u2,u3,-⟩:=kg hb.R4 hb.pos hm (iz b.atoms s (bw b s).body) 0 (bw b s).body;unfold bQ;rw[u1];omega
def Ct{b:Bk}(hb:bU b){s:PH}(hm:cM b.atoms s):s.done<=18014398509481984:=by
 obtain⟨k,hk⟩:∃k:Nat,s.atom=k:=⟨s.atom.toNat,by have:=hm.1.1;omega⟩
 have Q6:k<b.atoms.length:=by have:=hm.1.2;omega
 have h2:=hm.2.2;rw[hk,bG Q6]at h2;have:=(hb.tight _ (QL Q6)).2.2.2;omega
def rN(b:Bk)(R j:Nat):List PH:=(List.range j).map λi=>iG b (R-i)
def B6(b:Bk)(R j:Nat):rN b R (j+1)=rN b R j++[iG b (R-j)]:=by
 unfold rN;rw[List.range_succ,fC];rfl
def Cw(b:Bk)(hb:bU b)(s:PH)(hm:cM b.atoms s){U:ag}{i im:Nat}(h0:U i=some (mG b im)):
 aB prog 25 [.ptr i 0 0,aF s] U λr Z'=>aa U Z'/\aU U Z' 37 3 r ((bE b s).map aF):=by
 refine e25.r (by simp[c25]) ?_;have hs:=aa.refl U;have QX:=hb.len;have To:=hb.WL;obtain⟨k,hk⟩:∃k:Nat,s.atom=k:=⟨s.atom.toNat,by have:=hm.1.1;omega⟩
 have Q6:k<b.atoms.length:=by have:=hm.1.2;omega
 have O':∀U,bS U 8 (bH b.atoms) (.int .i64 s.atom)=some (.rp (dC b.atoms[k])):=λU=>by rw[hk];exact jr Q6
 have hac:∀a:QB,(dC a).cells=[vI a.kind,vI a.node,vI a.fr,vI a.to,vI a.x,vI a.y,vI a.w,vI a.h]:=λ_=>rfl;have hrv:=Ie hm;have RG:R8 b.atoms s.atom=b.atoms[k]:=by rw[hk];exact bG Q6
 rw[RG]at hrv;have ho:=Ja b.nodes hb.sY b.atoms[k].node b.h;rw[<-hrv]at ho;have hd:=Ct hb hm;have hkp:=CB b.atoms hb.Qf s (bw b s).body;have hkr:=xi hb.toBkOk s (bw b s).body;have hrc:=Ah b.atoms hb.Qf s (by omega) (iz b.atoms s (bw b s).body) 0 (bw b s).body hkr ⟨by omega,by omega⟩;have TD:=GF b.atoms hb.Qf s (by omega) (bw b s).body;have hRn:=zb hb hm;rw[show lq b.atoms s (iz b.atoms s (bw b s).body) 0 (bw b s).body=bQ b s from rfl]at hrc;have hfi:=CU b.PQ (by omega) (s.atom+1) (bQ b s);have SP:=qs (b:=b.PQ) (i:=s.atom) (fit:=bQ b s) hm.1.1 (by omega);have WA:bE b s=if bQ b s<=s.atom then[dI b.atoms s (bw b s).body]else if fa b.PQ (s.atom+1) (bQ b s)>=0 then[iG b (fa b.PQ (s.atom+1) (bQ b s)).toNat]else rN b (bQ b s).toNat (bQ b s-s.atom).toNat:=rfl
 have XY:=h0;rw[mG,qj]at h0;generalize bQ b s=R at*;generalize iz b.atoms s (bw b s).body=KP at*;generalize bw b s=rv at*;generalize dI b.atoms s rv.body=NX at*;generalize kQ b.atoms s rv.body=FX at*;generalize fa b.PQ (s.atom+1) R=FR at*;have r1:PY .i64 (s.atom+1):=ar;refine ae.mix 13 ?_;apply sR;simp only[go_sem,seval,c25,bM.rt,az,aA];refine ad λi3 Z3 s3 a3 f3=>?_;have z3:=hs.none f3;replace hs:=hs.trans s3;replace XY:=s3 _ _ XY;replace h0:=s3 _ _ h0;have z3':=z3;simp only[go_sem,seval,h0,a3,O',hac,az,aA,ai,aJ,aq,ao,ct,cp];refine Go.bZ rfl rfl rfl ho ?_;apply sG;simp only[go_sem,seval,h0,a3,sP,az,aA,aG,aq,ao,ct,cp];refine Go.bZ rfl rfl rfl hkp ?_;apply sG;simp only[go_sem,seval,h0,a3,az,aA,aG,aq,ao,ct,cp];refine Go.bZ rfl rfl rfl hrc ?_;by_cases g1:R<=s.atom
 .have q1:(R<=s.atom)=True:=PK g1;rw[aE g1]at WA;apply sG;simp only[go_sem,seval,bM.rt,h0,a3,q1,az,aA];have a8:True:=trivial;have a9:True:=trivial;have hn:True:=trivial;have nc:NX=NX:=rfl;refine ae.vW (by kernel_rfl) 8 (.fork [[],[0],[1,0],[2,1,0],[],[],[3,4,5,2,1,0],[6,3,4,5,2,1,0],[7,6,3,4,5,2,1,0],[7,6,3,4,5,2,1,0],[],[],[10,8,6,0,1,2,3,4,5,7,11],[11,9,12,0,1,2,3,4,5,6,7,8,10]] [0,1,2,3,4,5] [6,10,11] [(.fork [[],[0],[1,0],[2,1,0],[],[],[3,4,5,2,1,0],[6,3,4,5,2,1,0],[7,6,3,4,5,2,1,0],[7,6,3,4,5,2,1,0],[6,3,4,5,2,1,0],[6,3,4,5,2,1,0],[6,3,4,5,2,1,0,10,8,7,11],[6,3,4,5,2,1,0,11,9,12,7,8,10]] [6,7,8,9] [10,11] [(.leaf [[],[0],[1,0],[2,1,0],[],[],[3,4,5,2,1,0],[6,3,4,5,2,1,0],[7,6,3,4,5,2,1,0],[7,6,3,4,5,2,1,0],[6,3,4,5,2,1,0],[10,6,3,4,5,2,1,0],[10,6,3,4,5,2,1,0,8,7,11],[10,6,3,4,5,2,1,0,11,9,12,7,8]] [10,11,12,13]),(.leaf [[],[0],[1,0],[2,1,0],[],[],[3,4,5,2,1,0],[6,3,4,5,2,1,0],[7,6,3,4,5,2,1,0],[7,6,3,4,5,2,1,0],[11,6,3,4,5,2,1,0],[6,3,4,5,2,1,0],[11,6,3,4,5,2,1,0,10,8,7],[11,6,3,4,5,2,1,0,9,12,7,8,10]] [11,10,12,13])]),(.fork [[],[0],[1,0],[2,1,0],[],[],[10,3,4,5,2,1,0],[10,6,3,4,5,2,1,0],[10,7,6,3,4,5,2,1,0],[10,7,6,3,4,5,2,1,0],[],[10],[10,8,6,0,1,2,3,4,5,7,11],[10,11,9,12,0,1,2,3,4,5,6,7,8]] [10] [6,11] [(.leaf [[],[0],[1,0],[2,1,0],[],[],[10,3,4,5,2,1,0],[10,6,3,4,5,2,1,0],[10,7,6,3,4,5,2,1,0],[10,7,6,3,4,5,2,1,0],[],[6,10,3,4,5,2,1,0],[6,10,3,4,5,2,1,0,8,7,11],[6,10,3,4,5,2,1,0,11,9,12,7,8]] [6,7,8,9,11,12,13]),(.leaf [[],[0],[1,0],[2,1,0],[],[],[11,10,3,4,5,2,1,0],[11,10,6,3,4,5,2,1,0],[11,10,7,6,3,4,5,2,1,0],[11,10,7,6,3,4,5,2,1,0],[],[10],[11,10,8,6,0,1,2,3,4,5,7],[11,10,9,12,0,1,2,3,4,5,6,7,8]] [11,6,7,8,9,12,13])]),(.fork [[],[0],[1,0],[2,1,0],[],[],[11,3,4,5,2,1,0],[11,6,3,4,5,2,1,0],[11,7,6,3,4,5,2,1,0],[11,7,6,3,4,5,2,1,0],[11],[],[11,10,8,6,0,1,2,3,4,5,7],[11,9,12,0,1,2,3,4,5,6,7,8,10]] [11] [6,10] [(.leaf [[],[0],[1,0],[2,1,0],[],[],[11,3,4,5,2,1,0],[11,6,3,4,5,2,1,0],[11,7,6,3,4,5,2,1,0],[11,7,6,3,4,5,2,1,0],[6,11,3,4,5,2,1,0],[],[6,11,3,4,5,2,1,0,10,8,7],[6,11,3,4,5,2,1,0,9,12,7,8,10]] [6,7,8,9,10,12,13]),(.leaf [[],[0],[1,0],[2,1,0],[],[],[10,11,3,4,5,2,1,0],[10,11,6,3,4,5,2,1,0],[10,11,7,6,3,4,5,2,1,0],[10,11,7,6,3,4,5,2,1,0],[11],[],[10,11,8,6,0,1,2,3,4,5,7],[10,11,9,12,0,1,2,3,4,5,6,7,8]] [10,6,7,8,9,12,13])])]) (by kernel_rfl) ?_;refine GT.IT (its:=[0,2,4,6,8,10]) (by kernel_rfl) ?_;refine RE.Qx (n:=0) [] [0,2,4,6,8,10] [⟨(.some 52),(.Qc (.t 0)),.none⟩,⟨(.some 53),(.nilCheck (.t 52)),.none⟩,⟨(.some 54),(.P9 .false 1 1 (.t 53)),.none⟩,⟨(.some 55),(.load .false 1 (.t 54)),.none⟩,⟨(.some 56),(.load .true 3 (.t 3)),.none⟩,⟨(.some 57),(.Qc (.t 5)),.none⟩] rfl rfl ?_;apply sG;simp only[go_sem,seval,h0,a3,a8,a9,hn,az,aA,aG,aq,ao,aY,ct,cp];refine⟨?_,?_,?_⟩
  .refine GT.lh (its:=[12,14,16,18]) (by kernel_rfl) ?_;refine RE.aC rfl rfl rfl rfl rfl (TD _) ?_;refine RE.Qx (n:=0) [] [14,16,18] [⟨(.some 51),(.Qc (.t 58)),.none⟩,⟨(.some 59),(.ext 0 (.t 51)),.none⟩,⟨(.some 60),(.ext 1 (.t 51)),.none⟩] rfl rfl ?_;apply sG;simp only[go_sem,seval,h0,a3,a8,a9,hn,az,aA,aG,aq,ao,aY,ct,cp];refine⟨?_,?_⟩
   .refine GT.eS (its:=[20,22,24,26]) (by kernel_rfl) ?_;refine RE.Qx (n:=0) [] [20,22,24,26] [⟨(.some 8),(.alloc 46 7 (.agg [(.int .i64 0),(.int .i64 0),(.int .i64 0),(.int .i64 0),(.int .i64 0),(.int .i64 0),(.int .i64 0)])),.none⟩,⟨(.some 9),(.alloc 37 3 (.agg [(.int .i64 0),(.int .i64 0),(.bool .false)])),.none⟩,⟨.none,(.store 7 (.t 8) (.t 59)),.none⟩,⟨.none,(.store 3 (.t 9) (.t 60)),.none⟩] rfl rfl ?_;apply sG;simp only[go_sem,seval,h0,a3,a8,a9,hn,az,aA,aG,aq,ao,aY,ct,cp];refine bc λi8 Z8 s8 a8 f8=>?_;replace h0:=s8 _ _ h0;replace a3:=s8 _ _ a3
    try replace hn:=cY (al a9 f8).symm
    try replace a9:=s8 _ _ a9
    have z8:=hs.none f8;replace hs:=hs.trans s8;simp only[go_sem,seval,h0,a3,a8,a9,hn,az,aA,aG,aq,ao,aY,ct,cp];refine bc λi9 Z9 s9 a9 f9=>?_;replace h0:=s9 _ _ h0;replace a3:=s9 _ _ a3
    try replace hn:=cY (al a8 f9)
    try replace a8:=s9 _ _ a8
    have z9:=hs.none f9;replace hs:=hs.trans s9;simp only[go_sem,seval,h0,a3,a8,a9,hn,az,aA,aG,aq,ao,aY,ct,cp];apply sR;simp only[go_sem,seval,az,aA,aG];refine ad λi62 Z62 ZA ZC f62=>?_;simp only[go_sem,seval];rw[WA];have XL:=aa.trans ((hs.aD z8).aD z9) ZA;have ZD:=aa.none ((hs.aD z8).aD z9) f62;exact⟨_,_,aa.refl _,Wk.refl (aa.refl _) _,XL,aU.new rfl ZC ZD⟩
   .refine GT.eS (its:=[22,20,24,26]) (by kernel_rfl) ?_;refine RE.Qx (n:=0) [] [22,20,24,26] [⟨(.some 9),(.alloc 37 3 (.agg [(.int .i64 0),(.int .i64 0),(.bool .false)])),.none⟩,⟨(.some 8),(.alloc 46 7 (.agg [(.int .i64 0),(.int .i64 0),(.int .i64 0),(.int .i64 0),(.int .i64 0),(.int .i64 0),(.int .i64 0)])),.none⟩,⟨.none,(.store 7 (.t 8) (.t 59)),.none⟩,⟨.none,(.store 3 (.t 9) (.t 60)),.none⟩] rfl rfl ?_;apply sG;simp only[go_sem,seval,h0,a3,a8,a9,hn,az,aA,aG,aq,ao,aY,ct,cp];refine bc λi9 Z9 s9 a9 f9=>?_;replace h0:=s9 _ _ h0;replace a3:=s9 _ _ a3
    try replace hn:=cY (al a8 f9)
    try replace a8:=s9 _ _ a8
    have z9:=hs.none f9;replace hs:=hs.trans s9;simp only[go_sem,seval,h0,a3,a8,a9,hn,az,aA,aG,aq,ao,aY,ct,cp];refine bc λi8 Z8 s8 a8 f8=>?_;replace h0:=s8 _ _ h0;replace a3:=s8 _ _ a3
    try replace hn:=cY (al a9 f8).symm
    try replace a9:=s8 _ _ a9
    have z8:=hs.none f8;replace hs:=hs.trans s8;simp only[go_sem,seval,h0,a3,a8,a9,hn,az,aA,aG,aq,ao,aY,ct,cp];apply sR;simp only[go_sem,seval,az,aA,aG];refine ad λi62 Z62 ZA ZC f62=>?_;simp only[go_sem,seval];rw[WA];have XL:=aa.trans ((hs.aD z8).aD z9) ZA;have ZD:=aa.none ((hs.aD z8).aD z9) f62;exact⟨_,_,aa.refl _,Wk.refl (aa.refl _) _,XL,aU.new rfl ZC ZD⟩
  .refine GT.lh (its:=[20,7,9]) (by kernel_rfl) ?_;refine RE.Qx (n:=0) [7,9] [20] [⟨(.some 8),(.alloc 46 7 (.agg [(.int .i64 0),(.int .i64 0),(.int .i64 0),(.int .i64 0),(.int .i64 0),(.int .i64 0),(.int .i64 0)])),.none⟩] rfl rfl ?_;apply sG;simp only[go_sem,seval,h0,a3,a8,a9,hn,az,aA,aG,aq,ao,aY,ct,cp];refine bc λi8 Z8 s8 a8 f8=>?_;replace h0:=s8 _ _ h0;replace a3:=s8 _ _ a3
   try replace hn:=cY (al a9 f8).symm
   try replace a9:=s8 _ _ a9
   have z8:=hs.none f8;replace hs:=hs.trans s8;simp only[go_sem,seval,h0,a3,a8,a9,hn,az,aA,aG,aq,ao,aY,ct,cp];refine RE.QQ rfl rfl rfl rfl rfl trivial (by simp only[go_sem,seval,h0,a3,a8,a9,hn,az,aA,aG,aq,ao,aY,ct,cp]) ?_;refine RE.QQ rfl rfl rfl rfl rfl trivial (by simp only[go_sem,seval,h0,a3,a8,a9,hn,az,aA,aG,aq,ao,aY,ct,cp]) ?_;refine⟨?_,?_⟩
   .refine GT.eS (its:=[12,14,16,18,22,24,26]) (by kernel_rfl) ?_;refine RE.aC rfl rfl rfl rfl rfl (TD _) ?_;refine RE.Qx (n:=0) [] [14,16,18,22,24,26] [⟨(.some 51),(.Qc (.t 58)),.none⟩,⟨(.some 59),(.ext 0 (.t 51)),.none⟩,⟨(.some 60),(.ext 1 (.t 51)),.none⟩,⟨(.some 9),(.alloc 37 3 (.agg [(.int .i64 0),(.int .i64 0),(.bool .false)])),.none⟩,⟨.none,(.store 7 (.t 8) (.t 59)),.none⟩,⟨.none,(.store 3 (.t 9) (.t 60)),.none⟩] rfl rfl ?_;apply sG;simp only[go_sem,seval,h0,a3,a8,a9,hn,az,aA,aG,aq,ao,aY,ct,cp];refine bc λi9 Z9 s9 a9 f9=>?_;replace h0:=s9 _ _ h0;replace a3:=s9 _ _ a3
    try replace hn:=cY (al a8 f9)
    try replace a8:=s9 _ _ a8
    have z9:=hs.none f9;replace hs:=hs.trans s9;simp only[go_sem,seval,h0,a3,a8,a9,hn,az,aA,aG,aq,ao,aY,ct,cp];apply sR;simp only[go_sem,seval,az,aA,aG];refine ad λi62 Z62 ZA ZC f62=>?_;simp only[go_sem,seval];rw[WA];have XL:=aa.trans ((hs.aD z8).aD z9) ZA;have ZD:=aa.none ((hs.aD z8).aD z9) f62;exact⟨_,_,aa.refl _,Wk.refl (aa.refl _) _,XL,aU.new rfl ZC ZD⟩
   .refine GT.eS (its:=[22,7,9,12,14,16,18,24,26]) (by kernel_rfl) ?_;refine RE.Qx (n:=0) [7,9,12,14,16,18,24,26] [22] [⟨(.some 9),(.alloc 37 3 (.agg [(.int .i64 0),(.int .i64 0),(.bool .false)])),.none⟩] rfl rfl ?_;apply sG;simp only[go_sem,seval,h0,a3,a8,a9,hn,az,aA,aG,aq,ao,aY,ct,cp];refine bc λi9 Z9 s9 a9 f9=>?_;replace h0:=s9 _ _ h0;replace a3:=s9 _ _ a3
    try replace hn:=cY (al a8 f9)
    try replace a8:=s9 _ _ a8
    have z9:=hs.none f9;replace hs:=hs.trans s9;simp only[go_sem,seval,h0,a3,a8,a9,hn,az,aA,aG,aq,ao,aY,ct,cp];refine RE.QQ rfl rfl rfl rfl rfl trivial (by simp only[go_sem,seval,h0,a3,a8,a9,hn,az,aA,aG,aq,ao,aY,ct,cp]) ?_;refine RE.QQ rfl rfl rfl rfl rfl trivial (by simp only[go_sem,seval,h0,a3,a8,a9,hn,az,aA,aG,aq,ao,aY,ct,cp]) ?_;refine RE.aC rfl rfl rfl rfl rfl (TD _) ?_;refine RE.Qx (n:=0) [] [14,16,18,24,26] [⟨(.some 51),(.Qc (.t 58)),.none⟩,⟨(.some 59),(.ext 0 (.t 51)),.none⟩,⟨(.some 60),(.ext 1 (.t 51)),.none⟩,⟨.none,(.store 7 (.t 8) (.t 59)),.none⟩,⟨.none,(.store 3 (.t 9) (.t 60)),.none⟩] rfl rfl ?_;apply sG;simp only[go_sem,seval,h0,a3,a8,a9,hn,az,aA,aG,aq,ao,aY,ct,cp];apply sR;simp only[go_sem,seval,az,aA,aG];refine ad λi62 Z62 ZA ZC f62=>?_;simp only[go_sem,seval];rw[WA];have XL:=aa.trans ((hs.aD z8).aD z9) ZA;have ZD:=aa.none ((hs.aD z8).aD z9) f62;exact⟨_,_,aa.refl _,Wk.refl (aa.refl _) _,XL,aU.new rfl ZC ZD⟩
  .refine GT.lh (its:=[22,7,9]) (by kernel_rfl) ?_;refine RE.Qx (n:=0) [7,9] [22] [⟨(.some 9),(.alloc 37 3 (.agg [(.int .i64 0),(.int .i64 0),(.bool .false)])),.none⟩] rfl rfl ?_;apply sG;simp only[go_sem,seval,h0,a3,a8,a9,hn,az,aA,aG,aq,ao,aY,ct,cp];refine bc λi9 Z9 s9 a9 f9=>?_;replace h0:=s9 _ _ h0;replace a3:=s9 _ _ a3
   try replace hn:=cY (al a8 f9)
   try replace a8:=s9 _ _ a8
   have z9:=hs.none f9;replace hs:=hs.trans s9;simp only[go_sem,seval,h0,a3,a8,a9,hn,az,aA,aG,aq,ao,aY,ct,cp];refine RE.QQ rfl rfl rfl rfl rfl trivial (by simp only[go_sem,seval,h0,a3,a8,a9,hn,az,aA,aG,aq,ao,aY,ct,cp]) ?_;refine RE.QQ rfl rfl rfl rfl rfl trivial (by simp only[go_sem,seval,h0,a3,a8,a9,hn,az,aA,aG,aq,ao,aY,ct,cp]) ?_;refine⟨?_,?_⟩
   .refine GT.eS (its:=[12,14,16,18,20,24,26]) (by kernel_rfl) ?_;refine RE.aC rfl rfl rfl rfl rfl (TD _) ?_;refine RE.Qx (n:=0) [] [14,16,18,20,24,26] [⟨(.some 51),(.Qc (.t 58)),.none⟩,⟨(.some 59),(.ext 0 (.t 51)),.none⟩,⟨(.some 60),(.ext 1 (.t 51)),.none⟩,⟨(.some 8),(.alloc 46 7 (.agg [(.int .i64 0),(.int .i64 0),(.int .i64 0),(.int .i64 0),(.int .i64 0),(.int .i64 0),(.int .i64 0)])),.none⟩,⟨.none,(.store 7 (.t 8) (.t 59)),.none⟩,⟨.none,(.store 3 (.t 9) (.t 60)),.none⟩] rfl rfl ?_;apply sG;simp only[go_sem,seval,h0,a3,a8,a9,hn,az,aA,aG,aq,ao,aY,ct,cp];refine bc λi8 Z8 s8 a8 f8=>?_;replace h0:=s8 _ _ h0;replace a3:=s8 _ _ a3
    try replace hn:=cY (al a9 f8).symm
    try replace a9:=s8 _ _ a9
    have z8:=hs.none f8;replace hs:=hs.trans s8;simp only[go_sem,seval,h0,a3,a8,a9,hn,az,aA,aG,aq,ao,aY,ct,cp];apply sR;simp only[go_sem,seval,az,aA,aG];refine ad λi62 Z62 ZA ZC f62=>?_;simp only[go_sem,seval];rw[WA];have XL:=aa.trans ((hs.aD z8).aD z9) ZA;have ZD:=aa.none ((hs.aD z8).aD z9) f62;exact⟨_,_,aa.refl _,Wk.refl (aa.refl _) _,XL,aU.new rfl ZC ZD⟩
   .refine GT.eS (its:=[20,7,9,12,14,16,18,24,26]) (by kernel_rfl) ?_;refine RE.Qx (n:=0) [7,9,12,14,16,18,24,26] [20] [⟨(.some 8),(.alloc 46 7 (.agg [(.int .i64 0),(.int .i64 0),(.int .i64 0),(.int .i64 0),(.int .i64 0),(.int .i64 0),(.int .i64 0)])),.none⟩] rfl rfl ?_;apply sG;simp only[go_sem,seval,h0,a3,a8,a9,hn,az,aA,aG,aq,ao,aY,ct,cp];refine bc λi8 Z8 s8 a8 f8=>?_;replace h0:=s8 _ _ h0;replace a3:=s8 _ _ a3
    try replace hn:=cY (al a9 f8).symm
    try replace a9:=s8 _ _ a9
    have z8:=hs.none f8;replace hs:=hs.trans s8;simp only[go_sem,seval,h0,a3,a8,a9,hn,az,aA,aG,aq,ao,aY,ct,cp];refine RE.QQ rfl rfl rfl rfl rfl trivial (by simp only[go_sem,seval,h0,a3,a8,a9,hn,az,aA,aG,aq,ao,aY,ct,cp]) ?_;refine RE.QQ rfl rfl rfl rfl rfl trivial (by simp only[go_sem,seval,h0,a3,a8,a9,hn,az,aA,aG,aq,ao,aY,ct,cp]) ?_;refine RE.aC rfl rfl rfl rfl rfl (TD _) ?_;refine RE.Qx (n:=0) [] [14,16,18,24,26] [⟨(.some 51),(.Qc (.t 58)),.none⟩,⟨(.some 59),(.ext 0 (.t 51)),.none⟩,⟨(.some 60),(.ext 1 (.t 51)),.none⟩,⟨.none,(.store 7 (.t 8) (.t 59)),.none⟩,⟨.none,(.store 3 (.t 9) (.t 60)),.none⟩] rfl rfl ?_;apply sG;simp only[go_sem,seval,h0,a3,a8,a9,hn,az,aA,aG,aq,ao,aY,ct,cp];apply sR;simp only[go_sem,seval,az,aA,aG];refine ad λi62 Z62 ZA ZC f62=>?_;simp only[go_sem,seval];rw[WA];have XL:=aa.trans ((hs.aD z8).aD z9) ZA;have ZD:=aa.none ((hs.aD z8).aD z9) f62;exact⟨_,_,aa.refl _,Wk.refl (aa.refl _) _,XL,aU.new rfl ZC ZD⟩
 .have q1:(R<=s.atom)=False:=PF g1;rw[aH g1]at WA;apply sG;simp only[go_sem,seval,h0,a3,q1,r1,az,aA,bu,bt,ct,cp];refine Go.bZ rfl rfl rfl hfi ?_;by_cases g2:FR>=0
  .have q2:(FR>=0)=True:=PK g2;rw[aE g2]at WA;have hfr2:=SP g2;obtain⟨fn,rfl⟩:∃fn:Nat,FR=fn:=⟨FR.toNat,by omega⟩
   rw[fp]at WA;apply sG;simp only[go_sem,seval,q2];refine ae.aC rfl rfl rfl (Fj b fn (by omega) XY) ?_;apply sR;simp only[go_sem,seval,az,aA];refine ad λi77 Z77 s77 a77 f77=>?_;simp only[go_sem,seval];rw[WA];exact⟨_,_,aa.refl _,Wk.refl (aa.refl _) _,hs.trans s77,aU.new rfl a77 (hs.none f77)⟩
  .have q2:(FR>=0)=False:=PF g2;rw[aH g2]at WA;apply sG;simp only[go_sem,seval,q2];obtain⟨Rn,rfl⟩:∃Rn:Nat,R=Rn:=⟨R.toNat,by omega⟩
   have e1:((Rn:Int)).toNat=Rn:=fp _;have e2:((Rn:Int)-s.atom).toNat=Rn-k:=by omega
   rw[e1,e2]at WA;refine ae.loop (λm st=>∃(j:Nat) (v:V),j<=Rn-k/\m=Rn-k-j/\aa Z3 st.U/\aU Z3 st.U 37 3 v ((rN b Rn j).map aF)/\st.s 0=.ptr i 0 0/\st.s 3=.ptr i3 0 0/\st.s 11=v/\st.s 12=vI ((Rn-j:Nat):Int)) (Rn-k) ⟨0,.aT,by omega,rfl,aa.refl _,aU.start,rfl,rfl,rfl,rfl⟩ ?_;rintro m ⟨S,ω⟩ ⟨j,v,hj,rfl,hK,hv,t0,t3,t11,t12⟩;simp only at hK hv t0 t3 t11 t12;refine ae.mix 13 ?_;have b3:=hK _ _ a3;have b0:=hK _ _ XY;by_cases H':j<Rn-k
   .have q3:(((Rn-j:Nat):Int)>s.atom)=True:=PK;have r2:PY .i64 (((Rn-j:Nat):Int)-1):=ar;apply sR;simp only[go_sem,seval,t0,t3,t11,t12,b3,q3,az,aA];refine ae.aC rfl rfl rfl (Fj b (Rn-j) (by omega) b0) ?_;apply sR;simp only[go_sem,seval,az,aA];refine ad λi89 Z89 s89 a89 f89=>?_;obtain⟨PU,QW,QJ⟩:=hv.dst s89;have Tg:(((rN b Rn j).map aF).length+1)*25<=140737488355328:=by simp only[du,rN,List.length_range];omega
    simp only[go_sem,seval,QW,dj a89,Tg];refine ep λi90 Z90 s90 a90 f90=>?_;simp only[go_sem,seval,t12,r2];exact⟨_,by omega,j+1,.own i90 0 (((rN b Rn j).map aF).length+1),by omega,rfl,(QJ Z3 (aa.refl _) Z89 (hK.trans s89)).trans s90,by rw[B6,fC];exact aU.new (by simp) a90 ((hK.trans s89).none f90),by simp[t0,t3];omega⟩
   .have q3:(((Rn-j:Nat):Int)>s.atom)=False:=PF;apply sR;simp only[go_sem,seval,t3,t11,t12,b3,q3,az,aA];have Rf:j=Rn-k:=by omega
    rw[WA,<-Rf];exact⟨_,_,aa.refl _,Wk.refl (aa.refl _) _,hs.trans hK,hv.GZ hs⟩
open Go.Proofs Go.Proofs.Tryz
def Bw(x:Q3×PH):V.agg [vI x.1.PX,vI x.1.Qo,vI x.2.atom,vI x.2.done,.bool x.2.free]=lk x:=rfl
def uY:zn prog 37 Xm (λs:Ks=>aF s.1):=⟨HA,HJ,HS,HM⟩
def eV.C'{b:Bk}{K U:ag}{i im j:Nat}{o:Ob}(h:eV b K U i im)(hi:j≠i)(hm:j≠im)(hK:K j=none):eV b K (Vc.C' U j o) i im:=by
 obtain⟨g,⟨es,ck,ks,env,g1,g2⟩,g3⟩:=h.mp;exact⟨(ab hi.symm).trans h.row,⟨g,⟨es,ck,ks,env,(ab hm.symm).trans g1,g2⟩,g3⟩,h.ni,h.nm,h.sub.aD hK⟩
def eV.new{b:Bk}{K U:ag}{i im j:Nat}(h:eV b K U i im)(hj:U j=none):j≠i/\j≠im:=
 ⟨λe=>(by rw[e,h.row]at hj;cases hj),λe=>(by obtain⟨g,⟨es,ck,ks,env,g1,-⟩,-⟩:=h.mp;rw[e,g1]at hj;cases hj)⟩
def p7(b:Bk)(hb:bU b)(s:PH)(hm:cM b.atoms s){U:ag}{i im:Nat}(h0:U i=some (mG b im)):
 aB prog 25 [.ptr i 0 0,aF s] U λr Z'=>r=db (bE b s)/\Z'=U:=(Cw b hb s hm h0).DW λ_ _ h=>h.2.Bl h.1 rfl
def zW:Q3×PH:=(⟨0,0⟩,⟨0,0,false⟩)
def nD{b:Bk}(hb:bU b){s:PH}(hm:cM b.atoms s):(bE b s).length<=1000000:=by
 have h1:=zb hb hm;have h2:=hb.len;have h3:=hm.1.1;unfold bE;split
 .simp
 .split
  .simp
  .rw[du,List.length_range];omega
def x5(b:Bk)(hb:bU b){L:Int}(hL:fQ b L):∀(f:Nat) (s:PH),eU b s->VM b s<f->∀(K U:ag) (i im:Nat),eV b K U i im->
 aB prog 20 [.ptr i 0 0,aF s] U λr Z'=>r=lk (dD b s)/\eV b K Z' i im
 |0,s,_,h,_,_,_,_,_=>by omega
 |f+1,s,hv,hf,K,U,i,im,hJ=>by
  refine e20.r (by simp[c20]) ?_;have hs:=aa.refl U;refine ae.mix 11 ?_;apply sR;simp only[go_sem,seval,c20,bM.rt,az,aA];refine ad λi3 Z3 s3 a3 f3=>?_;have z3:=hs.none f3;replace hs:=hs.trans s3;simp only[go_sem,seval,a3,az,aA];refine ad λi4 Z4 s4 a4 f4=>?_;have XU:=al a3 f4;replace a3:=s4 _ _ a3;have z4:=hs.none f4;replace hs:=hs.trans s4;have Sy:=hJ.mono hs;simp only[go_sem,seval,a3,az,aA,aG];refine ae.aC rfl rfl rfl (qe b s Sy.row) ?_;by_cases Qm:bY b s
  .rw[Rt Qm];apply sR;simp only[go_sem,seval,a4];obtain⟨n1,n2⟩:=hJ.new z4;exact⟨_,_,aa.refl _,Wk.refl (aa.refl _) _,by rw[EI Qm];rfl,Sy.C' n1 n2 (hJ.sub.none z4)⟩
  rw[Rv Qm];have hm:cM b.atoms s:=hv.resolve_right λg=>Qm (by unfold bY;omega);have RO:=(cq hb).on s hv Qm;have hbp:=Eh hb hv Qm;have Si:=nD hb hm;have hlN:=mz (bE b s);obtain⟨g,TE,hg⟩:=hJ.mp;have h0:=Sy.row;rw[mG,qj]at h0;apply sR;simp only[go_sem,seval,bM.rt,bM.lt];have P5:okK s:=Ke hm.1.1 (by have:=hm.1.2;have:=hb.len;omega) hm.2.1 (by have:=Ct hb hm;omega);have a5:True:=trivial;cases SL:g ⟨s,P5⟩with
  |some v=>
   obtain rfl:=hg ⟨s,P5⟩ v SL;refine ae.vW (by kernel_rfl) 8 (.fork [[],[0],[1,0],[2,1,0],[],[3,4,2,1,0],[5,3,4,2,1,0],[6,5,3,4,2,1,0],[6,5,3,4,2,1,0],[],[9,7,0,1,2,3,4,5,6],[8,10,0,1,2,3,4,5,6,7,9]] [0,1,2,3,4] [5,9] [(.leaf [[],[0],[1,0],[2,1,0],[],[3,4,2,1,0],[5,3,4,2,1,0],[6,5,3,4,2,1,0],[6,5,3,4,2,1,0],[5,3,4,2,1,0],[5,3,4,2,1,0,9,7,6],[5,3,4,2,1,0,8,10,6,7,9]] [5,6,7,8,9,10,11]),(.leaf [[],[0],[1,0],[2,1,0],[],[9,3,4,2,1,0],[9,5,3,4,2,1,0],[9,6,5,3,4,2,1,0],[9,6,5,3,4,2,1,0],[],[9,7,0,1,2,3,4,5,6],[9,8,10,0,1,2,3,4,5,6,7]] [9,5,6,7,8,10,11])]) (by kernel_rfl) ?_;refine GT.lh (its:=[0,2,4,6,8]) (by kernel_rfl) ?_;refine RE.Qx (n:=0) [] [0,2,4,6,8] [⟨(.some 16),(.Qc (.t 0)),.none⟩,⟨(.some 17),(.nilCheck (.t 16)),.none⟩,⟨(.some 18),(.P9 .false 4 1 (.t 17)),.none⟩,⟨(.some 19),(.load .false 1 (.t 18)),.none⟩,⟨(.some 20),(.load .true 3 (.t 3)),.none⟩] rfl rfl ?_;apply sG;simp only[go_sem,seval,h0,a3,a5,SL,az,aA,aG,dW,dX,Option.getD_some,Option.isSome_some,ct,cp];refine⟨?_,?_⟩
   .refine GT.eS (its:=[10,12,14,16,18,20,22]) (by kernel_rfl) ?_;refine RE.look rfl rfl rfl rfl ⟨Ks,inferInstance,Xm,λs=>aF s.1,im,g,⟨s,P5⟩,uY,rfl,TE.sub hs,rfl,rfl⟩ ?_;refine RE.Qx (n:=0) [] [12,14,16,18,20,22] [⟨(.some 15),(.Qc (.t 21)),.none⟩,⟨(.some 22),(.ext 0 (.t 15)),.none⟩,⟨(.some 23),(.ext 1 (.t 15)),.none⟩,⟨(.some 5),(.alloc 66 5 (.agg [(.int .i64 0),(.int .i64 0),(.int .i64 0),(.int .i64 0),(.bool .false)])),.none⟩,⟨.none,(.store 5 (.t 5) (.t 22)),.none⟩,⟨(.some 6),(.Qc (.t 23)),.none⟩] rfl rfl ?_;apply sG;simp only[go_sem,seval,h0,a3,a5,SL,az,aA,aG,dW,dX,Option.getD_some,Option.isSome_some,ct,cp];refine bc λi5 Z5 s5 a5 f5=>?_;have Rr:=al a4 f5;have Vg:=al a3 f5;replace h0:=s5 _ _ h0;replace a3:=s5 _ _ a3;replace a4:=s5 _ _ a4;have z5:=hs.none f5;replace hs:=hs.trans s5;simp only[go_sem,seval,h0,a3,a5,SL,az,aA,aG,dW,dX,Option.getD_some,Option.isSome_some,ct,cp];generalize RC:C' _ i5 _=Y5;replace a5:=(congrFun RC i5).symm.trans af;replace a3:=((congrFun RC i3).symm.trans (ab Vg)).trans a3;replace a4:=((congrFun RC i4).symm.trans (ab Rr)).trans a4;replace hs:=Eq.subst (motive:=aa _) RC (hs.aD z5);clear RC;have SG:=hJ.mono hs;apply sR;simp only[go_sem,seval,a4,a5,dW,dX];obtain⟨n1,n2⟩:=hJ.new z4;exact⟨_,_,aa.refl _,Wk.refl (aa.refl _) _,rfl,SG.C' n1 n2 (hJ.sub.none z4)⟩
   .refine GT.eS (its:=[18,7,9,10,12,14,16,20,22]) (by kernel_rfl) ?_;refine RE.Qx (n:=0) [7,9,10,12,14,16,20,22] [18] [⟨(.some 5),(.alloc 66 5 (.agg [(.int .i64 0),(.int .i64 0),(.int .i64 0),(.int .i64 0),(.bool .false)])),.none⟩] rfl rfl ?_;apply sG;simp only[go_sem,seval,h0,a3,a5,SL,az,aA,aG,dW,dX,Option.getD_some,Option.isSome_some,ct,cp];refine bc λi5 Z5 s5 a5 f5=>?_;have Rr:=al a4 f5;have Vg:=al a3 f5;replace h0:=s5 _ _ h0;replace a3:=s5 _ _ a3;replace a4:=s5 _ _ a4;have z5:=hs.none f5;replace hs:=hs.trans s5;simp only[go_sem,seval,h0,a3,a5,SL,az,aA,aG,dW,dX,Option.getD_some,Option.isSome_some,ct,cp];refine RE.QQ rfl rfl rfl rfl rfl trivial (by simp only[go_sem,seval,h0,a3,a5,SL,az,aA,aG,dW,dX,Option.getD_some,Option.isSome_some,ct,cp]) ?_;refine RE.QQ rfl rfl rfl rfl rfl trivial (by simp only[go_sem,seval,h0,a3,a5,SL,az,aA,aG,dW,dX,Option.getD_some,Option.isSome_some,ct,cp]) ?_;refine RE.look rfl rfl rfl rfl ⟨Ks,inferInstance,Xm,λs=>aF s.1,im,g,⟨s,P5⟩,uY,rfl,TE.sub hs,rfl,rfl⟩ ?_;refine RE.Qx (n:=0) [] [12,14,16,20,22] [⟨(.some 15),(.Qc (.t 21)),.none⟩,⟨(.some 22),(.ext 0 (.t 15)),.none⟩,⟨(.some 23),(.ext 1 (.t 15)),.none⟩,⟨.none,(.store 5 (.t 5) (.t 22)),.none⟩,⟨(.some 6),(.Qc (.t 23)),.none⟩] rfl rfl ?_;apply sG;simp only[go_sem,seval,h0,a3,a5,SL,az,aA,aG,dW,dX,Option.getD_some,Option.isSome_some,ct,cp];generalize RC:C' _ i5 _=Y5;replace a5:=(congrFun RC i5).symm.trans af;replace a3:=((congrFun RC i3).symm.trans (ab Vg)).trans a3;replace a4:=((congrFun RC i4).symm.trans (ab Rr)).trans a4;replace hs:=Eq.subst (motive:=aa _) RC (hs.aD z5);clear RC;have SG:=hJ.mono hs;apply sR;simp only[go_sem,seval,a4,a5,dW,dX];obtain⟨n1,n2⟩:=hJ.new z4;exact⟨_,_,aa.refl _,Wk.refl (aa.refl _) _,rfl,SG.C' n1 n2 (hJ.sub.none z4)⟩
  |none=>
   have fin:∀(S:Nat->V) (J:ag),aa U J->J i3=some ⟨37,3,[.agg [vI s.atom,vI s.done,.bool s.free]]⟩->J i4=some ⟨66,5,[.agg [vI 0,vI 0,vI 0,vI 0,.bool false]]⟩->
    S 0=.ptr i 0 0->S 3=.ptr i3 0 0->S 4=.ptr i4 0 0->S 6=.bool false->
    ae prog 69 [It.code c20.code.rt.rt.lt.rt,It.code c20.code.rt.rt.rt] ⟨S,J⟩ λst=>TF [.cell true 5 (.t 4)] st λr Z'=>r=lk (dD b s)/\eV b K Z' i im:=by
    clear hs a3 a4 h0 TE Sy;intro S J hsZ a3 a4 t0 t3 t4 t6;have hs:=aa.refl J;refine ae.mix 11 ?_;apply sR;simp only[go_sem,seval,c20,bM.rt,bM.lt,t0,t3,t4,t6];refine ad λi7 Z7 s7 a7 f7=>?_;have X6:=al a3 f7;replace a3:=s7 _ _ a3;have n47:=al a4 f7;replace a4:=s7 _ _ a4;have z7:=hs.none f7;replace hs:=hs.trans s7;have WK:=hJ.mono (hsZ.trans hs);simp only[go_sem,seval,t0,t3,t4,a3,aG];refine ae.aC rfl rfl rfl (p7 b hb s hm WK.row) ?_;apply sR;simp only[go_sem,seval,hlN];have z7':=hsZ.none z7;obtain⟨m3,k3⟩:=hJ.new z3;obtain⟨m4,k4⟩:=hJ.new z4;obtain⟨m7,k7⟩:=hJ.new z7';have K7:=hJ.sub.none z7';have K4:=hJ.sub.none z4;have K3:=hJ.sub.none z3;have QG:(pB b s).length=(bE b s).length:=by unfold pB;rw[du]
    refine ae.loop (λm st=>∃(j:Nat) (o:Option (Q3×PH)),j<=(bE b s).length/\m=(bE b s).length-j/\(j=0/\o=none\/0<j/\∃y,o=some y)/\l3 (pB b s) none=l3 ((pB b s).drop j) o/\eV b K st.U i im/\
     st.U i3=some ⟨37,3,[.agg [vI s.atom,vI s.done,.bool s.free]]⟩/\st.U i4=some ⟨66,5,[.agg [vI 0,vI 0,vI 0,vI 0,.bool false]]⟩/\st.U i7=some ⟨66,5,[lk (o.getD zW)]⟩/\
     st.s 0=.ptr i 0 0/\st.s 3=.ptr i3 0 0/\st.s 4=.ptr i4 0 0/\st.s 7=.ptr i7 0 0/\st.s 28=db (bE b s)/\st.s 29=vI (bE b s).length/\st.s 30=vI j) (bE b s).length ⟨0,none,by omega,rfl,.inl ⟨rfl,rfl⟩,rfl,WK,a3,a4,a7,t0,t3,t4,rfl,rfl,rfl,rfl⟩ ?_
    clear a3 a4 a7 t0 t3 t4 t6 hs WK;rintro m ⟨S',ω⟩ ⟨j,o,hj,rfl,hjo,Xv,V4,a3,a4,a7,t0,t3,t4,t7,t28,t29,t30⟩;simp only at V4 a3 a4 a7 t0 t3 t4 t7 t28 t29 t30;refine ae.mix 11 ?_;by_cases H':j<(bE b s).length
    .have q:((j:Int)<(bE b s).length)=True:=PK;have O':=λU=>kW (U:=U) H';have VO:=rX (bE b s)[j];have S1:(bE b s)[j]∈bE b s:=QL H';have hcd:(pB b s).drop j=((dD b (bE b s)[j]).1.on (bN b (bE b s)[j]),(bE b s)[j])::(pB b s).drop (j+1):=by
      rw[iy (by omega)];congr 1;simp[pB]
     rw[hcd]at Xv;clear hcd;generalize (bE b s)[j]=t at*;obtain⟨vt,mt⟩:=RO t S1;obtain⟨g1,g2,g3,g4⟩:=FH hb hL vt;obtain⟨g5,g6⟩:=pO hb t;have hatt:0<=t.atom/\t.atom<b.PQ.length:=by
      have:=hb.WL;rcases vt with h|h
      .exact⟨h.1.1,by have:=h.1.2;omega⟩
      .omega
     have r1:PY .i64 ((dD b t).1.PX+1):=ar;have r2:PY .i64 ((dD b t).1.Qo+bN b t):=ar;have r3:PY .i64 ((j:Int)+1):=ar;have hC:gg ((dD b t).1.on (bN b t))=.agg [vI ((dD b t).1.PX+1),vI ((dD b t).1.Qo+bN b t)]:=rfl;have hs:=aa.refl ω;apply sR;simp only[go_sem,seval,t0,t28,t29,t30,q,O',VO,az,aA];refine ad λi9 Z9 s9 a9 f9=>?_;have n39:=al a3 f9;replace a3:=s9 _ _ a3;have n49:=al a4 f9;replace a4:=s9 _ _ a4;have VS:=al a7 f9;replace a7:=s9 _ _ a7;have z9:=hs.none f9;replace hs:=hs.trans s9;simp only[go_sem,seval,a9,t0,t28,t29,t30,az,aA];generalize Qv:C' _ i9 _=Y9;replace a9:=(congrFun Qv i9).symm.trans af;replace a3:=((congrFun Qv i3).symm.trans (ab n39)).trans a3;replace a4:=((congrFun Qv i4).symm.trans (ab n49)).trans a4;replace a7:=((congrFun Qv i7).symm.trans (ab VS)).trans a7;replace hs:=Eq.subst (motive:=aa _) Qv (hs.aD z9);clear Qv;simp only[go_sem,seval,t0,a9,aG];have QZ:=V4.mono hs;obtain⟨m9,k9⟩:=V4.new z9;refine ae.call rfl rfl rfl (x5 b hb hL f t vt (by omega) _ _ _ _ QZ.off) ?_;rintro r X2 ⟨rfl,Vk⟩;have get:∀q o,q≠i->q≠im->Y9 q=some o->X2 q=some o:=λq o h1 h2 h3=>Vk.sub _ _ (by rw[dV h1 h2];exact h3);replace a3:=get _ _ m3 k3 a3;replace a4:=get _ _ m4 k4 a4;replace a7:=get _ _ m7 k7 a7;replace a9:=get _ _ m9 k9 a9;have Xf:=Vk.less QZ.lg;clear get Vk QZ V4;replace hs:=aa.refl X2;generalize dD b t=B at*;have hW:V.agg [vI (B.1.PX+1),vI (B.1.Qo+bN b t),vI t.atom,vI t.done,.bool t.free]=lk (B.1.on (bN b t),t):=rfl;apply sR;simp only[go_sem,seval,t0,dW,dX];refine ad λQb UP Re P0 f10=>?_;have n310:=al a3 f10;replace a3:=Re _ _ a3;have Zl:=al a4 f10;replace a4:=Re _ _ a4;have UZ:=al a7 f10;replace a7:=Re _ _ a7;have VF:=al a9 f10;replace a9:=Re _ _ a9;have SS:=hs.none f10;replace hs:=hs.trans Re;simp only[go_sem,seval,P0];generalize Qs:C' _ Qb _=Y10;replace P0:=(congrFun Qs Qb).symm.trans af;replace a3:=((congrFun Qs i3).symm.trans (ab n310)).trans a3;replace a4:=((congrFun Qs i4).symm.trans (ab Zl)).trans a4;replace a7:=((congrFun Qs i7).symm.trans (ab UZ)).trans a7;replace a9:=((congrFun Qs i9).symm.trans (ab VF)).trans a9;replace hs:=Eq.subst (motive:=aa _) Qs (hs.aD SS);clear Qs;have hJ10:=Xf.mono hs;refine⟨r1,?_⟩;simp only[go_sem,seval,t0,a9,P0,az,aA,aG];refine Go.nk rfl rfl rfl (λZ1 h1=>pt b t hatt (h1 _ _ hJ10.row)) ?_;rcases hjo with⟨rfl,rfl⟩|⟨hj0,y,rfl⟩
     .have q50:(((0:Nat):Int)=0)=True:=PK rfl;apply sG;simp only[go_sem,seval,P0,r2,q50];generalize Qs:C' _ Qb _=Y10;replace P0:=(congrFun Qs Qb).symm.trans af;replace a3:=((congrFun Qs i3).symm.trans (ab n310)).trans a3;replace a4:=((congrFun Qs i4).symm.trans (ab Zl)).trans a4;replace a7:=((congrFun Qs i7).symm.trans (ab UZ)).trans a7;replace a9:=((congrFun Qs i9).symm.trans (ab VF)).trans a9;replace hs:=Eq.subst (motive:=aa _) Qs (hs.aD SS);clear Qs;have hJ11:=Xf.mono hs;rw[Option.getD_none]at a7;simp only[go_sem,seval,t0,t7,t30,a9,P0,a7,q50,r3,az,aA,dW,dX];exact⟨ar (by decide) (by decide),_,by omega,1,some (B.1.on (bN b t),t),by omega,rfl,.inr ⟨by omega,_,rfl⟩,Xv,hJ11.C' m7 k7 K7,(ab X6).trans a3,(ab n47).trans a4,rfl,by simp[t0,t3,t4,t7,t28,t29]⟩
     .have q50:((j:Int)=0)=False:=PF;apply sG;simp only[go_sem,seval,P0,r2,q50];generalize Qs:C' _ Qb _=Y10;replace P0:=(congrFun Qs Qb).symm.trans af;replace a3:=((congrFun Qs i3).symm.trans (ab n310)).trans a3;replace a4:=((congrFun Qs i4).symm.trans (ab Zl)).trans a4;replace a7:=((congrFun Qs i7).symm.trans (ab UZ)).trans a7;replace a9:=((congrFun Qs i9).symm.trans (ab VF)).trans a9;replace hs:=Eq.subst (motive:=aa _) Qs (hs.aD SS);clear Qs;have hJ11:=Xf.mono hs;rw[Option.getD_some]at a7;simp only[go_sem,seval,t0,t7,a9,P0,a7,q50,az,aA,dW,dX];refine ae.aC rfl rfl rfl (Lo (B.1.on (bN b t)) y.1 _) ?_;by_cases hl:(B.1.on (bN b t)).lt y.1
      .rw[Rt hl];apply sR;simp only[go_sem,seval,t0,t7,t30,a9,P0,a7,r3,az,aA,dW,dX];exact⟨_,by omega,j+1,some (B.1.on (bN b t),t),by omega,rfl,.inr ⟨by omega,_,rfl⟩,by rw[Xv,l3,aE hl],hJ11.C' m7 k7 K7,(ab X6).trans a3,(ab n47).trans a4,rfl,by simp[t0,t3,t4,t7,t28,t29]⟩
      .rw[Rv hl];apply sR;simp only[go_sem,seval,t30,r3];exact⟨_,by omega,j+1,some y,by omega,rfl,.inr ⟨by omega,_,rfl⟩,by rw[Xv,l3,aH hl],hJ11,a3,a4,by rw[Option.getD_some];exact a7,by simp[t0,t3,t4,t7,t28,t29]⟩
    .have q:((j:Int)<(bE b s).length)=False:=PF
     (refine ae.bL Rd.nothing 8 ?_;simp only[go_sem,seval,pd,t0,t3,t4,t7,t29,t30,q])
     have Rf:j=(bE b s).length:=by omega
     have hoe:o.getD zW=dD b s:=by rw[hbp,Xv,Rf,<-QG,qx];rfl
     rw[hoe]at a7;have h0:=V4.row;obtain⟨gω,hmZ,hgZ⟩:=V4.mp;rw[mG,qj]at h0;refine ae.Oy [6] rfl (XC.go 6 ?_);apply sG;simp only[go_sem,seval,t0,t3,t7,h0,a3,a7,az,aA,aG,dW,dX,Bw,ct,cp,Bo,List.take_zero];refine XC.ta (a:=⟨s,P5⟩) (by decide) rfl rfl uY rfl hmZ rfl rfl ?_;intro ob Q5 Yy;refine XC.nil ?_;have b4:=(ab (o:=ob) k4).trans a4;have b7:=(ab (o:=ob) k7).trans a7;have hJe:eV b K (Vc.C' ω im ob) i im:=⟨(ab V4.ne).trans V4.row,⟨_,Yy,λs' v' hh=>by
      by_cases Tc:(⟨s,P5⟩:Ks)=s'
      .rw[aE Tc]at hh;rw[<-Tc];exact(Option.some.inj hh).symm
      .rw[aH Tc]at hh;exact hgZ s' v' hh⟩,V4.ni,V4.nm,V4.sub.aD V4.nm⟩
     apply sR;simp only[go_sem,seval,t4,t7,b4,b7,dW,dX];exact⟨_,_,aa.refl _,Wk.refl (aa.refl _) _,rfl,hJe.C' m4 k4 K4⟩
   refine ae.vW (by kernel_rfl) 8 (.fork [[],[0],[1,0],[2,1,0],[],[3,4,2,1,0],[5,3,4,2,1,0],[6,5,3,4,2,1,0],[6,5,3,4,2,1,0],[],[9,7,0,1,2,3,4,5,6],[8,10,0,1,2,3,4,5,6,7,9]] [0,1,2,3,4] [5,9] [(.leaf [[],[0],[1,0],[2,1,0],[],[3,4,2,1,0],[5,3,4,2,1,0],[6,5,3,4,2,1,0],[6,5,3,4,2,1,0],[5,3,4,2,1,0],[5,3,4,2,1,0,9,7,6],[5,3,4,2,1,0,8,10,6,7,9]] [5,6,7,8,9,10,11]),(.leaf [[],[0],[1,0],[2,1,0],[],[9,3,4,2,1,0],[9,5,3,4,2,1,0],[9,6,5,3,4,2,1,0],[9,6,5,3,4,2,1,0],[],[9,7,0,1,2,3,4,5,6],[9,8,10,0,1,2,3,4,5,6,7]] [9,5,6,7,8,10,11])]) (by kernel_rfl) ?_;refine GT.lh (its:=[0,2,4,6,8]) (by kernel_rfl) ?_;refine RE.Qx (n:=0) [] [0,2,4,6,8] [⟨(.some 16),(.Qc (.t 0)),.none⟩,⟨(.some 17),(.nilCheck (.t 16)),.none⟩,⟨(.some 18),(.P9 .false 4 1 (.t 17)),.none⟩,⟨(.some 19),(.load .false 1 (.t 18)),.none⟩,⟨(.some 20),(.load .true 3 (.t 3)),.none⟩] rfl rfl ?_;apply sG;simp only[go_sem,seval,h0,a3,a5,SL,az,aA,aG,Option.getD_none,Option.isSome_none,ct,cp];refine⟨?_,?_⟩
   .refine GT.eS (its:=[10,12,14,16,18,20,22]) (by kernel_rfl) ?_;refine RE.look rfl rfl rfl rfl ⟨Ks,inferInstance,Xm,λs=>aF s.1,im,g,⟨s,P5⟩,uY,rfl,TE.sub hs,rfl,rfl⟩ ?_;refine RE.Qx (n:=0) [] [12,14,16,18,20,22] [⟨(.some 15),(.Qc (.t 21)),.none⟩,⟨(.some 22),(.ext 0 (.t 15)),.none⟩,⟨(.some 23),(.ext 1 (.t 15)),.none⟩,⟨(.some 5),(.alloc 66 5 (.agg [(.int .i64 0),(.int .i64 0),(.int .i64 0),(.int .i64 0),(.bool .false)])),.none⟩,⟨.none,(.store 5 (.t 5) (.t 22)),.none⟩,⟨(.some 6),(.Qc (.t 23)),.none⟩] rfl rfl ?_;apply sG;simp only[go_sem,seval,h0,a3,a5,SL,az,aA,aG,Option.getD_none,Option.isSome_none,ct,cp];refine bc λi5 Z5 s5 a5 f5=>?_;have Rr:=al a4 f5;have Vg:=al a3 f5;replace h0:=s5 _ _ h0;replace a3:=s5 _ _ a3;replace a4:=s5 _ _ a4;have z5:=hs.none f5;replace hs:=hs.trans s5;simp only[go_sem,seval,h0,a3,a5,SL,az,aA,aG,Option.getD_none,Option.isSome_none,ct,cp];exact fin _ _ (hs.aD z5) ((ab Vg).trans a3) ((ab Rr).trans a4) rfl rfl rfl rfl
   .refine GT.eS (its:=[18,7,9,10,12,14,16,20,22]) (by kernel_rfl) ?_;refine RE.Qx (n:=0) [7,9,10,12,14,16,20,22] [18] [⟨(.some 5),(.alloc 66 5 (.agg [(.int .i64 0),(.int .i64 0),(.int .i64 0),(.int .i64 0),(.bool .false)])),.none⟩] rfl rfl ?_;apply sG;simp only[go_sem,seval,h0,a3,a5,SL,az,aA,aG,Option.getD_none,Option.isSome_none,ct,cp];refine bc λi5 Z5 s5 a5 f5=>?_;have Rr:=al a4 f5;have Vg:=al a3 f5;replace h0:=s5 _ _ h0;replace a3:=s5 _ _ a3;replace a4:=s5 _ _ a4;have z5:=hs.none f5;replace hs:=hs.trans s5;simp only[go_sem,seval,h0,a3,a5,SL,az,aA,aG,Option.getD_none,Option.isSome_none,ct,cp];refine RE.QQ rfl rfl rfl rfl rfl trivial (by simp only[go_sem,seval,h0,a3,a5,SL,az,aA,aG,Option.getD_none,Option.isSome_none,ct,cp]) ?_;refine RE.QQ rfl rfl rfl rfl rfl trivial (by simp only[go_sem,seval,h0,a3,a5,SL,az,aA,aG,Option.getD_none,Option.isSome_none,ct,cp]) ?_;refine RE.look rfl rfl rfl rfl ⟨Ks,inferInstance,Xm,λs=>aF s.1,im,g,⟨s,P5⟩,uY,rfl,TE.sub hs,rfl,rfl⟩ ?_;refine RE.Qx (n:=0) [] [12,14,16,20,22] [⟨(.some 15),(.Qc (.t 21)),.none⟩,⟨(.some 22),(.ext 0 (.t 15)),.none⟩,⟨(.some 23),(.ext 1 (.t 15)),.none⟩,⟨.none,(.store 5 (.t 5) (.t 22)),.none⟩,⟨(.some 6),(.Qc (.t 23)),.none⟩] rfl rfl ?_;apply sG;simp only[go_sem,seval,h0,a3,a5,SL,az,aA,aG,Option.getD_none,Option.isSome_none,ct,cp];exact fin _ _ (hs.aD z5) ((ab Vg).trans a3) ((ab Rr).trans a4) rfl rfl rfl rfl
open Go.Proofs Go.Proofs.Tryz
def Tz(l:List Nd)(w h:Int):Int:=if gN l w h≠0 then gN l w h else if((bJ l w h).P6.length:Int)>0 then 4 else 0
def lO{l:List Nd}{w h:Int}(h0:Tz l w h=0):gN l w h=0/\(bJ l w h).P6=[]:=by
 unfold Tz at h0;split at h0
 .rename_i g;exact absurd h0 g
 .rename_i g;split at h0
  .cases h0
  .rename_i g2;exact⟨Decidable.byContradiction g,qK (by omega)⟩
def A5(l:List Nd)(hl:ed l)(w h:Int)(h0:Tz l w h≠0):bb prog 19 [aQ l,vI w,vI h] (.PN [.Uu,vI (Tz l w h)]):=λU=>by
 refine e19.r (by simp[c19]) ?_;have hs:=aa.refl U;have hn:=FW l hl w h;unfold AU at hn;refine ae.mix 11 ?_;apply sR;simp only[go_sem,seval,c19];refine ae.aC rfl rfl rfl (hn _) ?_;unfold Tz at h0|-;by_cases he:gN l w h=0
 .have hb:=gI hl he;rw[aH (show¬(gN l w h≠0)from λk=>k he)]at h0|-;rw[aE he,he];generalize bJ l w h=b at*;have VZ:=fP b.P6;by_cases hf:(b.P6.length:Int)>0
  .rw[aE hf];have q1:((0:Int)≠0)=False:=PF λh=>h rfl;have q2:((b.P6.length:Int)>0)=True:=PK hf;have WC:(ru b).cells=[bH b.atoms,aS b.P6,vI b.PM]:=rfl;have SL:(ru b).stays=true:=rfl;apply sR;simp only[go_sem,seval,q1];refine ae.aC rfl rfl rfl (qP b hb.toBkFull _) ?_;apply sR;simp only[go_sem,seval,WC,SL];refine ad λQb UP Re P0 f10=>?_;have SS:=hs.none f10;replace hs:=hs.trans Re;simp only[go_sem,seval,P0,WC,SL,VZ,q2,aq,ao,aO,aP];exact av.pure (hs.aD SS) rfl
  .rw[aH hf]at h0;exact absurd rfl h0
 .rw[aE (show gN l w h≠0 from he)]at h0|-;have q1:(gN l w h≠0)=True:=PK he;rw[aH he];generalize gN l w h=E at*;apply sR;simp only[go_sem,seval,q1];exact av.same rfl
def pq(l:List Nd)(hl:ed l)(w h:Int)(h0:Tz l w h=0)(U:ag):
 aB prog 19 [aQ l,vI w,vI h] U λr Z'=>∃i im,r=.PN [.ptr i 0 0,vI 0]/\eV (bJ l w h) U Z' i im:=by
 refine e19.r (by simp[c19]) ?_;have hs:=aa.refl U;obtain⟨he,hf⟩:=lO h0;have hn:=FW l hl w h;unfold AU at hn;rw[aE he,he]at hn;have hb:=gI hl he;have To:(bJ l w h).nodes=l:=rfl;have hbh:(bJ l w h).h=h:=rfl;clear h0;generalize bJ l w h=b at*;subst To;subst hbh;have VZ:=fP b.P6;have q1:((0:Int)≠0)=False:=PF λh=>h rfl;have q2:((b.P6.length:Int)>0)=False:=PF (by rw[hf];decide);have WC:(ru b).cells=[bH b.atoms,aS b.P6,vI b.PM]:=rfl;have SL:(ru b).stays=true:=rfl;refine ae.mix 11 ?_;apply sR;simp only[go_sem,seval,c19];refine ae.aC rfl rfl rfl (hn _) ?_;apply sR;simp only[go_sem,seval,q1];refine ae.aC rfl rfl rfl (qP b hb.toBkFull _) ?_;apply sR;simp only[go_sem,seval,WC,SL];refine ad λQb UP Re P0 f10=>?_;have SS:=hs.none f10;replace hs:=hs.trans Re;simp only[go_sem,seval,P0,WC,SL,aq,ao,aO,aP];generalize Qs:C' _ Qb _=Y10;replace P0:=(congrFun Qs Qb).symm.trans af;replace hs:=Eq.subst (motive:=aa _) Qs (hs.aD SS);clear Qs;simp only[go_sem,seval,P0,WC,SL,VZ,q2,aq,ao,aO,aP];refine ae.vW (by kernel_rfl) 8 (.fork [[],[],[1],[],[3],[],[],[0,2,4,5,6,1,3],[7,0,2,4,5,6,1,3],[8,4,0,1,2,3,5,6,7],[9,0,1,2,3,4,5,6,7,8]] [0,1,2,3,5] [4,6] [(.leaf [[],[],[1],[],[3],[],[4,3],[4,3,0,2,5,6,1],[4,3,7,0,2,5,6,1],[4,3,8,0,1,2,5,6,7],[4,3,9,0,1,2,5,6,7,8]] [4,6,7,8,9,10]),(.leaf [[],[],[1],[],[6,3],[],[],[6,0,2,4,5,1,3],[6,7,0,2,4,5,1,3],[6,8,4,0,1,2,3,5,7],[6,9,0,1,2,3,4,5,7,8]] [6,4,7,8,9,10])]) (by kernel_rfl) ?_;refine GT.lh (its:=[0,2,4,6,10]) (by kernel_rfl) ?_;refine RE.Qx (n:=0) [] [0,2,4,6,10] [⟨(.some 27),(.Qc (.t 0)),.none⟩,⟨(.some 28),(.P9 .false 0 1 (.t 10)),.none⟩,⟨(.some 29),(.load .false 1 (.t 28)),.none⟩,⟨(.some 30),(.Qc (.t 8)),.none⟩,⟨(.some 32),(.Qc (.t 2)),.none⟩] rfl rfl ?_;apply sG;simp only[go_sem,seval,P0,WC,SL,ai,aJ,aq,ao,aO,aP,bu,bt,ct,cp];refine⟨?_,?_⟩
 .refine GT.eS (its:=[8,5,12,5,14,16,18,20]) (by kernel_rfl) ?_;refine RE.aC rfl rfl rfl rfl rfl (rB b hb.toBkFull _) ?_;refine RE.QQ rfl rfl rfl rfl rfl trivial (by simp only[go_sem,seval,P0,WC,SL,ai,aJ,aq,ao,aO,aP,bu,bt,ct,cp]) ?_;refine RE.mkMap rfl rfl rfl rfl λim him=>?_;replace P0:=(ab (o:=gh (.map #[] 0) []) (al P0 him)).trans P0;have zm:=hs.none him;replace hs:=hs.aD (o:=gh (.map #[] 0) []) zm;refine RE.QQ rfl rfl rfl rfl rfl trivial (by simp only[go_sem,seval,P0,WC,SL,ai,aJ,aq,ao,aO,aP,bu,bt,ct,cp]) ?_;refine RE.Qx (n:=0) [] [14,16,18,20] [⟨(.some 34),(.build [.aT,.aT,.aT,(.int .i64 0),(.raw (.map .none))] [(0,(1,(.t 27))),(1,(1,(.t 29))),(2,(1,(.t 31))),(3,(1,(.t 32))),(4,(1,(.t 33)))]),.none⟩,⟨(.some 35),(.box 81 5 (.t 34)),.none⟩,⟨(.some 6),(.Qc (.t 35)),.none⟩,⟨(.some 7),(.Qc (.c (.int .i64 0))),.none⟩] rfl rfl ?_;apply sG;simp only[go_sem,seval,P0,WC,SL,ai,aJ,aq,ao,aO,aP,bu,bt,ct,cp];refine bc λi35 Z35 s35 a35 f35=>?_;have z35:=hs.none f35;replace hs:=hs.trans s35;simp only[go_sem,seval,P0,WC,SL,ai,aJ,aq,ao,aO,aP,bu,bt,ct,cp];apply sR;simp only[go_sem,seval];exact⟨_,_,aa.refl _,Wk.refl (aa.refl _) _,i35,im,rfl,a35,⟨λ_=>none,nU.nil Xm (s35 _ _ af),λs v h=>by cases h⟩,z35,zm,hs⟩
 .refine GT.eS (its:=[12,5,8,5,14,16,18,20]) (by kernel_rfl) ?_;refine RE.mkMap rfl rfl rfl rfl λim him=>?_;replace P0:=(ab (o:=gh (.map #[] 0) []) (al P0 him)).trans P0;have zm:=hs.none him;replace hs:=hs.aD (o:=gh (.map #[] 0) []) zm;refine RE.QQ rfl rfl rfl rfl rfl trivial (by simp only[go_sem,seval,P0,WC,SL,ai,aJ,aq,ao,aO,aP,bu,bt,ct,cp]) ?_;refine RE.aC rfl rfl rfl rfl rfl (rB b hb.toBkFull _) ?_;refine RE.QQ rfl rfl rfl rfl rfl trivial (by simp only[go_sem,seval,P0,WC,SL,ai,aJ,aq,ao,aO,aP,bu,bt,ct,cp]) ?_;refine RE.Qx (n:=0) [] [14,16,18,20] [⟨(.some 34),(.build [.aT,.aT,.aT,(.int .i64 0),(.raw (.map .none))] [(0,(1,(.t 27))),(1,(1,(.t 29))),(2,(1,(.t 31))),(3,(1,(.t 32))),(4,(1,(.t 33)))]),.none⟩,⟨(.some 35),(.box 81 5 (.t 34)),.none⟩,⟨(.some 6),(.Qc (.t 35)),.none⟩,⟨(.some 7),(.Qc (.c (.int .i64 0))),.none⟩] rfl rfl ?_;apply sG;simp only[go_sem,seval,P0,WC,SL,ai,aJ,aq,ao,aO,aP,bu,bt,ct,cp];refine bc λi35 Z35 s35 a35 f35=>?_;have z35:=hs.none f35;replace hs:=hs.trans s35;simp only[go_sem,seval,P0,WC,SL,ai,aJ,aq,ao,aO,aP,bu,bt,ct,cp];apply sR;simp only[go_sem,seval];exact⟨_,_,aa.refl _,Wk.refl (aa.refl _) _,i35,im,rfl,a35,⟨λ_=>none,nU.nil Xm (s35 _ _ af),λs v h=>by cases h⟩,z35,zm,hs⟩
open Go.Proofs Go.Proofs.Tryz
def eV.neR{b:Bk}{K U:ag}{i im a e:Nat}{rows:List V}(h:eV b K U i im)(ha:U a=some ⟨e,3,rows⟩):a≠i/\a≠im:=
 ⟨λg=>(by rw[g,h.row]at ha;simp[mG]at ha),λg=>(by obtain⟨_,⟨es,ck,ks,env,g1,-⟩,-⟩:=h.mp;rw[g,g1]at ha;simp[gh]at ha)⟩
def aU.neD{b:Bk}{K K' U:ag}{i im e a n:Nat}{v:V}{rows:List V}(ho:aU K U e 3 v rows)(h:eV b K' U i im)(hv:v=.own a 0 n):a≠i/\a≠im:=by
 rcases ho with⟨h1,-⟩|⟨id,h1,h2,-⟩
 .rw[h1]at hv;cases hv
 .rw[h1]at hv;cases hv;exact h.neR h2
def eV.del{b:Bk}{K U:ag}{i im:Nat}{PU:Option Nat}(h:eV b K U i im)(h1:∀a,PU=some a->(a≠i/\a≠im)/\K a=none):eV b K (Vc.bI U PU) i im:=by
 cases PU with
 |none=>exact h
 |some a=>
  obtain⟨⟨n1,n2⟩,n3⟩:=h1 a rfl;obtain⟨g,⟨es,ck,ks,env,g1,g2⟩,g3⟩:=h.mp;exact⟨(dN n1.symm).trans h.row,⟨g,⟨es,ck,ks,env,(dN n2.symm).trans g1,g2⟩,g3⟩,h.ni,h.nm,h.sub.Gb n3⟩
def zf{b:Bk}(hb:bU b){L:Int}(hL:fQ b L){n:Nat}{s:PH}(hv:eU b s)(h:(n:Int)*L+jk b L s<=jk b L ⟨0,0,true⟩):n<=100000:=by
 have h0:=tH hb hL hv;have hL1:=hL.pos;have Ss:=hL.rest;have hna:=hL.na;have hm:((b.atoms.length:Int)-0)*L<=10000*L:=Int.mul_le_mul_of_nonneg_right (by omega) (by omega);have hp:jk b L ⟨0,0,true⟩<=42768*L:=by
  unfold jk;simp only[Int.toNat_zero];omega
 refine Decidable.byContradiction λhc=>?_;have:=Int.mul_le_mul_of_nonneg_right (show(100001:Int)<=n by omega) (show 0<=L by omega);omega
def Cu(b:Bk)(hb:bU b){L:Int}(hL:fQ b L){K0 U:ag}{i im:Nat}(hJ:eV b K0 U i im)(fn:FuncId)(caps:List V)(on:PH->PH)(QU:∀s,eU b s->¬bY b s->on s∈bE b s)
 (hf:∀(J:ag) (s:PH),eU b s->¬bY b s->eV b (qX U i im) J i im->aB prog fn (aF s::caps) J λr X'=>r=aF (on s)/\eV b (qX J i im) X' i im):
 aB prog 21 [.ptr i 0 0,.fn fn caps] U λr Z'=>eV b (qX U i im) Z' i im/\aU (qX U i im) Z' 37 3 r ((jy b on gS ⟨0,0,true⟩).map aF):=by
 refine e21.r (by simp[c21]) ?_;have hs:=aa.refl U;refine ae.mix 7 ?_;apply sR;simp only[go_sem,seval,c21];refine ad λi6 Z6 s6 a6 f6=>?_;have z6:=hs.none f6;replace hs:=hs.trans s6;simp only[go_sem,seval,a6];generalize XI:C' _ i6 _=Y6;replace a6:=(congrFun XI i6).symm.trans af;replace hs:=Eq.subst (motive:=aa _) XI (hs.aD z6);clear XI;have Uk:=hJ.off.mono hs;refine ae.loop (λm st=>∃(s:PH) (pre:List PH) (v:V) (i6 f:Nat),m=VM b s/\eU b s/\VM b s<f/\jy b on gS ⟨0,0,true⟩=pre++jy b on f s/\(pre.length:Int)*L+jk b L s<=jk b L ⟨0,0,true⟩/\
  eV b (qX U i im) st.U i im/\aU (qX U i im) st.U 37 3 v (pre.map aF)/\(∀n,v≠.own i6 0 n)/\st.U i6=some ⟨37,3,[aF s]⟩/\st.s 0=.ptr i 0 0/\st.s 1=.fn fn caps/\st.s 5=v/\st.s 6=.ptr i6 0 0)
  (VM b ⟨0,0,true⟩) ⟨⟨0,0,true⟩,[],.aT,i6,gS,rfl,fL b hb,qQ hb,rfl,by simp,Uk,aU.start,λn h=>(by cases h),a6,rfl,rfl,rfl,rfl⟩ ?_
 clear a6 z6 Uk hs;rintro m ⟨S,ω⟩ ⟨s,pre,v,i6,f,rfl,hv,hmf,QF,Yc,V4,ho,YG,a6,t0,t1,t5,t6⟩;simp only at V4 ho a6 t0 t1 t5 t6;obtain⟨f,rfl⟩:∃f',f=f'+1:=⟨f-1,by omega⟩
 rw[jy]at QF;refine ae.mix 7 ?_;apply sR;simp only[go_sem,seval,t0,t6,a6,az,aA,aG];refine ae.aC rfl rfl rfl (qe b s V4.row) ?_;by_cases Qm:bY b s
 .rw[Rt Qm];rw[aE Qm,kL]at QF;apply sR;simp only[go_sem,seval,t5,Bool.not_true];rw[QF];exact⟨_,_,aa.refl _,Wk.refl (aa.refl _) _,V4,ho⟩
 .rw[Rv Qm];rw[aH Qm]at QF;have S1:=QU s hv Qm;obtain⟨vt,mt⟩:=(cq hb).on s hv Qm _ S1;have Qi:=tV hb hL hv Qm S1;have TY:=zf hb hL hv Yc;apply sR;simp only[go_sem,seval,t5,t6,a6,Bool.not_false,az,aA,aG];refine ad λVY Y17 U1 SB f17=>?_;obtain⟨PU,QW,Ts⟩:=ho.J4 U1;have Tg:((pre.map aF).length+1)*25<=140737488355328:=by rw[du];omega
  simp only[go_sem,seval,QW,dj SB,Tg];refine ep λi18 Z18 XJ TJ f18=>?_;have hJ17:=V4.mono U1;have hJ18:=(hJ17.del λa ha=>⟨ho.neD V4 (Ts a ha).2.2,(Ts a ha).1⟩).mono XJ;have k18:=hJ17.sub.none f18;obtain⟨m18,m18'⟩:=hJ17.new f18;replace a6:Z18 i6=some ⟨37,3,[aF s]⟩:=XJ _ _ (by
   cases PU with
   |none=>exact U1 _ _ a6
   |some a=>exact(dN λg=>YG _ (by rw[g];exact(Ts a rfl).2.2)).trans (U1 _ _ a6))
  have hs:=aa.refl Z18;simp only[go_sem,seval,t6,a6,az,aA,aG];refine ad λi20 Z20 s20 a20 f20=>?_;have ZE:=al TJ f20;replace TJ:=s20 _ _ TJ;have z20:=hs.none f20;replace hs:=hs.trans s20;simp only[go_sem,seval,a20,az,aA,aG];generalize hq20:C' _ i20 _=Y20;replace a20:=(congrFun hq20 i20).symm.trans af;replace TJ:=((congrFun hq20 i18).symm.trans (ab ZE)).trans TJ;replace hs:=Eq.subst (motive:=aa _) hq20 (hs.aD z20);clear hq20;simp only[go_sem,seval,t1,a20,az,aA,aG];have hJ20:=hJ18.mono hs;obtain⟨m20,m20'⟩:=hJ18.new z20;have k20:=hJ18.sub.none z20;refine ae.call rfl rfl rfl (hf Y20 s hv Qm hJ20) ?_;rintro r X' ⟨rfl,RK⟩;replace a20:=RK.sub _ _ ((dV m20 m20').trans a20);replace TJ:=RK.sub _ _ ((dV m18 m18').trans TJ);have Vk:=RK.less hJ20.lg;apply sR;simp only[go_sem,seval,a20,az,aA];exact⟨_,mt,on s,pre++[s],.own i18 0 ((pre.map aF).length+1),i20,f,rfl,vt,by omega,by rw[QF,ly];rfl,by rw[gY,List.length_singleton,Int.natCast_add,Int.add_mul];simp only[Int.natCast_one,Int.one_mul];omega,Vk.C' m20 m20' k20,
   by rw[fC];exact aU.new (by simp) ((ab ZE).trans TJ) k18,λn h=>(by cases h;exact ZE rfl),af,by simp[t0,t1]⟩
open Go.Proofs Go.Proofs.Tryz
def pE{s:Nat->V}{U:ag}{a1:Bool}{n1 d e t:Nat}{Post:V->ag->Prop}:
 TF [.tmp (.t t),.cell a1 n1 (.t d),.tmp (.t e)] ⟨s,U⟩ Post=dq (cj U a1 n1 (s d)) λv=>av (.PN [s t,v,s e]) U Post:=by
 unfold TF av qF;simp only[gM,iU,VX.ev];cases cj U a1 n1 (s d)<;>simp[dq]
def G0(x:Q3×PH):jj true 2 3 (lk x)=some (aF x.2):=rfl
def Ed(x:Q3×PH):jj true 0 2 (lk x)=some (gg x.1):=rfl
def Lf(b:Bk)(hb:bU b){L:Int}(hL:fQ b L)(s:PH)(hv:eU b s){K J:ag}{i im i9:Nat}(hJ:eV b K J i im)(a9:J i9=some ⟨62,1,[.ptr i 0 0]⟩):
 aB prog 22 [aF s,.ptr i9 0 0] J λr X'=>r=aF (dD b s).2/\eV b K X' i im:=by
 refine e22.r (by simp[c22]) ?_;have hs:=aa.refl J;refine ae.mix 4 ?_;apply sR;simp only[go_sem,seval,c22,az,aA];refine ad λi2 Z2 s2 a2 f2=>?_;have n92:=al a9 f2;replace a9:=s2 _ _ a9;have z2:=hs.none f2;replace hs:=hs.trans s2;simp only[go_sem,seval,a2];refine ad λi3 Z3 s3 a3 f3=>?_;have n23:=al a2 f3;replace a2:=s3 _ _ a2;have n93:=al a9 f3;replace a9:=s3 _ _ a9;have z3:=hs.none f3;replace hs:=hs.trans s3;have Xf:=hJ.mono hs;obtain⟨n3,n3'⟩:=hJ.new z3;have k3:=hJ.sub.none z3;simp only[go_sem,seval,a9,a2,az,aA,aG];refine ae.call rfl rfl rfl (x5 b hb hL (VM b s+1) s hv (by omega) _ _ _ _ Xf.off) ?_;rintro r Y2 ⟨rfl,Vk⟩;replace a3:=Vk.sub _ _ ((dV n3 n3').trans a3);have Sy:=Vk.less Xf.lg;apply sR;simp only[BB,seval,<-decide_not,bx,fb,aM,dn,dk,dp,dv,dG,bO,fG,bz,eR,dr,eQ,cP,cD,bR,gW,cm,cA,cd,QS,jv,cV,bP,jX,cX,bX,cQ,cC,jf,binBV,bK,cW,Rd.nothing,a3,G0,az,aA,V.gB,V.gC,V.fw,V.gy,V.iF,V.gz,V.fj,V.iR,V.gA,V.iP,V.gx,V.gG,V.fq,V.gE,V.iM,V.gF,V.fA,V.iC,V.gH,V.iB];exact⟨_,_,aa.refl _,Wk.refl (aa.refl _) _,rfl,Sy.C' n3 n3' k3⟩
def Hd{b:Bk}(hb:bU b)(s:PH)(hv:eU b s)(hf:¬bY b s):(dD b s).2∈bE b s:=by
 obtain⟨A,t,B,e1,e2,-⟩:=ra (rank:=bN b) (dflt:=(⟨0,0,false⟩:PH)) (cq hb) hv (tt hb hv) hf;unfold dD;rw[e2,e1];simp
def Nf(l:List Nd)(hl:ed l)(w h:Int)(h0:Tz l w h≠0):bb prog 7 [aQ l,vI w,vI h] (.PN [.aT,gg ⟨0,0⟩,vI (Tz l w h)]):=λU=>by
 refine e7.r (by simp[c7]) ?_;have hs:=aa.refl U;have hc:=A5 l hl w h h0;have q1:(Tz l w h≠0)=True:=PK h0;generalize Tz l w h=E at*;refine ae.mix 10 ?_;apply sR;simp only[go_sem,seval,c7];refine ad λi7 Z7 s7 a7 f7=>?_;have z7:=hs.none f7;replace hs:=hs.trans s7;simp only[go_sem,seval,a7];refine ae.aC rfl rfl rfl (hc _) ?_;apply sR;simp only[go_sem,seval];refine ad λi9 Z9 s9 a9 f9=>?_;have VS:=al a7 f9;replace a7:=s9 _ _ a7;have z9:=hs.none f9;replace hs:=hs.trans s9;simp only[go_sem,seval,a9,q1];generalize Qv:C' _ i9 _=Y9;replace a9:=(congrFun Qv i9).symm.trans af;replace a7:=((congrFun Qv i7).symm.trans (ab VS)).trans a7;replace hs:=Eq.subst (motive:=aa _) Qv (hs.aD z9);clear Qv;simp only[go_sem,seval,a7,q1,pE];exact av.pure (hs.aD z7) rfl
def Na(l:List Nd)(hl:ed l)(w h:Int)(h0:Tz l w h=0)(U:ag):
 aB prog 7 [aQ l,vI w,vI h] U λr Z'=>∃v,r=.PN [v,gg (dD (bJ l w h) ⟨0,0,true⟩).1,vI 0]/\aa U Z'/\aU U Z' 37 3 v ((AJ (bJ l w h)).map aF):=by
 refine e7.r (by simp[c7]) ?_;have hs:=aa.refl U;have hc:=λU=>pq l hl w h h0 U;obtain⟨he,-⟩:=lO h0;have hb:=gI hl he;have hL:=ju he;generalize bJ l w h=b at*;have q0:((0:Int)≠0)=False:=PF λh=>h rfl;refine ae.mix 10 ?_;apply sR;simp only[go_sem,seval,c7,bM.rt];refine ad λi7 Z7 s7 a7 f7=>?_;have z7:=hs.none f7;replace hs:=hs.trans s7;simp only[go_sem,seval,a7];refine ae.call rfl rfl rfl (hc _) ?_;rintro r Z1 ⟨i,im,rfl,hJ⟩;obtain⟨m7,m7'⟩:=hJ.neK a7;replace a7:=hJ.sub _ _ a7;replace hJ:=hJ.less hs;replace hs:=aa.refl Z1;apply sR;simp only[go_sem,seval];refine ad λi9 Z9 s9 a9 f9=>?_;have VS:=al a7 f9;replace a7:=s9 _ _ a7;have z9:=hs.none f9;replace hs:=hs.trans s9;obtain⟨m9,m9'⟩:=hJ.new z9;have k9:=hJ.sub.none z9;simp only[go_sem,seval,a9,q0];generalize Qv:C' _ i9 _=Y9;replace a9:=(congrFun Qv i9).symm.trans af;replace a7:=((congrFun Qv i7).symm.trans (ab VS)).trans a7;replace hs:=Eq.subst (motive:=aa _) Qv (hs.aD z9);clear Qv;have QZ:=hJ.mono hs;refine ae.call rfl rfl rfl (x5 b hb hL gS ⟨0,0,true⟩ (fL b hb) (qQ hb) _ _ _ _ QZ.off) ?_;rintro r Z2 ⟨rfl,Vk⟩;replace a7:=Vk.sub _ _ ((dV m7 m7').trans a7);replace a9:=Vk.sub _ _ ((dV m9 m9').trans a9);have Xf:=Vk.less QZ.lg;clear Vk QZ hJ hs;have QU:=Hd hb;apply sR;simp only[BB,seval,<-decide_not,bx,fb,aM,dn,dk,dp,dv,dG,bO,fG,bz,eR,dr,eQ,cP,cD,bR,gW,cm,cA,cd,QS,jv,cV,bP,jX,cX,bX,cQ,cC,jf,binBV,bK,cW,Rd.nothing,a7,Ed,bl,bj,V.gB,V.gC,V.fw,V.gy,V.iF,V.gz,V.fj,V.iR,V.gA,V.iP,V.gx,V.gG,V.fq,V.gE,V.iM,V.gF,V.fA,V.iC,V.gH,V.iB];have Sy:=Xf.C' (o:=⟨28,2,[gg (dD b ⟨0,0,true⟩).1]⟩) m7 m7' z7;generalize hq:C' Z2 i7 ⟨28,2,[gg (dD b ⟨0,0,true⟩).1]⟩=Y7 at*;replace a7:=(congrFun hq i7).symm.trans af;replace a9:=((congrFun hq i9).symm.trans (ab VS.symm)).trans a9;clear hq Xf;refine ae.vW (by kernel_rfl) 8 (.leaf [[],[],[0,1],[],[2,0,1],[3,4,0,1,2],[5,0,1,2,3,4]] [0,1,3,2,4,5,6]) (by kernel_rfl) ?_;refine GT.eS (its:=[0,2,6,4,7,8,10,12]) (by kernel_rfl) ?_;refine RE.Qx (n:=0) [4,7,8,10,12] [0,2,6] [⟨(.some 25),(.load .false 1 (.t 9)),.none⟩,⟨(.some 26),(.WN 22 [(.t 9)]),.none⟩,⟨(.some 28),(.load .true 2 (.t 7)),.none⟩] rfl rfl ?_;apply sG;simp only[go_sem,seval,a7,a9,bl,bj];refine RE.call rfl rfl rfl rfl rfl (Cu b hb hL Sy _ _ (λs=>(dD b s).2) QU (λJ s hv hf hJY=>Lf b hb hL s hv hJY.off (hJY.sub _ _ ((dV m9 m9').trans a9)))) ?_;rintro v Z3 ⟨SG,ho⟩;have k7:qX Y7 i im i7≠none:=by rw[dV m7 m7',a7];simp
 replace a7:=SG.sub _ _ ((dV m7 m7').trans a7);replace a9:=SG.sub _ _ ((dV m9 m9').trans a9);refine RE.QQ rfl rfl rfl rfl rfl trivial (by simp only[go_sem,seval,a7,a9,bl,bj]) ?_;refine RE.Qx (n:=0) [] [8,10,12] [⟨(.some 6),(.Qc (.t 27)),.none⟩,⟨.none,(.store 2 (.t 7) (.t 28)),.none⟩,⟨(.some 8),(.Qc (.c (.int .i64 0))),.none⟩] rfl rfl ?_;apply sG;simp only[go_sem,seval,a7,a9,bl,bj];apply sR;simp only[go_sem,seval,pE,bl,bj];exact⟨_,_,aa.refl _,Wk.refl (aa.refl _) _,v,rfl,(Sy.lg.trans SG.sub).aD z7,(ho.ab k7).GZ Sy.lg⟩
def rQ(l:List PH):jB (l.map aF)=true:=lV (f:=aF) (λ_=>rfl) l
def FQ(l:List Nd)(hl:ed l)(w h:Int)(h0:Tz l w h=0):
 bb prog 7 [aQ l,vI w,vI h] (.PN [db (AJ (bJ l w h)),gg (dD (bJ l w h) ⟨0,0,true⟩).1,vI 0]):=λU=>by
 refine(Na l hl w h h0 U).DW λr Z' h=>?_;obtain⟨v,rfl,hs,ho⟩:=h;exact⟨_,U,hs,Fz.wk (N:=λid=>U id=none) (.PN _ _ (.cons _ _ _ _ (ho.Hk (λid h=>h) (RM.same _ (rQ _))) (.cons _ _ _ _ (.same _ rfl) (.cons _ _ _ _ (.same _ rfl) .nil)))) hs (λ_ h=>h),rfl,rfl⟩
open Go.Proofs Go.Proofs.Tryz
def C9(rank:PH->Int){l:List PH}{j:Nat}(h:j<l.length)(m:PH):lL rank (l.drop j) m=lL rank (l.drop (j+1)) (if rank l[j]<rank m then l[j]else m):=by
 rw[iy h,lL]
def LI{U:ag}(rank:PH->Int)(x:PH)(r:List PH)(hl:r.length<=1000000)(fn:FuncId)(caps:List V)
 (hf:∀Z1,aa U Z1->∀a∈x::r,∀m∈x::r,aB prog fn (aF a::aF m::caps) Z1 λv Z'=>v=vI (oL (rank a) (rank m))/\Z'=Z1):
 aB prog 24 [db (x::r),.fn fn caps] U λv Z'=>v=aF (lL rank r x)/\Z'=U:=by
 refine ZO.r (by simp[c24]) ?_;have hs:=aa.refl U;obtain⟨l,hle⟩:∃l,l=x::r:=⟨_,rfl⟩
 have Wt:l.length=r.length+1:=by rw[hle];rfl
 have Yq:=mz l;have hl0:l[0]'(by omega)=x:=by simp[hle]
 have VE:∀U,bS U 3 (db l) (.int .i64 0)=some (.rp (aF x)):=λU=>by
  have:=kW (U:=U) (l:=l) (i:=0) (by omega);rw[hl0]at this;exact this
 have VO:=rX x;have q1:((l.length:Int)<1)=False:=PF;have W4:l.drop 1=r:=by rw[hle];rfl
 rw[<-hle]at hf|-;refine ae.mix 7 ?_;apply sR;simp only[go_sem,seval,c24];refine ad λi4 Z4 s4 a4 f4=>?_;have z4:=hs.none f4;replace hs:=hs.trans s4;simp only[go_sem,seval,Yq,q1,VE,VO];refine ad λi5 Z5 s5 a5 f5=>?_;have Rr:=al a4 f5;replace a4:=s5 _ _ a4;have z5:=hs.none f5;replace hs:=hs.trans s5;simp only[go_sem,seval,a5,az,aA];generalize RC:C' _ i5 _=Y5;replace a5:=(congrFun RC i5).symm.trans af;replace a4:=((congrFun RC i4).symm.trans (ab Rr)).trans a4;replace hs:=Eq.subst (motive:=aa _) RC (hs.aD z5);clear RC;refine ae.loop (λm st=>∃(j:Nat) (y:PH),1<=j/\j<=l.length/\m=l.length-j/\y∈l/\lL rank r x=lL rank (l.drop j) y/\aa U st.U/\st.U i4=some ⟨37,3,[.agg [vI 0,vI 0,.bool false]]⟩/\st.U i5=some ⟨37,3,[aF y]⟩/\
  st.s 0=db l/\st.s 1=.fn fn caps/\st.s 4=.ptr i4 0 0/\st.s 5=.ptr i5 0 0/\st.s 6=vI j) (l.length-1) ⟨1,x,by omega,by omega,rfl,by rw[hle];simp,by rw[W4],hs,a4,a5,rfl,rfl,rfl,rfl,rfl⟩ ?_
 .clear a4 a5 hs;rintro m ⟨S,ω⟩ ⟨j,y,h1,hj,rfl,hy,VQ,hK,a4,a5,t0,t1,t4,t5,t6⟩;simp only at hK a4 a5 t0 t1 t4 t5 t6;refine ae.mix 7 ?_;by_cases H':j<l.length
  .have q:((j:Int)<l.length)=True:=PK;have O':=λU=>kW (U:=U) H';have VO:=rX l[j];have S1:l[j]∈l:=QL H';rw[C9 rank H']at VQ;generalize l[j]=a at*;have r1:PY .i64 ((j:Int)+1):=ar;apply sR;simp only[go_sem,seval,t0,t1,t4,t5,t6,Yq,q,O',VO,a5,az,aA,aG];refine Go.nk rfl rfl rfl (λZ1 h=>hf Z1 (hK.trans h) a S1 y hy) ?_;have Rr:i4≠i5:=Rr;by_cases hc:rank a<rank y
   .have q2:(oL (rank a) (rank y)<0)=True:=PK (by unfold oL;rw[aE hc];decide);rw[aE hc]at VQ;apply sG;simp only[go_sem,seval,t0,t1,t5,t6,q2,a5,O',VO,r1,az,aA,aG];exact⟨_,by omega,j+1,a,by omega,by omega,rfl,S1,VQ,hK.aD z5,(ab Rr).trans a4,rfl,by simp[t0,t1,t4,t5]⟩
   .have q2:(oL (rank a) (rank y)<0)=False:=PF (by unfold oL;rw[aH hc];split<;>omega);rw[aH hc]at VQ;apply sG;simp only[go_sem,seval,t0,t1,t5,t6,q2,r1];exact⟨_,by omega,j+1,y,by omega,by omega,rfl,hy,VQ,hK,a4,a5,by simp[t0,t1,t4,t5]⟩
  .have q:((j:Int)<l.length)=False:=PF;have Rf:j=l.length:=by omega
   rw[Rf,qx]at VQ;apply sR;simp only[go_sem,seval,t0,t4,t5,t6,Yq,q,a4,a5,az,aA,aG];exact av.pure (hK.aD z4) (by rw[VQ];rfl)
def LZ(b:Bk)(s t:PH)(h1:0<=s.atom/\s.atom<b.PQ.length)(h2:0<=t.atom/\t.atom<b.PQ.length){J:ag}{i im i9:Nat}(h0:J i=some (mG b im))(a9:J i9=some ⟨62,1,[.ptr i 0 0]⟩):
 aB prog 26 [aF s,aF t,.ptr i9 0 0] J λr X'=>r=vI (oL (bN b s) (bN b t))/\X'=J:=by
 refine e26.r (by simp[c26]) ?_;have hs:=aa.refl J;refine ae.mix 6 ?_;apply sR;simp only[go_sem,seval,c26,az,aA];refine ad λi3 Z3 s3 a3 f3=>?_;have n93:=al a9 f3;replace a9:=s3 _ _ a9;have z3:=hs.none f3;replace hs:=hs.trans s3;simp only[go_sem,seval,a3,az,aA];refine ad λi4 Z4 s4 a4 f4=>?_;have XU:=al a3 f4;replace a3:=s4 _ _ a3;have n94:=al a9 f4;replace a9:=s4 _ _ a9;have z4:=hs.none f4;replace hs:=hs.trans s4;have hi:=hs _ _ h0;simp only[go_sem,seval,a9,a3,a4,az,aA,aG];refine Go.nk rfl rfl rfl (λZ1 h=>pt b s h1 (h _ _ hi)) ?_;apply sG;simp only[go_sem,seval,a9,a3,a4,az,aA,aG];refine Go.nk rfl rfl rfl (λZ1 h=>pt b t h2 (h _ _ hi)) ?_;apply sG;simp only[go_sem,seval];refine Go.bZ rfl rfl rfl (FG _ _) ?_;apply sG;simp only[go_sem,seval];exact av.pure hs rfl
def zC{b:Bk}(hb:bU b){s:PH}(hv:eU b s)(hf:¬bY b s):∀t∈bE b s,0<=t.atom/\t.atom<b.PQ.length:=λt ht=>by
 have:=hb.WL;rcases((cq hb).on s hv hf t ht).1 with h|h
 .exact⟨h.1.1,by have:=h.1.2;omega⟩
 .omega
def L7(b:Bk)(hb:bU b)(s:PH)(hv:eU b s)(hf:¬bY b s){J:ag}{i im i9:Nat}(h0:J i=some (mG b im))(a9:J i9=some ⟨62,1,[.ptr i 0 0]⟩):
 aB prog 23 [aF s,.ptr i9 0 0] J λr X'=>r=aF (cS b s)/\X'=J:=by
 refine e23.r (by simp[c23]) ?_;have hs:=aa.refl J;have hm:cM b.atoms s:=hv.resolve_right λg=>hf (by unfold bY;omega);have P':=(cq hb).ne s hv hf;have hbr:=zC hb hv hf;have Si:=nD hb hm;refine ae.mix 4 ?_;apply sR;simp only[go_sem,seval,c23,az,aA];refine ad λi2 Z2 s2 a2 f2=>?_;have n92:=al a9 f2;replace a9:=s2 _ _ a9;have z2:=hs.none f2;replace hs:=hs.trans s2;simp only[go_sem,seval,a2];refine ad λi3 Z3 s3 a3 f3=>?_;have n23:=al a2 f3;replace a2:=s3 _ _ a2;have n93:=al a9 f3;replace a9:=s3 _ _ a9;have z3:=hs.none f3;replace hs:=hs.trans s3;have hi:=hs _ _ h0;simp only[go_sem,seval,a9,a2,az,aA,aG];refine ae.aC rfl rfl rfl (p7 b hb s hm hi) ?_;cases hN:bE b s with
 |nil=>exact absurd hN P'
 |cons x r=>
  have hg:cS b s=lL (bN b) r x:=by unfold cS;rw[hN]
  rw[hN]at hbr Si;apply sR;simp only[go_sem,seval];refine ae.aC rfl rfl rfl (LI (bN b) x r (by rw[Q4]at Si;omega) _ _ (λZ1 h a ha m Yy=>LZ b a m (hbr a ha) (hbr m Yy) (h _ _ hi) (h _ _ a9))) ?_;apply sR;simp only[go_sem,seval,a3,az,aA,aG];exact av.pure (hs.aD z3) (by rw[hg])
open Go.Proofs Go.Proofs.Tryz
def jl(b:Bk)(l:List PH):Int:=(l.map (bN b)).sum
def AP(b:Bk)(l:List PH)(s:PH):jl b (l++[s])=jl b l+bN b s:=by
 unfold jl;rw[fC,List.sum_append];simp
def Bc{b:Bk}(hb:bU b){on:PH->PH}(QU:∀s,eU b s->¬bY b s->on s∈bE b s):∀(f:Nat) (s:PH),eU b s->∀t∈jy b on f s,eU b t/\¬bY b t
 |0,_,_,t,h=>by simp[jy]at h
 |f+1,s,hv,t,h=>by
  rw[jy]at h;by_cases hf:bY b s
  .rw[aE hf]at h;cases h
  .rw[aH hf]at h;rcases dc.1 h with rfl|h
   .exact⟨hv,hf⟩
   .exact Bc hb QU f (on s) ((cq hb).on s hv hf _ (QU s hv hf)).1 t h
def rH{b:Bk}(hb:bU b){L:Int}(hL:fQ b L){on:PH->PH}(QU:∀s,eU b s->¬bY b s->on s∈bE b s):(jy b on gS ⟨0,0,true⟩).length<=100000:=by
 obtain⟨h1,h2⟩:=xT hb QU gS ⟨0,0,true⟩ (fL b hb) (qQ hb);have h3:=tL hb hL _ _ (fL b hb) h1;have h4:=zf hb hL (n:=(onK b on gS ⟨0,0,true⟩).length) (s:=⟨b.atoms.length,0,false⟩) (.inr ⟨rfl,rfl⟩) (by
  have hr:dO b b.atoms.length=0:=by unfold dO;simp
  have e:jk b L ⟨(b.atoms.length:Nat),0,false⟩=0:=by
   unfold jk;simp only[Int.sub_self,Int.zero_mul,fp,hr];rfl
  rw[e];omega)
 rw[h2,List.length_dropLast,Q4];omega
def jV(b:Bk):Q3:=⟨(eL b).length,jl b ((eL b).drop 1)⟩
def aU.self{K U:ag}{e sz:Nat}{v:V}{rows:List V}(h:aU K U e sz v rows):∃PU,aU (Vc.bI U PU) U e sz v rows/\aa (Vc.bI U PU) U/\∀a,PU=some a->K a=none/\v=.own a 0 rows.length:=by
 rcases h with⟨h1,h2⟩|⟨id,h1,h2,h3⟩
 .exact⟨none,.inl ⟨h1,h2⟩,aa.refl _,λ_ h=>by cases h⟩
 .exact⟨some id,.inr ⟨id,h1,h2,by simp[Vc.bI,del]⟩,aa.vF U id,λa h=>by cases h;exact⟨h3,h1⟩⟩
def DA(l:List Nd)(hl:ed l)(w h:Int)(h0:Tz l w h≠0):bb prog 8 [aQ l,vI w,vI h] (.PN [.aT,gg ⟨0,0⟩,vI (Tz l w h)]):=λU=>by
 refine e8.r (by simp[c8]) ?_;have hs:=aa.refl U;have hc:=A5 l hl w h h0;have q1:(Tz l w h≠0)=True:=PK h0;generalize Tz l w h=E at*;refine ae.mix 11 ?_;apply sR;simp only[go_sem,seval,c8];refine ad λi7 Z7 s7 a7 f7=>?_;have z7:=hs.none f7;replace hs:=hs.trans s7;simp only[go_sem,seval,a7];refine ae.aC rfl rfl rfl (hc _) ?_;apply sR;simp only[go_sem,seval];refine ad λi9 Z9 s9 a9 f9=>?_;have VS:=al a7 f9;replace a7:=s9 _ _ a7;have z9:=hs.none f9;replace hs:=hs.trans s9;simp only[go_sem,seval,a9,q1];generalize Qv:C' _ i9 _=Y9;replace a9:=(congrFun Qv i9).symm.trans af;replace a7:=((congrFun Qv i7).symm.trans (ab VS)).trans a7;replace hs:=Eq.subst (motive:=aa _) Qv (hs.aD z9);clear Qv;simp only[go_sem,seval,a7,q1,pE];exact av.pure (hs.aD z7) rfl
def xd(l:List Nd)(hl:ed l)(w h:Int)(h0:Tz l w h=0):
 bb prog 8 [aQ l,vI w,vI h] (.PN [db (eL (bJ l w h)),gg (jV (bJ l w h)),vI 0]):=λU=>by
 refine e8.r (by simp[c8]) ?_;have hs:=aa.refl U;have hc:=λU=>pq l hl w h h0 U;obtain⟨he,-⟩:=lO h0;have hb:=gI hl he;have hL:=ju he;generalize bJ l w h=b at*;have q0:((0:Int)≠0)=False:=PF λh=>h rfl;have QU:∀s,eU b s->¬bY b s->cS b s∈bE b s:=l5 hb;have hmy:=Bc hb QU gS ⟨0,0,true⟩ (fL b hb);have Ui:=rH hb hL QU;have To:=hb.WL;refine ae.mix 11 ?_;apply sR;simp only[go_sem,seval,c8,bM.rt];refine ad λi7 Z7 s7 a7 f7=>?_;have z7:=hs.none f7;replace hs:=hs.trans s7;simp only[go_sem,seval,a7];refine ae.call rfl rfl rfl (hc _) ?_;rintro r Z1 ⟨i,im,rfl,hJ⟩;obtain⟨m7,m7'⟩:=hJ.neK a7;replace a7:=hJ.sub _ _ a7;replace hJ:=hJ.less hs;replace hs:=aa.refl Z1;apply sR;simp only[go_sem,seval];refine ad λi9 Z9 s9 a9 f9=>?_;have VS:=al a7 f9;replace a7:=s9 _ _ a7;have z9:=hs.none f9;replace hs:=hs.trans s9;obtain⟨m9,m9'⟩:=hJ.new z9;have k9:=hJ.sub.none z9;simp only[go_sem,seval,a9,q0];generalize Qv:C' _ i9 _=Y9;replace a9:=(congrFun Qv i9).symm.trans af;replace a7:=((congrFun Qv i7).symm.trans (ab VS)).trans a7;replace hs:=Eq.subst (motive:=aa _) Qv (hs.aD z9);clear Qv;have QZ:=hJ.mono hs;refine ae.call rfl rfl rfl (Cu b hb hL QZ _ _ (cS b) QU (λJ s hv hf hJY=>(L7 b hb s hv hf hJY.row (hJY.sub _ _ ((dV m9 m9').trans a9))).mono λr X' h=>⟨h.1,by rw[h.2];exact hJY.off⟩)) ?_;rintro v Z3 ⟨Sy,ho⟩;have k7:qX Y9 i im i7≠none:=by rw[dV m7 m7',a7];simp
 have k9':qX Y9 i im i9≠none:=by rw[dV m9 m9',a9];simp
 replace a7:=Sy.sub _ _ ((dV m7 m7').trans a7);replace a9:=Sy.sub _ _ ((dV m9 m9').trans a9);change aU _ _ _ _ _ ((eL b).map aF)at ho;change ∀t∈eL b,eU b t/\¬bY b t at hmy;change (eL b).length<=100000 at Ui;unfold jV;generalize eL b=G at*;obtain⟨PU,ho2,G',M'⟩:=ho.self;have SG:eV b U (Vc.bI Z3 PU) i im:=(Sy.less QZ.lg).del λa ha=>⟨ho.neD Sy (M' a ha).2,QZ.lg.none (M' a ha).1⟩
 have b7:Vc.bI Z3 PU i7=some ⟨28,2,[.agg [vI 0,vI 0]]⟩:=by
  cases PU with
  |none=>exact a7
  |some a=>exact(dN λg=>k7 (by rw[g];exact(M' a rfl).1)).trans a7
 have b9:Vc.bI Z3 PU i9=some ⟨62,1,[.ptr i 0 0]⟩:=by
  cases PU with
  |none=>exact a9
  |some a=>exact(dN λg=>k9' (by rw[g];exact(M' a rfl).1)).trans a9
 refine ae.CJ [7,9] [24] G' ho2 (λd hd=>by rw[iW.1 hd];rfl) ?_;clear a7 a9 ho ho2 G' M' Sy k7 k9';generalize Vc.bI Z3 PU=J at*;have hlG:=mz G;rw[<-db];apply sR;simp only[go_sem,seval,hlG];refine ae.loop (λm st=>∃(j:Nat) (c:Int),j<=G.length/\m=G.length-j/\c=jl b ((G.take j).drop 1)/\0<=c/\c<=7*j/\eV b U st.U i im/\st.U i7=some ⟨28,2,[.agg [vI 0,vI c]]⟩/\st.U i9=some ⟨62,1,[.ptr i 0 0]⟩/\
  st.s 6=db G/\st.s 7=.ptr i7 0 0/\st.s 9=.ptr i9 0 0/\st.s 26=vI G.length/\st.s 27=vI j) G.length ⟨0,0,by omega,rfl,by simp[jl],by decide,by decide,SG,b7,b9,rfl,rfl,rfl,rfl,rfl⟩ ?_
 clear SG b7 b9;rintro m ⟨S,ω⟩ ⟨j,c,hj,rfl,hc,Th,Xt,hJ,a7,a9,t6,t7,t9,t26,t27⟩;simp only at hJ a7 a9 t6 t7 t9 t26 t27;refine ae.mix 11 ?_;by_cases H':j<G.length
 .have p1:((j:Int)<G.length)=True:=PK;have QF:=Tp H';have O':=λU=>kW (U:=U) H';have VO:=rX G[j];obtain⟨vt,-⟩:=hmy G[j] (QL H');have WG:=pO hb G[j];have RG:0<=G[j].atom/\G[j].atom<b.PQ.length:=by
   rcases vt with h|h
   .exact⟨h.1.1,by have:=h.1.2;omega⟩
   .omega
  generalize G[j]=t at*;have r1:PY .i64 ((j:Int)+1):=ar;have r2:PY .i64 (c+bN b t):=ar;by_cases hj0:j=0
  .subst hj0;have p2:(((0:Nat):Int)>0)=False:=PF (by decide);have p3:((0:Int)<(G.length:Int))=True:=PK;apply sR;simp only[go_sem,seval,t6,t7,t9,t26,t27,p1,p2,p3,r1];exact⟨ar (by decide) (by decide),_,by omega,1,c,by omega,rfl,by rw[hc,QF];simp,Th,by omega,hJ,a7,a9,by simp[t6,t7,t9,t26]⟩
  .have p2:((j:Int)>0)=True:=PK;apply sR;simp only[go_sem,seval,t6,t7,t9,t26,t27,p1,p2,a7,a9,O',VO,az,aA];refine Go.nk rfl rfl rfl (λZ1 h=>pt b t RG (h _ _ hJ.row)) ?_;apply sG;simp only[go_sem,seval,t6,t7,t9,t26,t27,a7,r1,r2];have htd:(G.take (j+1)).drop 1=(G.take j).drop 1++[t]:=by
    rw[QF,FL (by rw[kK];omega)]
   exact⟨_,by omega,j+1,c+bN b t,by omega,rfl,by rw[htd,AP,hc],by omega,by omega,hJ.C' m7 m7' z7,rfl,(ab VS.symm).trans a9,by simp[t6,t7,t9,t26]⟩
 .have p1:((j:Int)<G.length)=False:=PF;rw[nX (by omega)]at hc;apply sR;simp only[go_sem,seval,t6,t7,t9,t26,t27,p1,a7,hlG,pE];exact av.pure (hJ.sub.aD z7) (by rw[hc];rfl)
open Go.Proofs Go.Proofs.Tryz
def jC{s:Nat->V}{U:ag}{a1:Bool}{n1 d e t:Nat}{Post:V->ag->Prop}:
 TF [.cell a1 n1 (.t d),.tmp (.t t),.tmp (.t e)] ⟨s,U⟩ Post=dq (cj U a1 n1 (s d)) λv=>av (.PN [v,s t,s e]) U Post:=by
 unfold TF av qF;simp only[gM,iU,VX.ev];cases cj U a1 n1 (s d)<;>simp[dq]
def A9(b:Bk)(l:List PH):V:=match lY b l with
 |some c=>.PN [gg c,.bool true,vI 0]
 |none=>.PN [gg ⟨0,0⟩,.bool false,vI 0]
def oY{b:Bk}{l:List PH}{c:Q3}(h:lY b l=some c):A9 b l=.PN [gg c,.bool true,vI 0]:=by unfold A9;rw[h]
def ic{b:Bk}{l:List PH}(h:lY b l=none):A9 b l=.PN [.agg [vI 0,vI 0],.bool false,vI 0]:=by unfold A9;rw[h];rfl
def CA(l:List Nd)(hl:ed l)(w h:Int)(h0:Tz l w h=0)(P:List PH)(hP:P.length<=1000000):
 bb prog 9 [aQ l,vI w,vI h,db P] (A9 (bJ l w h) P):=λU=>by
 refine e9.r (by simp[c9]) ?_;have hs:=aa.refl U;have hc:=λU=>pq l hl w h h0 U;obtain⟨he,-⟩:=lO h0;have hb:=gI hl he;generalize bJ l w h=b at*;have q0:((0:Int)≠0)=False:=PF λh=>h rfl;have To:=hb.WL;have hlP:=mz P;refine ae.mix 16 ?_;apply sR;simp only[go_sem,seval,c9,bM.rt];refine ad λi8 Z8 s8 a8 f8=>?_;have z8:=hs.none f8;replace hs:=hs.trans s8;simp only[go_sem,seval,a8];refine ae.call rfl rfl rfl (hc _) ?_;rintro r Z1 ⟨i,im,rfl,hJ⟩;obtain⟨m8,m8'⟩:=hJ.neK a8;replace a8:=hJ.sub _ _ a8;replace hJ:=hJ.less hs;replace hs:=aa.refl Z1;apply sR;simp only[go_sem,seval,q0];refine ad λQT Z12 TT a12 f12=>?_;have Xo:=al a8 f12;replace a8:=TT _ _ a8;have z12:=hs.none f12;replace hs:=hs.trans TT;obtain⟨Yk,m12'⟩:=hJ.new z12;have RW:=hJ.sub.none z12;simp only[go_sem,seval,a12];generalize Sw:C' _ QT _=Y12;replace a12:=(congrFun Sw QT).symm.trans af;replace a8:=((congrFun Sw i8).symm.trans (ab Xo)).trans a8;replace hs:=Eq.subst (motive:=aa _) Sw (hs.aD z12);clear Sw;have hJ1:=hJ.mono hs;simp only[go_sem,seval,hlP];have Xo:=Xo;refine ae.loop (λm st=>∃(j:Nat) (Qf:PH) (c:Q3),j<=P.length/\m=P.length-j/\lY b P=iT b Qf c (P.drop j)/\(c=⟨0,0⟩/\Qf=⟨0,0,true⟩\/1<=c.PX/\eU b Qf/\¬bY b Qf)/\0<=c.PX/\c.PX<=j/\0<=c.Qo/\c.Qo<=7*j/\
  eV b U st.U i im/\st.U i8=some ⟨28,2,[gg c]⟩/\st.U QT=some ⟨37,3,[aF Qf]⟩/\st.s 8=.ptr i8 0 0/\st.s 10=vI 0/\st.s 11=.ptr i 0 0/\st.s 12=.ptr QT 0 0/\st.s 27=db P/\st.s 28=vI P.length/\st.s 29=vI j) P.length
  ⟨0,⟨0,0,true⟩,⟨0,0⟩,by omega,rfl,rfl,.inl ⟨rfl,rfl⟩,by decide,by decide,by decide,by decide,hJ1,a8,a12,rfl,rfl,rfl,rfl,rfl,rfl,rfl⟩ ?_
 clear hJ1 a8 a12 hs hJ;rintro m ⟨S,ω⟩ ⟨j,Qf,c,hj,rfl,QK,Yf,hp0,hp1,hr0,hr1,hJ,a8,a12,t8,t10,t11,t12,t27,t28,t29⟩;simp only at hJ a8 a12 t8 t10 t11 t12 t27 t28 t29;refine ae.mix 16 ?_;by_cases H':j<P.length
 .have p1:((j:Int)<P.length)=True:=PK;have O':=λU=>kW (U:=U) H';have VO:=rX P[j];rw[iy H']at QK;generalize P[j]=s at*;have hs:=aa.refl ω;apply sR;simp only[go_sem,seval,t27,t28,t29,p1,O',VO,az,aA];refine ad λi14 Z14 s14 Uc f14=>?_;have n814:=al a8 f14;replace a8:=s14 _ _ a8;have ZF:=al a12 f14;replace a12:=s14 _ _ a12;have z14:=hs.none f14;replace hs:=hs.trans s14;simp only[go_sem,seval,Uc,t11,t12,az,aA];generalize ZG:C' _ i14 _=Y14;replace Uc:=(congrFun ZG i14).symm.trans af;replace a8:=((congrFun ZG i8).symm.trans (ab n814)).trans a8;replace a12:=((congrFun ZG QT).symm.trans (ab ZF)).trans a12;replace hs:=Eq.subst (motive:=aa _) ZG (hs.aD z14);clear ZG;have hJ1:=hJ.mono hs;simp only[go_sem,seval,t11,t12,a12,az,aA,aG];refine ae.aC rfl rfl rfl (qe b Qf hJ1.row) ?_;have hfS:aa U Y14:=hJ.sub.trans hs;by_cases g1:bY b Qf
  .rw[Rt g1];have q3:True:=trivial;have p0:True:=trivial;have hn:lY b P=none:=by rw[QK,iT,aE (.inl g1)]
   rw[ic hn];apply sR;simp only[BB,seval,<-decide_not,bx,fb,aM,dn,dk,dp,dv,dG,bO,jj,fG,bz,eR,dr,eQ,cP,cD,bR,gW,cm,cA,cd,QS,jv,cV,bP,cX,bX,cQ,cC,jf,binBV,bK,cW,Rd.nothing,t8,t10,t11,t12,a8,a12,Uc,q3,p0,bl,bj,az,aA,aG,jC,V.gB,V.gC,V.fw,V.gy,V.iF,V.gz,V.fj,V.iR,V.gA,V.iP,V.gx,V.gG,V.fq,V.gE,V.iM,V.gF,V.fA,V.iC,V.gH,V.iB];exact av.pure (hfS.aD z8) rfl
  rw[Rv g1];apply sR;simp only[go_sem,seval,t11,Uc,az,aA,aG];refine ae.aC rfl rfl rfl (qe b s hJ1.row) ?_;by_cases g2:bY b s
  .rw[Rt g2];have q3:True:=trivial;have p0:True:=trivial;have hn:lY b P=none:=by rw[QK,iT,aE (.inr (.inl g2))]
   rw[ic hn];apply sR;simp only[BB,seval,<-decide_not,bx,fb,aM,dn,dk,dp,dv,dG,bO,jj,fG,bz,eR,dr,eQ,cP,cD,bR,gW,cm,cA,cd,QS,jv,cV,bP,cX,bX,cQ,cC,jf,binBV,bK,cW,Rd.nothing,t8,t10,t11,t12,a8,a12,Uc,q3,p0,bl,bj,az,aA,aG,jC,V.gB,V.gC,V.fw,V.gy,V.iF,V.gz,V.fj,V.iR,V.gA,V.iP,V.gx,V.gG,V.fq,V.gE,V.iM,V.gF,V.fA,V.iC,V.gH,V.iB];exact av.pure (hfS.aD z8) rfl
  rw[Rv g2];have q3:=Cl s Qf;by_cases g3:s≠Qf/\c.PX=0
  .rw[Rt g3.1]at q3;have p0:(c.PX=0)=True:=PK g3.2;have hn:lY b P=none:=by rw[QK,iT,aE (.inr (.inr g3))]
   rw[ic hn];apply sR;simp only[BB,seval,<-decide_not,bx,fb,aM,dn,dk,dp,dv,dG,bO,jj,fG,bz,eR,dr,eQ,cP,cD,bR,gW,cm,cA,cd,QS,jv,cV,bP,cX,bX,cQ,cC,jf,binBV,bK,cW,Rd.nothing,t8,t10,t11,t12,a8,a12,Uc,q3,p0,bl,bj,az,aA,aG,jC,V.gB,V.gC,V.fw,V.gy,V.iF,V.gz,V.fj,V.iR,V.gA,V.iP,V.gx,V.gG,V.fq,V.gE,V.iM,V.gF,V.fA,V.iC,V.gH,V.iB];exact av.pure (hfS.aD z8) rfl
  rw[iT,aH (λh=>h.elim g1 λh=>h.elim g2 g3)]at QK;have r3:PY .i64 ((j:Int)+1):=ar;have r1:PY .i64 (c.PX+1):=ar;by_cases g4:c.PX>0
  .have p4:(c.PX>0)=True:=PK g4;have p0:(c.PX=0)=False:=PF;have vt:eU b Qf:=by
    rcases Yf with⟨h,-⟩|⟨-,h,-⟩
    .rw[h]at g4;exact absurd g4 (by decide)
    .exact h
   have hm:cM b.atoms Qf:=vt.resolve_right λg=>g1 (by unfold bY;omega);have Si:=nD hb hm;have WG:=pO hb s;have r2:PY .i64 (c.Qo+bN b s):=ar;rw[aE g4]at QK;cases hX:decide (s≠Qf)<;>rw[hX]at q3
   all_goals
    apply sR;simp only[BB,seval,<-decide_not,bx,fb,aM,dn,dk,dp,dv,dG,bO,jj,fG,bz,eR,dr,eQ,cP,cD,bR,gW,cm,cA,cd,QS,jv,cV,bP,cX,bX,cQ,cC,jf,binBV,bK,cW,Rd.nothing,t8,t11,t12,a8,a12,Uc,q3,p0,p4,bl,bj,az,aA,aG,V.gB,V.gC,V.fw,V.gy,V.iF,V.gz,V.fj,V.iR,V.gA,V.iP,V.gx,V.gG,V.fq,V.gE,V.iM,V.gF,V.fA,V.iC,V.gH,V.iB];refine Go.nk rfl rfl rfl (λZ1 h=>p7 b hb Qf hm (h _ _ hJ1.row)) ?_;apply sG;simp only[go_sem,seval,Uc,az,aA,aG];refine Go.bZ rfl rfl rfl (EV (bE b Qf) (by omega) s) ?_;by_cases g5:s∈bE b Qf
    .rw[Rt g5];rw[aE g5]at QK;have vs:=((cq hb).on Qf vt g1 s g5).1;have RG:=zC hb vt g1 s g5;apply sG;simp only[go_sem,seval,t8,t11,a8,Uc,Bool.not_true,bl,bj,az,aA,aG];refine Go.nk rfl rfl rfl (λZ1 h=>pt b s RG (h _ _ hJ1.row)) ?_;apply sG;simp only[go_sem,seval,t8,t10,t11,t12,t27,t28,t29,a8,a12,Uc,r1,r2,r3,ab Xo.symm,ab n814.symm,ab Xo,ab ZF.symm,bl,bj,az,aA,aG];exact⟨_,by omega,j+1,s,⟨c.PX+1,c.Qo+bN b s⟩,by omega,rfl,QK,.inr ⟨(by show(1:Int)<=c.PX+1;omega),vs,g2⟩,(by show(0:Int)<=c.PX+1;omega),(by show c.PX+1<=((j+1:Nat):Int);omega),
      (by show 0<=c.Qo+bN b s;omega),(by show c.Qo+bN b s<=7*((j+1:Nat):Int);omega),((hJ1.C' m8 m8' z8).C' Yk m12' RW).C' m8 m8' z8,rfl,rfl,rfl⟩
    .rw[Rv g5];rw[aH g5]at QK;rw[ic QK];apply sG;simp only[go_sem,seval,t8,t10,a8,Bool.not_false,jC,bl,bj];exact av.pure (hfS.aD z8) rfl
  .have p4:(c.PX>0)=False:=PF g4;have gs:s=Qf:=Decidable.byContradiction λh=>g3 ⟨h,by omega⟩;rw[Rv (λh=>h gs)]at q3;rw[aH g4]at QK;apply sR;simp only[BB,seval,<-decide_not,bx,fb,aM,dn,dk,dp,dv,dG,bO,jj,fG,bz,eR,dr,eQ,cP,cD,bR,gW,cm,cA,cd,QS,jv,cV,bP,cX,bX,cQ,cC,jf,binBV,bK,cW,Rd.nothing,t8,t10,t11,t12,t27,t28,t29,a8,a12,Uc,q3,p4,r1,r3,ab Xo.symm,ab n814.symm,ab Xo,ab ZF.symm,bl,bj,az,aA,aG,V.gB,V.gC,V.fw,V.gy,V.iF,V.gz,V.fj,V.iR,V.gA,V.iP,V.gx,V.gG,V.fq,V.gE,V.iM,V.gF,V.fA,V.iC,V.gH,V.iB];have vs:eU b s:=by
    rw[gs];rcases Yf with⟨-,h⟩|⟨h,-⟩
    .rw[h];exact fL b hb
    .omega
   exact⟨_,by omega,j+1,s,⟨c.PX+1,c.Qo⟩,by omega,rfl,QK,.inr ⟨(by show(1:Int)<=c.PX+1;omega),vs,g2⟩,(by show(0:Int)<=c.PX+1;omega),(by show c.PX+1<=((j+1:Nat):Int);omega),
    hr0,(by show c.Qo<=7*((j+1:Nat):Int);omega),(hJ1.C' Yk m12' RW).C' m8 m8' z8,rfl,rfl,rfl⟩
 .have p1:((j:Int)<P.length)=False:=PF;rw[E6 (by omega),iT]at QK;by_cases g4:c.PX=0
  .have p0:(c.PX=0)=True:=PK g4;rw[aE g4]at QK;have RN:=jm b.atoms;have h0:=hJ.row;rw[mG,qj]at h0;apply sR;simp only[go_sem,seval,t8,t27,t28,t29,p1,a8,p0,bl,bj];by_cases g5:(b.atoms.length:Int)=0
   .have p5:((b.atoms.length:Int)=0)=True:=PK g5;rw[aE g5]at QK;rw[oY QK];refine ae.pF (by kernel_rfl) [0,1,2,3,4,5,6,7,8,9] [[],[],[1],[1,2],[1,2,3],[1,2,3,4],[1,2,3,4,5],[0],[0,1,2,3,4,5,6,7],[0,1,2,3,4,5,6,7,8]] [0,2,4,6,8,10,12,14,9,16,18] (by kernel_rfl) (by kernel_rfl) ?_;refine RE.Qx (n:=0) [9,16,18] [0,2,4,6,8,10,12,14] [⟨(.some 78),(.build [(.int .i64 0),(.int .i64 0)] []),.none⟩,⟨(.some 79),(.Qc (.t 11)),.none⟩,⟨(.some 80),(.nilCheck (.t 79)),.none⟩,⟨(.some 81),(.P9 .false 1 1 (.t 80)),.none⟩,⟨(.some 82),(.load .false 1 (.t 81)),.none⟩,⟨(.some 83),(.len .false (.t 82)),.none⟩,⟨(.some 84),(.bin .eql (.t 83) (.c (.int .i64 0))),.none⟩,⟨.none,(.store 2 (.t 8) (.t 78)),.none⟩] rfl rfl ?_;apply sG;simp only[go_sem,seval,t8,t11,a8,h0,RN,p5,bl,bj,aq,ao,ct,cp];refine RE.QQ rfl rfl rfl rfl rfl trivial (by simp only[go_sem,seval,t8,t11,a8,h0,RN,p5,ab m8.symm,bl,bj,aq,ao,ct,cp]) ?_;refine RE.Qx (n:=0) [] [16,18] [⟨(.some 9),(.Qc (.t 84)),.none⟩,⟨(.some 10),(.Qc (.c (.int .i64 0))),.none⟩] rfl rfl ?_;apply sG;simp only[go_sem,seval];apply sR;simp only[go_sem,seval,t8,jC];exact av.pure (hJ.sub.aD z8) rfl
   .have p5:((b.atoms.length:Int)=0)=False:=PF g5;rw[aH g5]at QK;rw[ic QK];refine ae.pF (by kernel_rfl) [0,1,2,3,4,5,6,7,8,9] [[],[],[1],[1,2],[1,2,3],[1,2,3,4],[1,2,3,4,5],[0],[0,1,2,3,4,5,6,7],[0,1,2,3,4,5,6,7,8]] [0,2,4,6,8,10,12,14,9,16,18] (by kernel_rfl) (by kernel_rfl) ?_;refine RE.Qx (n:=0) [9,16,18] [0,2,4,6,8,10,12,14] [⟨(.some 78),(.build [(.int .i64 0),(.int .i64 0)] []),.none⟩,⟨(.some 79),(.Qc (.t 11)),.none⟩,⟨(.some 80),(.nilCheck (.t 79)),.none⟩,⟨(.some 81),(.P9 .false 1 1 (.t 80)),.none⟩,⟨(.some 82),(.load .false 1 (.t 81)),.none⟩,⟨(.some 83),(.len .false (.t 82)),.none⟩,⟨(.some 84),(.bin .eql (.t 83) (.c (.int .i64 0))),.none⟩,⟨.none,(.store 2 (.t 8) (.t 78)),.none⟩] rfl rfl ?_;apply sG;simp only[go_sem,seval,t8,t11,a8,h0,RN,p5,bl,bj,aq,ao,ct,cp];refine RE.QQ rfl rfl rfl rfl rfl trivial (by simp only[go_sem,seval,t8,t11,a8,h0,RN,p5,ab m8.symm,bl,bj,aq,ao,ct,cp]) ?_;refine RE.Qx (n:=0) [] [16,18] [⟨(.some 9),(.Qc (.t 84)),.none⟩,⟨(.some 10),(.Qc (.c (.int .i64 0))),.none⟩] rfl rfl ?_;apply sG;simp only[go_sem,seval];apply sR;simp only[go_sem,seval,t8,jC];exact av.pure (hJ.sub.aD z8) rfl
  .have p0:(c.PX=0)=False:=PF g4;rw[aH g4]at QK;have vt:eU b Qf/\¬bY b Qf:=by
    rcases Yf with⟨h,-⟩|⟨-,h,h'⟩
    .rw[h]at g4;exact absurd rfl g4
    .exact⟨h,h'⟩
   have hm:cM b.atoms Qf:=vt.1.resolve_right λg=>vt.2 (by unfold bY;omega);have Si:=nD hb hm;apply sR;simp only[go_sem,seval,t8,t11,t12,t27,t28,t29,p1,a8,a12,p0,bl,bj,az,aA,aG];refine ae.aC rfl rfl rfl (p7 b hb Qf hm hJ.row) ?_;apply sR;simp only[go_sem,seval,t11];refine ae.aC rfl rfl rfl (HY (bE b Qf) Si (λt=>decide (bY b t)) (λx hx=>qe b x hJ.row)) ?_;cases hany:(bE b Qf).any λt=>decide (bY b t)
   .rw[aH (by rw[hany];simp)]at QK;rw[ic QK];apply sR;simp only[go_sem,seval,t8,t10,a8,Bool.not_false,jC,bl,bj];exact av.pure (hJ.sub.aD z8) rfl
   .rw[aE hany]at QK;rw[oY QK];apply sR;simp only[go_sem,seval,t8,t10,a8,Bool.not_true,jC,bl,bj];exact av.pure (hJ.sub.aD z8) rfl
open Go.Proofs Go.Proofs.Tryz
def Ew{U:ag}{id e j:Nat}{rows:List V}{a x:PH}(h:U id=some ⟨e,3,rows⟩)(hj:rows[j]?=some (aF a)):cA U 3 (.ptr id j 0) (aF x)=some (C' U id ⟨e,3,rows.set j (aF x)⟩):=by
 have e1:cd (aF a) 0 3 (aF x)=some (aF x):=rfl;simp only[cA,h,hj,e1]
def IP{U:ag}{id e j:Nat}{rows:List V}{a:PH}(h:U id=some ⟨e,3,rows⟩)(hj:rows[j]?=some (aF a)):cj U true 3 (.ptr id j 0)=some (aF a):=by
 simp only[cj,h,hj];rfl
def GS{U:ag}{id e:Nat}{rows:List V}{n:Nat}{k:Int}(h:U id=some ⟨e,3,rows⟩)(hn:n=rows.length)(h0:0<=k)(h1:k<n):bS U 3 (.own id 0 n) (.int .i64 k)=some (.ptr id k.toNat 0):=by
 simp only[bS,h];rw[aE ⟨trivial,h0,h1⟩];simp
def MF{U:ag}{id:Nat}(l:List PH)(P':l≠[])(hl:l.length<=1000000)(h0:U id=some ⟨37,3,l.map aF⟩):
 aB prog 41 [.own id 0 l.length] U λ_ Z'=>Z'=C' U id ⟨37,3,l.reverse.map aF⟩:=by
 refine e41.r (by simp[c41]) ?_;have QR:0<l.length:=vM.2 P';have r0:PY .i64 ((l.length:Int)-1):=ar;refine ae.mix 4 ?_;apply sR;simp only[go_sem,seval,c41,r0];refine ae.loop (λm st=>∃(k:Nat) (R:List PH),R.length=l.length/\k<=l.length/\m=l.length-k/\(∀q,q<l.length->R[q]?=if q<k\/l.length-k<=q then l[l.length-1-q]? else l[q]?)/\
  st.U=C' U id ⟨37,3,R.map aF⟩/\st.s 0=.own id 0 l.length/\st.s 2=vI k/\st.s 3=vI ((l.length:Int)-1-k)) l.length ⟨0,l,rfl,by omega,rfl,λq hq=>by simp;omega,(lU h0).symm,rfl,rfl,(by rw[show((l.length:Int)-1-(0:Nat))=(l.length:Int)-1 by simp];rfl)⟩ ?_
 rintro m ⟨S,ω⟩ ⟨k,R,hR,hk,rfl,hRq,Qj,t0,t2,t3⟩;simp only at Qj t0 t2 t3;subst Qj;refine ae.mix 4 ?_;by_cases H':(k:Int)<(l.length:Int)-1-k
 .have q1:((k:Int)<(l.length:Int)-1-k)=True:=PK H';have a0:(C' U id ⟨37,3,R.map aF⟩) id=some ⟨37,3,R.map aF⟩:=af;generalize WJ:C' U id ⟨37,3,R.map aF⟩=J at*;have R0:k<R.length:=by omega
  obtain⟨jn,hjn⟩:∃jn:Nat,(l.length:Int)-1-k=jn:=⟨l.length-1-k,by omega⟩
  have hj1:jn<R.length:=by omega
  rw[hjn]at t3 q1;have hx:(R.map aF)[jn]?=some (aF R[jn]):=by simp[hj1]
  have hy:(R.map aF)[k]?=some (aF R[k]):=by simp[R0]
  have i1:=GS (k:=jn) a0 (show l.length=_ by rw[du,hR]) (by omega) (by omega);have i2:=GS (k:=k) a0 (show l.length=_ by rw[du,hR]) (by omega) (by omega);rw[fp]at i1 i2;have l1:=IP a0 hx;have l2:=IP a0 hy;have s1:=Ew (x:=R[jn]) a0 hy;have b0:(C' J id ⟨37,3,(R.map aF).set k (aF R[jn])⟩) id=some ⟨37,3,(R.map aF).set k (aF R[jn])⟩:=af;generalize hZ2:C' J id ⟨37,3,(R.map aF).set k (aF R[jn])⟩=Y2 at*;have hx2:((R.map aF).set k (aF R[jn]))[jn]?=some (aF R[jn]):=by
   rw[List.getElem?_set_ne (by omega)];exact hx
  have i3:=GS (k:=jn) b0 (show l.length=_ by rw[List.length_set,du,hR]) (by omega) (by omega);rw[fp]at i3;have s2:=Ew (x:=R[k]) b0 hx2;have r1:PY .i64 ((k:Int)+1):=ar;have r2:PY .i64 ((jn:Int)-1):=ar;apply sR;simp only[BB,seval,<-decide_not,bx,fb,aM,dn,dk,dp,dv,dG,bO,jj,fG,bz,eR,dr,eQ,cP,cD,bR,gW,cm,cd,QS,jv,cV,bP,jX,cX,bX,cQ,cC,jf,binBV,bK,cW,V.cells,V.stays,Rd.nothing,t0,t2,t3,q1,i1,i2,i3,l1,l2,s1,s2,r1,r2];refine⟨_,?_,k+1,(R.set k R[jn]).set jn R[k],by simp[hR],by omega,rfl,λq hq=>?_,?_,by simp[t0];omega⟩
  .omega
  .have hRk:=hRq k (by omega);have hRj:=hRq jn (by omega);rw[aH (by omega),Tq R0]at hRk;rw[aH (by omega),Tq hj1]at hRj;by_cases g1:q=jn
   .subst g1;rw[List.getElem?_set_self (by simp[hR];omega),aE (.inr (by omega)),show l.length-1-q=k by omega];exact hRk
   .rw[List.getElem?_set_ne (λe=>g1 e.symm)];by_cases g2:q=k
    .subst g2;rw[List.getElem?_set_self (by omega),aE (.inl (by omega)),show l.length-1-q=jn by omega];exact hRj
    .rw[List.getElem?_set_ne (λe=>g2 e.symm),hRq q hq];by_cases g3:q<k\/l.length-k<=q
     .rw[aE g3,aE (by omega)]
     .rw[aH g3,aH (by omega)]
  .rw[<-hZ2,<-WJ,tj,tj,List.map_set,List.map_set]
 .have q1:((k:Int)<(l.length:Int)-1-k)=False:=PF H';apply sR;simp only[go_sem,seval,t2,t3,q1];have hRr:R=l.reverse:=by
   refine List.ext_getElem? λq=>?_;by_cases hq:q<l.length
   .rw[hRq q hq,List.getElem?_reverse hq];by_cases g3:q<k\/l.length-k<=q
    .rw[aE g3]
    .rw[aH g3,show l.length-1-q=q by omega]
   .rw[rC (by omega),rC (by simp;omega)]
  rw[hRr];exact⟨_,_,aa.refl _,Wk.refl (aa.refl _) _,rfl⟩
def EU(b:Bk)(s:PH):V:=if Dh b s then .PN [db (bE b s).reverse,vI 0]else .PN [.aT,vI 4]
def H6(l:List Nd)(hl:ed l)(w h:Int)(s:PH)(h0:Tz l w h=0):bb prog 16 [aQ l,vI w,vI h,aF s] (EU (bJ l w h) s):=λU=>by
 refine e16.r (by simp[c16]) ?_;have hs:=aa.refl U;have hc:=λU=>pq l hl w h h0 U;obtain⟨he,-⟩:=lO h0;have hb:=gI hl he;generalize bJ l w h=b at*;have q0:((0:Int)≠0)=False:=PF λh=>h rfl;unfold EU;refine ae.mix 13 ?_;apply sR;simp only[go_sem,seval,c16,az,aA];refine ad λi7 Z7 s7 a7 f7=>?_;have z7:=hs.none f7;replace hs:=hs.trans s7;simp only[go_sem,seval,a7];refine ae.call rfl rfl rfl (hc _) ?_;rintro r Z1 ⟨i,im,rfl,hJ⟩;replace a7:=hJ.sub _ _ a7;replace hJ:=hJ.less hs;apply sR;simp only[go_sem,seval,q0,a7,az,aA,aG];refine ae.aC rfl rfl rfl (KH b hb.WL s hJ.row) ?_;by_cases hm:Dh b s
 .rw[Rt hm,aE hm];have hf:¬bY b s:=by have:=hm.1.1.2;unfold bY;omega
  have P':=(cq hb).ne s (.inl hm.1) hf;have Si:=nD hb hm.1;apply sR;simp only[go_sem,seval,a7,Bool.not_true,az,aA,aG];refine ae.call rfl rfl rfl (Cw b hb s hm.1 hJ.row) ?_;rintro v Z2 ⟨SQ,ho⟩;rcases ho with⟨-,hn⟩|⟨id,rfl,ha,hk⟩
  .have:=congrArg List.length hn;rw[du,List.length_nil]at this;exact absurd (qK this) P'
  .rw[du];apply sR;simp only[go_sem,seval];refine ae.call rfl rfl rfl (MF (bE b s) P' Si ha) ?_;rintro r Z3 rfl;apply sR;simp only[go_sem,seval];have XL:aa U (C' Z2 id ⟨37,3,(bE b s).reverse.map aF⟩):=(hJ.sub.trans SQ).aD (hJ.sub.none hk);have ho:aU U (C' Z2 id ⟨37,3,(bE b s).reverse.map aF⟩) 37 3 (.own id 0 (bE b s).length) ((bE b s).reverse.map aF):=aU.new (by simp) af (hJ.sub.none hk);exact⟨_,U,XL,Fz.wk (N:=λid=>U id=none) (.PN _ _ (.cons _ _ _ _ (ho.Hk (λid h=>h) (RM.same _ (rQ _))) (.cons _ _ _ _ (.same _ rfl) .nil))) XL (λ_ h=>h),rfl,rfl⟩
 .rw[Rv hm,aH hm];apply sR;simp only[go_sem,seval,Bool.not_false];exact av.pure hJ.sub rfl
open Go.Proofs Go.Proofs.Tryz
section
variable {P:Program} {n:Nat} {st:St} {Q:St->Prop} {k:List It}
def F9{o:Op}{x y:VX}(h:P3 P n o=.bin .add x y):∃t x0 y0 yt,o=.binOp .add t x0 y0 yt/\cx n x0=x/\cx n y0=y:=by
 cases o
 case binOp op' t x0 y0 yt=>
  simp only[P3,cu]at h
  repeat' split at h
  all_goals first
   |(simp only[Qp.bin.injEq]at h;obtain⟨rfl,h2,h3⟩:=h;exact⟨t,x0,y0,yt,rfl,h2,h3⟩)
   |cases h
   |(cases op'<;>cases h)
 case call c=>
  obtain⟨callee,args,argTypes⟩:=c;cases callee
  case builtin b=>cases b<;>simp only[P3]at h<;>(repeat' split at h)<;>cases h
  all_goals (simp only[P3]at h;cases h)
 case unOp op t x=>cases op<;>simp only[P3]at h<;>cases h
 case makeFunc f a b=>cases f<;>simp only[P3]at h<;>(repeat' split at h)<;>cases h
 all_goals (simp only[P3]at h;(repeat' split at h)<;>cases h)
def ae.OS{i:aK}{l:List aK}{x y:VX}{kk:IntKind}{a b:Int}(hw:bB st.s i.g=some true)(ho:i.op=.bin .add x y)(hx:x.ev st.s=.int kk a)(hy:y.ev st.s=.int kk b)
 (h:ae P n (.ops l::k) ⟨aZ st.s i.dst (.int kk (kk.wrap (a+b))),st.U⟩ Q):ae P n (.ops (i::l)::k) st Q:=by
 refine ae.ins (by rw[ho];simp) hw λF hn I act w o all hi hs next Q' PL=>?_
 subst hn;obtain⟨PV,hd⟩:=dP hi;rw[ho]at PV;obtain⟨t,x0,y0,yt,g1,rfl,rfl⟩:=F9 PV;have ex:act.eval x0=.int kk a:=by
  have:=cz hs x0;rw[hx]at this;simpa[E']using this
 have ey:act.eval y0=.int kk b:=by
  have:=cz hs y0;rw[hy]at this;simpa[E']using this
 have Qq:(execOp act.eval o).run P w=.ok (.value (.int kk (kk.wrap (a+b)))) w:=by
  unfold execOp;rw[g1];simp[ex,ey,eqGuard,binOp,Op.intArith]
 unfold Oper.wp;rw[Qq];refine PL _ _ _ ⟨I,?_⟩ h;have:=hs.pure (d:=o.dst) (v:=.int kk (kk.wrap (a+b))) (x:=.int kk (kk.wrap (a+b))) (by simp[E']);rw[<-hd];exact this
end
def zu{l:List Nd}{i:Nat}(h:i<l.length):jI (l.take (i+1))=jI (l.take i)+l[i].words.length:=by
 unfold jI;rw[Tp h,fC,List.sum_append];simp
def wD:∀{l:List Nd},(∀x∈l,x.words.length<=200000000000000)->jI l<=l.length*200000000000000
 |[],_=>by simp[jI]
 |x::l,h=>by
  have h1:=h x (by simp);have h2:=wD (l:=l) λy hy=>h y (by simp[hy]);unfold jI at*;simp only[eD,List.sum_cons,Q4];omega
def K1(l:List Nd)(h:Int):Prop:=l.length<=60/\jI l<=300/\1<=h/\((ew l).2≠0\/(ew l).1.L'.tdiv (max (cU l h) 1)<300)
def AG(l:List Nd):0<=(ew l).1.L'/\(ew l).1.L'<=1099511627777:=by
 unfold ew;split
 .rename_i hb;have:=pA hb (s:=⟨0,0,l.length,0⟩) ⟨Int.le_refl _,(by decide:(0:Int)<=1099511627777)⟩ l.length (Qt _);exact⟨this.1,this.2.1⟩
 .exact⟨Int.le_refl _,by decide⟩
def MC(l:List Nd)(hlen:l.length<=1000000000000)(hw:∀x∈l,x.words.length<=200000000000000)(h:Int)(U:ag):
 aB prog 5 [aQ l,vI h] U λr Z'=>(∃x,r=.bool x/\(x=true->K1 l h))/\Z'=U:=by
 refine e5.r (by simp[c5]) ?_;have Ui:=fe l;have finF:av (.bool false) U λr Z'=>(∃x,r=.bool x/\(x=true->K1 l h))/\Z'=U:=⟨_,_,aa.refl _,Wk.refl (aa.refl _) _,⟨_,rfl,λh=>by cases h⟩,rfl⟩
 refine ae.mix 9 ?_;apply sR;simp only[go_sem,seval,c5];refine ae.loop (λm st=>∃(i:Nat) (c:Int),i<=l.length/\m=l.length-i/\st.U=U/\st.s 0=aQ l/\st.s 1=vI h/\st.s 5=vI c/\(l.length<=60->c=(jI (l.take i):Nat))/\st.s 6=vI i) l.length ⟨0,0,by omega,by omega,rfl,rfl,rfl,rfl,λ_=>by simp[jI],rfl⟩ ?_;rintro m ⟨s,Z'⟩ ⟨i,c,hi,rfl,Qj,t0,t1,t5,hc,t6⟩;simp only at Qj t0 t1 t5 t6;subst Qj;refine ae.mix 9 ?_;by_cases H':i<l.length
 .have q1:((i:Int)<l.length)=True:=PK;have hwi:=hw _ (QL H');have hws:=zu H';have Rh:=λU=>ee (U:=U) (l:=l) (a:=i) H';have hlw:=eI l[i].words;have r1:PY .i64 ((i:Int)+1):=ar
  (refine ae.bL Rd.nothing 20 ?_;simp only[go_sem,seval,pd,t0,t5,t6,Ui,q1,Rh,Nd.cells,hlw,wi])
  refine ae.OS rfl rfl rfl rfl ?_;by_cases h60:l.length<=60
  .have hc':=hc h60;have hwr:IntKind.i64.wrap (c+(l[i].words.length:Int))=c+l[i].words.length:=by
    have jA:=wD (l:=l.take i) (λx hx=>hw x (qL hx));rw[kK]at jA;rw[IntKind.wrap_i64];omega
   rw[hwr];apply sR;simp only[go_sem,seval,t0,t1,t6,r1];exact⟨_,by omega,i+1,_,by omega,rfl,rfl,λ_=>by rw[hws,hc'];omega,rfl⟩
  .apply sR;simp only[go_sem,seval,t0,t1,t6,r1];exact⟨_,by omega,i+1,_,by omega,rfl,rfl,λg=>absurd g h60,rfl⟩
 .have q1:((i:Int)<l.length)=False:=PF;have RH:i=l.length:=by omega
  rw[RH,jK]at hc;by_cases g1:(l.length:Int)>60
  .have p1:((l.length:Int)>60)=True:=PK g1;apply sR;simp only[go_sem,seval,t0,t1,t5,t6,Ui,q1,p1];exact finF
  .have p1:((l.length:Int)>60)=False:=PF g1;replace hc:=hc (by omega);by_cases g2:c>300
   .have p2:(c>300)=True:=PK g2;apply sR;simp only[go_sem,seval,t0,t1,t5,t6,Ui,q1,p1,p2];exact finF
   .have p2:(c>300)=False:=PF g2;by_cases g3:h<1
    .have p3:(h<1)=True:=PK g3;apply sR;simp only[go_sem,seval,t0,t1,t5,t6,Ui,q1,p1,p2,p3];exact finF
    .have p3:(h<1)=False:=PF g3;have fl:ed l:=⟨by omega,hw⟩
     have hcv:=tK l fl;have hle:=zY l fl h;obtain⟨e0,e1⟩:=AG l;have Qm:∀x:Bool,(x=true->((ew l).2≠0\/(ew l).1.L'.tdiv (max (cU l h) 1)<300))->∀J,aa Z' J->av (.bool x) J λr Z''=>(∃x,r=.bool x/\(x=true->K1 l h))/\Z''=Z':=λx hx J WJ=>
      ⟨_,Z',WJ,Wk.refl WJ _,⟨_,rfl,λg=>⟨by omega,by omega,by omega,hx g⟩⟩,rfl⟩
     have hM:(if 1>cU l h then 1 else cU l h)=max (cU l h) 1:=by split<;>omega
     have hM0:(max (cU l h) 1=0)=False:=PF;have hM1:1<=max (cU l h) 1:=by omega
     generalize max (cU l h) 1=M at*;generalize cU l h=LE at*;have hs:=aa.refl Z';generalize (ew l).2=E at*;have hSc:(ew l).1.cells=[vI (ew l).1.depth,vI (ew l).1.pieces,vI (ew l).1.nodes,vI (ew l).1.L']:=rfl;generalize (ew l).1=SM at*;apply sR;simp only[go_sem,seval,t0,t1,t5,t6,Ui,q1,p1,p2,p3];refine ae.aC rfl rfl rfl (hcv _) ?_;by_cases g4:E=0
     .have p4:(E≠0)=False:=PF λk=>k g4;have d0:=Int.tdiv_nonneg e0 (by omega:0<=M);have d1:=Int.tdiv_le_self M e0;have r2:PY .i64 (SM.L'.tdiv M):=ar;apply sR;simp only[go_sem,seval,hSc];refine ad λi7 Z7 s7 a7 f7=>?_;have z7:=hs.none f7;replace hs:=hs.trans s7;simp only[go_sem,seval,a7,hSc,p4,t0,t1];generalize Sx:C' _ i7 _=Y7;replace a7:=(congrFun Sx i7).symm.trans af;replace hs:=Eq.subst (motive:=aa _) Sx (hs.aD z7);clear Sx;refine Go.bZ rfl rfl rfl hle ?_;by_cases g5:SM.L'.tdiv M<300
      .have p5:(SM.L'.tdiv M<300)=True:=PK g5;apply sG;simp only[go_sem,seval,hM,hM0,r2,p5];exact Qm _ (λ_=>.inr g5) _ hs
      .have p5:(SM.L'.tdiv M<300)=False:=PF g5;apply sG;simp only[go_sem,seval,hM,hM0,r2,p5];exact Qm _ (λk=>by cases k) _ hs
     .have p4:(E≠0)=True:=PK g4;apply sR;simp only[go_sem,seval,hSc];refine ad λi7 Z7 s7 a7 f7=>?_;have z7:=hs.none f7;replace hs:=hs.trans s7;simp only[go_sem,seval,a7,hSc,p4];exact Qm _ (λ_=>.inl g4) _ (hs.aD z7)
def Co(sz:Nat)(ks:List Nat):PJ:=⟨26,.seq (.TB false [⟨some 4,.Qc (.c (.bool false)),none⟩]) (.seq (.seq (.TB false [⟨some 6,.Qc (.t 0),none⟩,⟨some 7,.len false (.t 6),none⟩,⟨some 8,.Qc (.t 1),none⟩,⟨some 9,.len false (.t 8),none⟩,⟨some 10,.bin .neq (.t 7) (.t 9),none⟩]) (.cond (.t 10) (.seq (.TB false [⟨some 4,.Qc (.c (.bool false)),none⟩]) .ret) .skip)) (.seq (.seq (.TB false [⟨some 5,.Qc (.c (.int .i64 0)),none⟩]) (.block 0 (.loop (.seq (.seq (.TB false [⟨some 11,.Qc (.t 5),none⟩,⟨some 12,.Qc (.t 0),none⟩,⟨some 13,.len false (.t 12),none⟩,⟨some 14,.bin .lss (.t 11) (.t 13),none⟩]) (.cond (.t 14) .skip (.exit 0))) (.seq (.block 1 (.seq (.TB true [⟨some 17,.Qc (.t 0),none⟩,⟨some 18,.Qc (.t 5),none⟩,⟨some 19,.TZ sz (.t 17) (.t 18),none⟩,⟨some 20,.load true sz (.t 19),none⟩,⟨some 21,.Qc (.t 1),none⟩,⟨some 22,.Qc (.t 5),none⟩,⟨some 23,.TZ sz (.t 21) (.t 22),none⟩,⟨some 24,.load true sz (.t 23),none⟩,⟨some 25,.eqS true ks (.t 20) (.t 24),none⟩]) (.cond (.t 25) (.seq (.TB false [⟨some 4,.Qc (.c (.bool false)),none⟩]) .ret) .skip))) (.TB false [⟨some 15,.Qc (.t 5),none⟩,⟨some 16,.bin .add (.t 15) (.c (.int .i64 1)),none⟩,⟨some 5,.Qc (.t 16),none⟩])))))) (.seq (.TB false [⟨some 4,.Qc (.c (.bool true)),none⟩]) .ret))),[.tmp (.t 4)]⟩
def Hm{P:Program}{f:FuncId}{fn:Func}(hf:P.funcs[f]?=some fn){sz:Nat}{ks:List Nat}(hc:cfn P fn=some (Co sz ks))(hk:fW P f=true){α:Type}[DecidableEq α](enc:α->V)
 (he:∀a b,jX true ks (enc a) (enc b)=some (.bool (decide (a≠b))))(hl:∀U a,cj U true sz (.rp (enc a))=some (enc a))(xs ys:List α)(hx:xs.length<=1000000000000):
 bb P f [.sl sz (xs.map enc),.sl sz (ys.map enc)] (.bool (decide (xs=ys))):=λU=>by
 refine aB.nI hf hc hk (by simp[Co]) ?_;refine ae.mix 6 ?_;have n1:dR false (.sl sz (xs.map enc))=some (.int .i64 xs.length):=by simp[dR]
 have n2:dR false (.sl sz (ys.map enc))=some (.int .i64 ys.length):=by simp[dR]
 by_cases hlen:xs.length=ys.length
 .have q:((xs.length:Int)≠ys.length)=False:=PF;apply sR;simp only[go_sem,seval,Co,n1,n2,q];refine ae.loop (λm st=>∃j,j<=xs.length/\m=xs.length-j/\xs.take j=ys.take j/\st.s 0=.sl sz (xs.map enc)/\st.s 1=.sl sz (ys.map enc)/\st.s 5=.int .i64 j/\st.U=U) xs.length ⟨0,by omega,rfl,rfl,rfl,rfl,rfl,rfl⟩ ?_;rintro m ⟨S,Z'⟩ ⟨j,hj,rfl,ht,t0,t1,t5,Qj⟩;simp only at t0 t1 t5 Qj;subst Qj;refine ae.mix 6 ?_;by_cases H':j<xs.length
  .have q1:((j:Int)<xs.length)=True:=PK;have hlt2:j<ys.length:=by omega
   have i1:∀U,bS U sz (.sl sz (xs.map enc)) (.int .i64 j)=some (.rp (enc xs[j])):=λU=>by simp[bS,H']
   have i2:∀U,bS U sz (.sl sz (ys.map enc)) (.int .i64 j)=some (.rp (enc ys[j])):=λU=>by simp[bS,hlt2]
   have WE:=he xs[j] ys[j];have tx:=Tp H';have ty:=Tp hlt2;by_cases hq:xs[j]=ys[j]
   .rw[show decide (xs[j]≠ys[j])=false by simpa using hq]at WE;apply sR;simp only[BB,seval,<-decide_not,bx,fb,aM,dn,dk,dp,dv,dG,bO,jj,fG,bz,eR,dr,eQ,cP,cD,bR,gW,cm,cA,cd,QS,jv,cV,bP,cX,bX,cQ,cC,jf,binBV,bK,cW,V.cells,V.stays,Rd.nothing,t0,t1,t5,n1,q1,i1,i2,hl,WE];exact⟨ar,_,by omega,j+1,by omega,rfl,by rw[tx,ty,ht,hq],by simp⟩
   .rw[show decide (xs[j]≠ys[j])=true by simpa using hq]at WE;apply sR;simp only[BB,seval,<-decide_not,bx,fb,aM,dn,dk,dp,dv,dG,bO,jj,fG,bz,eR,dr,eQ,cP,cD,bR,gW,cm,cA,cd,QS,jv,cV,bP,cX,bX,cQ,cC,jf,binBV,bK,cW,V.cells,V.stays,Rd.nothing,t0,t1,t5,n1,q1,i1,i2,hl,WE];refine av.same ?_;have:¬xs=ys:=λh=>hq (by simp only[h]);rw[Rv this]
  .have q1:((j:Int)<xs.length)=False:=PF;apply sR;simp only[go_sem,seval,t0,t1,t5,n1,q1];refine av.same ?_;rw[nX (by omega),nX (by omega)]at ht;rw[Rt ht]
 .have q:((xs.length:Int)≠ys.length)=True:=PK;apply sR;simp only[go_sem,seval,Co,n1,n2,q];refine av.same ?_;rw[Rv λh=>hlen (by rw[h])]
open Go.Proofs Go.Proofs.Tryz
def bxN:Nd:=⟨3,1,⟨0,0,0,0,0,0,0,0,0,0,0,0⟩,0,0,[],0,1,2⟩
def Xp:List Nd:=[bxN,bxN,bxN,bxN,bxN]
def bxV:V:=.agg [vI 3,vI 1,vI 0,vI 0,vI 0,vI 0,vI 0,vI 0,vI 0,vI 0,vI 0,vI 0,vI 0,vI 0,vI 0,vI 0,.aT,vI 0,vI 1,vI 2]
def qR(U:ag)(N:Nat->Prop):Fz U N bxV (.agg (Nd.cells bxN)):=by
 unfold bxV;have s:∀k:Int,Fz U N (vI k) (vI k):=λk=>.same _ rfl;exact .agg _ _ (.cons _ _ _ _ (s _) (.cons _ _ _ _ (s _) (.cons _ _ _ _ (s _) (.cons _ _ _ _ (s _) (.cons _ _ _ _ (s _) (.cons _ _ _ _ (s _) (.cons _ _ _ _ (s _) (.cons _ _ _ _ (s _) (.cons _ _ _ _ (s _) (.cons _ _ _ _ (s _)
  (.cons _ _ _ _ (s _) (.cons _ _ _ _ (s _) (.cons _ _ _ _ (s _) (.cons _ _ _ _ (s _) (.cons _ _ _ _ (s _) (.cons _ _ _ _ (s _) (.cons _ _ _ _ (.nil 1) (.cons _ _ _ _ (s _) (.cons _ _ _ _ (s _) (.cons _ _ _ _ (s _) .nil))))))))))))))))))))
def Iz(U:ag):aB prog 15 [] U λr Z'=>aa U Z'/\aU U Z' 51 20 r [bxV,bxV,bxV,bxV,bxV]:=by
 refine e15.r (by simp[c15]) ?_;refine ae.mix 3 ?_;apply sR;simp only[go_sem,seval,c15];refine ae.loop (λm st=>∃(j:Nat) (v:V),j<=5/\m=5-j/\aa U st.U/\aU U st.U 51 20 v (List.replicate j bxV)/\st.s 1=v/\st.s 2=vI j) 5 ⟨0,.aT,by omega,rfl,aa.refl _,aU.start,rfl,rfl⟩ ?_;rintro m ⟨S,ω⟩ ⟨j,v,hj,rfl,hK,ho,t1,t2⟩;simp only at hK ho t1 t2;refine ae.mix 3 ?_;by_cases H':j<5
 .have p1:((j:Int)<5)=True:=PK;have r1:PY .i64 ((j:Int)+1):=ar;apply sR;simp only[go_sem,seval,t1,t2,p1];refine ad λi9 Z9 s9 a9 f9=>?_;obtain⟨PU,QW,QJ⟩:=ho.dst s9;have Tg:((List.replicate j bxV).length+1)*177<=140737488355328:=by rw[List.length_replicate];omega
  simp only[go_sem,seval,QW,dj a9,Tg];refine ep λQb UP Re P0 f10=>?_;simp only[go_sem,seval,t2,r1];exact⟨_,by omega,j+1,.own Qb 0 ((List.replicate j bxV).length+1),by omega,rfl,(QJ U (aa.refl _) Z9 (hK.trans s9)).trans Re,by rw[List.replicate_succ'];exact aU.new (by simp) P0 ((hK.trans s9).none f10),by simp⟩
 .have p1:((j:Int)<5)=False:=PF;obtain rfl:j=5:=by omega
  apply sR;simp only[go_sem,seval,t1,t2,p1];exact⟨_,_,aa.refl _,Wk.refl (aa.refl _) _,hK,ho⟩
def H7:bb prog 15 [] (aQ Xp):=λU=>by
 refine(Iz U).DW λr Z' h=>?_;obtain⟨hs,ho⟩:=h;have f:=λU=>qR U (λid=>U id=none);exact⟨_,U,hs,Fz.wk (N:=λid=>U id=none) (ho.Hk (rows':=Xp.map λn=>.agg (Nd.cells n)) (λid h=>h) (.cons _ _ _ _ (qR _ _) (.cons _ _ _ _ (qR _ _) (.cons _ _ _ _ (qR _ _) (.cons _ _ _ _ (qR _ _) (.cons _ _ _ _ (qR _ _) .nil)))))) hs (λ_ h=>h),rfl,rfl⟩
def Xq(l:List Int)(j:Nat):List PH:=(List.range j).map λi=>⟨l.getD i 0,0,decide (i=0)⟩
def Gw(l:List Int){j:Nat}(h:j<l.length):Xq l (j+1)=Xq l j++[⟨l[j],0,decide (j=0)⟩]:=by
 unfold Xq;rw[List.range_succ,fC];simp[h]
def tw{U:ag}{v:V}(l:List Int)(hl:l.length<=1000000)(hr:Reads U 1 false v (l.map vI)):
 aB prog 17 [v] U λr Z'=>r=db (Xq l l.length)/\Z'=U:=by
 refine e17.r (by simp[c17]) ?_;have Yq:dR false v=some (.int .i64 l.length):=by rw[hr.1,du]
 refine ae.mix 5 ?_;apply sR;simp only[go_sem,seval,c17];refine ae.loop (λm st=>∃(j:Nat) (u:V),j<=l.length/\m=l.length-j/\aa U st.U/\aU U st.U 37 3 u ((Xq l j).map aF)/\st.s 0=v/\st.s 3=u/\st.s 4=vI j) l.length ⟨0,.aT,by omega,rfl,aa.refl _,aU.start,rfl,rfl,rfl⟩ ?_;rintro m ⟨S,ω⟩ ⟨j,u,hj,rfl,hK,ho,t0,t3,t4⟩;simp only at hK ho t0 t3 t4;refine ae.mix 5 ?_;by_cases H':j<l.length
 .have p1:((j:Int)<l.length)=True:=PK;have r1:PY .i64 ((j:Int)+1):=ar;obtain⟨a,ha,RN⟩:=(Reads.mono hK hr).2 j (vI l[j]) (by simp[H']);have Qi:=Gw l H';have Tg:((Xq l j).map aF).length=j:=by unfold Xq;simp
  have hdc:decide ((j:Int)=0)=decide (j=0):=decide_eq_decide.2 (by omega);generalize hD:decide (j=0)=D at*;apply sR;simp only[go_sem,seval,t0,t3,t4,Yq,p1,ha,RN];refine ad λZt Z19 Yr Vd f19=>?_;obtain⟨PU,QW,QJ⟩:=ho.dst Yr;have QD:(((Xq l j).map aF).length+1)*25<=140737488355328:=by rw[Tg];omega
  simp only[go_sem,seval,QW,dj Vd,QD];refine ep λi20 Z20 s20 a20 f20=>?_;rw[hdc]at a20;simp only[go_sem,seval,t4,r1];exact⟨_,by omega,j+1,.own i20 0 (((Xq l j).map aF).length+1),by omega,rfl,(QJ U (aa.refl _) Z19 (hK.trans Yr)).trans s20,by rw[Qi,fC];exact aU.new (by simp) a20 ((hK.trans Yr).none f20),by simp[t0]⟩
 .have p1:((j:Int)<l.length)=False:=PF;obtain rfl:j=l.length:=by omega
  apply sR;simp only[go_sem,seval,t0,t3,t4,Yq,p1];exact ho.Bl hK rfl
def zV(a b:List PH)(h:a.length<=1000000):bb prog 18 [db a,db b] (.bool (decide (a=b))):=
 Hm func18 (sz:=3) (ks:=[0,0,1]) (e18.b.trans rfl) e18.c aF Cl (λ_ _=>rfl) a b (by omega)
open Go.Proofs Go.Proofs.Tryz
set_option maxRecDepth 1000000
def Yu(h:Int):Bk:=bJ Xp 10 h
def f38:ed Xp:=⟨by decide,by decide⟩
def GQ:Tz Xp 10 4=0:=by kernel_rfl
def Pk:Tz Xp 10 1=0:=by kernel_rfl
def s38:AJ (Yu 4)=[⟨0,0,true⟩,⟨2,0,false⟩,⟨4,0,false⟩]:=by kernel_rfl
def Ok:(dD (Yu 4) ⟨0,0,true⟩).1=⟨3,0⟩:=by kernel_rfl
def g38:eL (Yu 4)=[⟨0,0,true⟩,⟨2,0,false⟩,⟨4,0,false⟩]:=by kernel_rfl
def NZ:jV (Yu 4)=⟨3,0⟩:=by kernel_rfl
def n38:EU (Yu 4) ⟨0,0,true⟩=.PN [db [⟨1,0,false⟩,⟨2,0,false⟩],vI 0]:=by kernel_rfl
def m38:(dD (Yu 1) ⟨0,0,true⟩).1.PX=10:=by kernel_rfl
def x38:lY (Yu 4) (Xq [0,1,3] 3)=some ⟨3,0⟩:=by kernel_rfl
def y38:lY (Yu 4) (Xq [0,3] 2)=none:=by kernel_rfl
open Go.Proofs Go.Proofs.Tryz
def BE{U Z1:ag}{i e:Nat}{l:List Int}(h:U i=some ⟨e,1,l.map vI⟩)(hs:aa U Z1):Reads Z1 1 false (.own i 0 l.length) (l.map vI):=vk (hs _ _ h)
def JC:bb prog 6 [] (.bool true):=λU=>by
 refine e6.r (by simp[c6]) ?_;have hs:=aa.refl U;have p1:=FQ Xp f38 10 4 GQ;have p2:=xd Xp f38 10 4 GQ;have p3:=H6 Xp f38 10 4 ⟨0,0,true⟩ GQ;have p4:=FQ Xp f38 10 1 Pk;have p5:=CA Xp f38 10 4 GQ (Xq [0,1,3] 3) (by decide);have p6:=CA Xp f38 10 4 GQ (Xq [0,3] 2) (by decide);have hb:bJ Xp 10 4=Yu 4:=rfl;have Tg:bJ Xp 10 1=Yu 1:=rfl;rw[hb,s38,Ok]at p1;rw[hb,g38,NZ]at p2;rw[hb,n38]at p3;rw[Tg]at p4;rw[hb,oY x38]at p5;rw[hb,ic y38]at p6;have m:=m38;generalize (dD (Yu 1) ⟨0,0,true⟩).1=C at*;generalize AJ (Yu 1)=G at*;clear hb Tg;have hbx:=H7;generalize Xp=B at*;have q0:((0:Int)≠0)=False:=PF λh=>h rfl;have q10:(C.PX=10)=True:=PK m;refine ae.mix 19 ?_;apply sR;simp only[go_sem,seval,c6];refine ae.aC rfl rfl rfl (hbx _) ?_;apply sR;simp only[go_sem,seval];refine ae.aC rfl rfl rfl (p1 _) ?_;apply sR;simp only[go_sem,seval,bl,bj];refine ad λi2 Z2 s2 a2 f2=>?_;have z2:=hs.none f2;replace hs:=hs.trans s2;simp only[go_sem,seval,a2,bl,bj];generalize hq2:C' _ i2 _=Y2;replace a2:=(congrFun hq2 i2).symm.trans af;replace hs:=Eq.subst (motive:=aa _) hq2 (hs.aD z2);clear hq2;refine ae.aC rfl rfl rfl (hbx _) ?_;apply sR;simp only[go_sem,seval];refine ae.aC rfl rfl rfl (p2 _) ?_;apply sR;simp only[go_sem,seval,bl,bj];refine ad λi5 Z5 s5 a5 f5=>?_;have YS:=al a2 f5;replace a2:=s5 _ _ a2;have z5:=hs.none f5;replace hs:=hs.trans s5;simp only[go_sem,seval,a5,bl,bj];generalize RC:C' _ i5 _=Y5;replace a5:=(congrFun RC i5).symm.trans af;replace a2:=((congrFun RC i2).symm.trans (ab YS)).trans a2;replace hs:=Eq.subst (motive:=aa _) RC (hs.aD z5);clear RC;refine ae.aC rfl rfl rfl (hbx _) ?_;apply sR;simp only[go_sem,seval];refine ae.aC rfl rfl rfl (p3 _) ?_;apply sR;simp only[go_sem,seval];refine ae.aC rfl rfl rfl (hbx _) ?_;apply sR;simp only[go_sem,seval];refine ae.aC rfl rfl rfl (p4 _) ?_;apply sR;simp only[go_sem,seval,bl,bj];refine ad λQb UP Re P0 f10=>?_;have n210:=al a2 f10;replace a2:=Re _ _ a2;have n510:=al a5 f10;replace a5:=Re _ _ a5;have SS:=hs.none f10;replace hs:=hs.trans Re;simp only[go_sem,seval,P0,bl,bj];generalize Qs:C' _ Qb _=Y10;replace P0:=(congrFun Qs Qb).symm.trans af;replace a2:=((congrFun Qs i2).symm.trans (ab n210)).trans a2;replace a5:=((congrFun Qs i5).symm.trans (ab n510)).trans a5;replace hs:=Eq.subst (motive:=aa _) Qs (hs.aD SS);clear Qs;refine ae.aC rfl rfl rfl (hbx _) ?_;apply sR;simp only[go_sem,seval];refine ad λYt Z45 s45 a45 f45=>?_;have n245:=al a2 f45;replace a2:=s45 _ _ a2;have n545:=al a5 f45;replace a5:=s45 _ _ a5;have n1045:=al P0 f45;replace P0:=s45 _ _ P0;have z45:=hs.none f45;replace hs:=hs.trans s45;simp only[go_sem,seval];refine ae.aC rfl rfl rfl (tw [0,1,3] (by decide) (BE (l:=[0,1,3]) a45 (aa.refl _))) ?_;apply sR;simp only[go_sem,seval];refine ae.aC rfl rfl rfl (p5 _) ?_;apply sR;simp only[go_sem,seval,bl,bj];refine ad λQT Z12 TT a12 f12=>?_;have n212:=al a2 f12;replace a2:=TT _ _ a2;have Xa:=al a5 f12;replace a5:=TT _ _ a5;have Vh:=al P0 f12;replace P0:=TT _ _ P0;have z12:=hs.none f12;replace hs:=hs.trans TT;simp only[go_sem,seval,a12,bl,bj];generalize Sw:C' _ QT _=Y12;replace a12:=(congrFun Sw QT).symm.trans af;replace a2:=((congrFun Sw i2).symm.trans (ab n212)).trans a2;replace a5:=((congrFun Sw i5).symm.trans (ab Xa)).trans a5;replace P0:=((congrFun Sw Qb).symm.trans (ab Vh)).trans P0;replace hs:=Eq.subst (motive:=aa _) Sw (hs.aD z12);clear Sw;refine ae.aC rfl rfl rfl (hbx _) ?_;apply sR;simp only[go_sem,seval];refine ad λi53 Z53 s53 a53 f53=>?_;have n253:=al a2 f53;replace a2:=s53 _ _ a2;have n553:=al a5 f53;replace a5:=s53 _ _ a5;have n1053:=al P0 f53;replace P0:=s53 _ _ P0;have n1253:=al a12 f53;replace a12:=s53 _ _ a12;have z53:=hs.none f53;replace hs:=hs.trans s53;simp only[go_sem,seval];refine ae.aC rfl rfl rfl (tw [0,3] (by decide) (BE (l:=[0,3]) a53 (aa.refl _))) ?_;apply sR;simp only[go_sem,seval];refine ae.aC rfl rfl rfl (p6 _) ?_;apply sR;simp only[go_sem,seval,bl,bj];refine ad λVW Y15 Vi SR f15=>?_;have n215:=al a2 f15;replace a2:=Vi _ _ a2;have n515:=al a5 f15;replace a5:=Vi _ _ a5;have Zz:=al P0 f15;replace P0:=Vi _ _ P0;have n1215:=al a12 f15;replace a12:=Vi _ _ a12;have z15:=hs.none f15;replace hs:=hs.trans Vi;simp only[go_sem,seval,SR,bl,bj];generalize Rs:C' _ VW _=Z15;replace SR:=(congrFun Rs VW).symm.trans af;replace a2:=((congrFun Rs i2).symm.trans (ab n215)).trans a2;replace a5:=((congrFun Rs i5).symm.trans (ab n515)).trans a5;replace P0:=((congrFun Rs Qb).symm.trans (ab Zz)).trans P0;replace a12:=((congrFun Rs QT).symm.trans (ab n1215)).trans a12;replace hs:=Eq.subst (motive:=aa _) Rs (hs.aD z15);clear Rs;refine ad λi18 Z18 XJ TJ f18=>?_;have n218:=al a2 f18;replace a2:=XJ _ _ a2;have n518:=al a5 f18;replace a5:=XJ _ _ a5;have n1018:=al P0 f18;replace P0:=XJ _ _ P0;have Zs:=al a12 f18;replace a12:=XJ _ _ a12;have n1518:=al SR f18;replace SR:=XJ _ _ SR;have z18:=hs.none f18;replace hs:=hs.trans XJ;simp only[go_sem,seval,TJ];generalize Te:C' _ i18 _=Y18;replace TJ:=(congrFun Te i18).symm.trans af;replace a2:=((congrFun Te i2).symm.trans (ab n218)).trans a2;replace a5:=((congrFun Te i5).symm.trans (ab n518)).trans a5;replace P0:=((congrFun Te Qb).symm.trans (ab n1018)).trans P0;replace a12:=((congrFun Te QT).symm.trans (ab Zs)).trans a12;replace SR:=((congrFun Te VW).symm.trans (ab n1518)).trans SR;replace hs:=Eq.subst (motive:=aa _) Te (hs.aD z18);clear Te;have hl2:dR false (db [⟨1,0,false⟩,⟨2,0,false⟩])=some (.int .i64 2):=rfl;have hi0:∀U,bS U 3 (db [⟨1,0,false⟩,⟨2,0,false⟩]) (.int .i64 0)=some (.rp (aF ⟨1,0,false⟩)):=λ_=>rfl;have hi1:∀U,bS U 3 (db [⟨1,0,false⟩,⟨2,0,false⟩]) (.int .i64 1)=some (.rp (aF ⟨2,0,false⟩)):=λ_=>rfl;simp only[go_sem,seval,q0,hl2];refine ad λi88 Z88 s88 a88 f88=>?_;have n288:=al a2 f88;replace a2:=s88 _ _ a2;have n588:=al a5 f88;replace a5:=s88 _ _ a5;have n1088:=al P0 f88;replace P0:=s88 _ _ P0;have n1288:=al a12 f88;replace a12:=s88 _ _ a12;have n1588:=al SR f88;replace SR:=s88 _ _ SR;have n1888:=al TJ f88;replace TJ:=s88 _ _ TJ;have z88:=hs.none f88;replace hs:=hs.trans s88;simp only[go_sem,seval];refine ae.aC rfl rfl rfl (tw [0,2,4] (by decide) (BE (l:=[0,2,4]) a88 (aa.refl _))) ?_;apply sR;simp only[go_sem,seval];refine ae.aC rfl rfl rfl (zV [⟨0,0,true⟩,⟨2,0,false⟩,⟨4,0,false⟩] (Xq [0,2,4] 3) (by decide) _) ?_;rw[Rt (show([⟨0,0,true⟩,⟨2,0,false⟩,⟨4,0,false⟩]:List PH)=Xq [0,2,4] 3 from by decide)];apply sR;simp only[go_sem,seval];refine ae.aC rfl rfl rfl (zV [⟨0,0,true⟩,⟨2,0,false⟩,⟨4,0,false⟩] [⟨0,0,true⟩,⟨2,0,false⟩,⟨4,0,false⟩] (by decide) _) ?_;rw[Rt rfl];apply sR;simp only[go_sem,seval,a2,a5,P0,a12,SR,TJ,hi0,hi1,q10,Bool.not_false,bl,bj,az,aA];exact av.pure hs rfl
def Bm{b:Bk}(P:List PH):(fF (bN b) P).Qo=jl b P:=by
 induction P with
 |nil=>rfl
 |cons t r ih=>simp only[fF,Q3.on,jl,eD,List.sum_cons]at*;omega
def BI{b:Bk}(hb:bU b){P:List PH}{s:PH}(hv:eU b s)(hp:lx (bE b) (bY b) s P):jl b (((s::P).dropLast).drop 1)=(fF (bN b) P).Qo/\((s::P).dropLast).length=P.length:=by
 refine⟨?_,by simp⟩;rw[Bm];cases P with
 |nil=>rfl
 |cons t r=>
  rw[List.dropLast_cons₂,MO,zM];have key:∀(r:List PH) (t:PH),eU b t->lx (bE b) (bY b) t r->jl b ((t::r).dropLast)=jl b (t::r):=by
   intro r
   induction r with
   |nil=>
    intro t hv hp;have h0:=Ai hb hv hp;simp[jl,h0]
   |cons u r ih=>
    intro t hv hp;have:=ih u ((cq hb).on t hv hp.1 u hp.2.1).1 hp.2.2;rw[List.dropLast_cons₂];simp only[jl,eD,List.sum_cons]at*;omega
  exact key r t ((cq hb).on s hv hp.1 t hp.2.1).1 hp.2.2
def AN{b:Bk}(hb:bU b):lY b (eL b)=some (jV b)/\¬(jV b).lt (dD b ⟨0,0,true⟩).1:=by
 obtain⟨P,h1,h2,h3,h4⟩:=zq hb;obtain⟨e1,e2⟩:=BI hb (fL b hb) h1;have hc:jV b=fF (bN b) P:=by
  unfold jV;rw[h2,e1];have:=mf (bN b) P;rw[e2];cases hP:fF (bN b) P with
  |mk p r=>rw[hP]at this;simp only at this;rw[<-this]
 rw[hc];exact⟨h3,h4⟩
open Go.Proofs Go.Proofs.Tryz
def NdP(l:List Nd):Prop:=l.length<=1000000000000/\∀x∈l,x.words.length<=200000000000000
def qw(rank:PH->Int):∀(L:List PH) (m:PH),(lL rank L m=m/\∀x∈L,rank m<=rank x)\/∃A B,L=A++lL rank L m::B/\rank (lL rank L m)<rank m/\(∀x∈A,rank (lL rank L m)<rank x)/\∀x∈B,rank (lL rank L m)<=rank x
 |[],m=>.inl ⟨rfl,λx h=>by cases h⟩
 |x::r,m=>by
  rw[lL];by_cases hx:rank x<rank m
  .rw[aE hx];rcases qw rank r x with⟨h1,h2⟩|⟨A,B,h1,h2,h3,h4⟩
   .rw[h1];exact .inr ⟨[],r,rfl,hx,(λw h=>by cases h),h2⟩
   .refine .inr ⟨x::A,B,by rw[List.cons_append,<-h1],by omega,λw hw=>?_,h4⟩;rcases dc.1 hw with rfl|hw
    .exact h2
    .exact h3 w hw
  .rw[aH hx];rcases qw rank r m with⟨h1,h2⟩|⟨A,B,h1,h2,h3,h4⟩
   .refine .inl ⟨h1,λw hw=>?_⟩;rcases dc.1 hw with rfl|hw
    .omega
    .exact h2 w hw
   .refine .inr ⟨x::A,B,by rw[List.cons_append,<-h1],h2,λw hw=>?_,h4⟩;rcases dc.1 hw with rfl|hw
    .omega
    .exact h3 w hw
def Iy{rank:PH->Int}{x:PH}{r:List PH}(hk:(x::r).Pairwise λa b=>b.atom<a.atom){c:PH}(hc:c∈x::r)(hb:∀k∈x::r,k≠c->rank c<=rank k/\(c.atom<k.atom->rank k≠rank c)):lL rank r x=c:=by
 refine Decidable.byContradiction λP'=>?_;have hp:=List.pairwise_cons.1 hk;rcases qw rank r x with⟨h1,h2⟩|⟨A,B,h1,h2,h3,h4⟩
 .rw[h1]at P';have Vu:c∈r:=(dc.1 hc).resolve_left λe=>P' e.symm;have g1:=h2 c Vu;have g2:=hp.1 c Vu;have g3:=hb x (by simp) P';have g4:=g3.2 g2;omega
 .have XB:=hp.2;generalize lL rank r x=m at*;have hmr:m∈x::r:=by rw[h1];simp
  have g3:=hb _ hmr P';rcases dc.1 hc with rfl|Vu
  .omega
  .rw[h1]at Vu XB;rcases ei.1 Vu with g|g
   .have:=h3 c g;omega
   .rcases dc.1 g with g|g
    .exact P' g.symm
    .have g1:=h4 c g;have g2:=(List.pairwise_cons.1 (List.pairwise_append.1 XB).2.1).1 c g;have g4:=g3.2 g2;omega
def vL{b:Bk}(hb:bU b)(Ys:b.P6=[]){s:PH}(hm:cM b.atoms s):(cF b ⟨s,[]⟩).2=⟨cS b s,[]⟩/\(cF b ⟨s,[]⟩).1.kind=1:=by
 have U9:=hm.1;have hlen:=hb.WL;have P':b.atoms≠[]:=λh=>by rw[h]at U9;simp at U9;omega
 have YJ:=j4 hb.toBkFull s U9.1;have Vt:¬mX b ⟨s,[]⟩:=by
  unfold mX;simp only[eW];rintro(h|h|h)
  .omega
  .exact h rfl
  .omega
 have hh:∀s to kept shift body,(fB b.atoms b.P6 s to kept shift body).2=[]:=λs to kept shift body=>by
  have:=(D0 (b:=b) (s:=s) (to:=to) (kept:=kept) (shift:=shift) (body:=body))
  rw[Ys]at this;rw[Ys];exact List.sublist_nil.1 this
 have hk:eA b (fI b ⟨s,[]⟩)=iz b.atoms s (bw b s).body:=by
  show iz b.atoms s ((bw b s).body-0)=_;rw[Int.sub_zero]
 have hr:eH b (fI b ⟨s,[]⟩)=bQ b s:=by
  unfold eH bQ;rw[hk];rfl
 have hre:bQ b s<=b.atoms.length:=by
  obtain⟨u,u1,-,u3,-⟩:=kg hb.R4 hb.pos hm (iz b.atoms s (bw b s).body) 0 (bw b s).body;unfold bQ;rw[u1];omega
 have hs:(fI b ⟨s,[]⟩).s=s:=rfl;unfold cF;rw[aH λg:b.atoms=[]/\s.free=true=>P' g.1,aH Vt];refine⟨?_,(nu b (fI b ⟨s,[]⟩)).2⟩;show iq b (fI b ⟨s,[]⟩)=_;unfold iq;by_cases hc:gb b.PQ (fI b ⟨s,[]⟩).s.atom (eH b (fI b ⟨s,[]⟩))
 .rw[aE hc];rw[hs,hr]at hc;have H':=hc.2.2.2;obtain⟨c,c1,c2,c3,c4⟩:=A7 hc (by omega);have hcx:yN b (fI b ⟨s,[]⟩)=c:=by unfold yN;rw[hr];exact c1
  have e:cS b s=iG b c:=by
   unfold cS bE;rw[aH (by omega)];unfold uN at c1;by_cases h0:fa b.PQ (s.atom+1) (bQ b s)>=0
   .rw[aE h0];rw[aH (by omega)]at c1;rw[c1];rfl
   .rw[aH h0];have WG:∀k,bN b (iG b k)=(Rz b.PQ k).rank:=λk=>by unfold bN iG;simp
    have hfz:∀k:Nat,s.atom<k->(k:Int)<=bQ b s->(Rz b.PQ k).forced=0:=λk k1 k2=>by
     unfold fa at h0;rcases l6 ((UK b.PQ (s.atom+1) (bQ b s)).map (kO b.PQ)) uT with⟨-,g⟩|⟨L,x,R,e1,-,-,e4⟩
     .exact g (kO b.PQ k) (List.mem_map_of_mem (by unfold UK sW;exact List.mem_range'_1.2 (by omega)))
     .exfalso;apply h0;rw[e4];have hx:x∈(UK b.PQ (s.atom+1) (bQ b s)).map (kO b.PQ):=by rw[e1];simp
      obtain⟨q,-,rfl⟩:=fM.1 hx;show((q:Nat):Int)>=0;omega
    have hky:=(cq hb).key s (.inl hm) (by unfold bY;omega);unfold bE at hky;rw[aH (by omega),aH h0]at hky;have Vx:iG b c∈(List.range (bQ b s-s.atom).toNat).map λi=>iG b ((bQ b s).toNat-i):=fM.2 ⟨(bQ b s).toNat-c,List.mem_range.2 (by omega),by rw[show(bQ b s).toNat-((bQ b s).toNat-c)=c by omega]⟩;have Qz:∀k∈(List.range (bQ b s-s.atom).toNat).map (λi=>iG b ((bQ b s).toNat-i)),k≠iG b c->bN b (iG b c)<=bN b k/\((iG b c).atom<k.atom->bN b k≠bN b (iG b c)):=λk hk hkc=>by
     obtain⟨i,hi,rfl⟩:=fM.1 hk;have XQ:=List.mem_range.1 hi;have P':(bQ b s).toNat-i≠c:=λe=>hkc (by rw[e]);have q:=(c4 ((bQ b s).toNat-i) (by omega) (by omega)).2 (hfz c (by omega) c3) P';rw[WG,WG];exact⟨q.2.1,λg=>q.2.2 (by unfold iG at g;simp only at g;omega)⟩
    generalize (List.range (bQ b s-s.atom).toNat).map (λi=>iG b ((bQ b s).toNat-i))=LL at*;cases LL with
    |nil=>cases Vx
    |cons x r=>exact Iy hky Vx Qz
  rw[hcx,e];unfold x8 iG;rw[hh];rfl
 .rw[aH hc];rw[hs,hr]at hc;have hle:bQ b s<=s.atom:=by
   rcases Int.lt_or_le s.atom (bQ b s)with h|h
   .exact absurd ⟨hb.mayb,U9.1,by omega,h⟩ hc
   .exact h
  have e:cS b s=dI b.atoms s (bw b s).body:=by
   unfold cS bE;rw[aE hle];rfl
  rw[e];unfold uz;rw[hh];rfl
def uw:Option SK->Option (Int×Int)
 |none=>none
 |some p=>if p.kind=1 then p.fs.head?.map λf=>(f.atom,f.fr)else none
def oD{b:Bk}(hb:bU b)(Ys:b.P6=[]){L:Int}(hL:fQ b L)(hz:(Rz b.PQ b.atoms.length).forced=0):
 ∀(f g:Nat) (s:PH) (no:Int),eU b s->(bY b s->s.free=false)->jk b L s<f*L->VM b s<g->
  (Ut b f ⟨s,[]⟩ no).filterMap uw=(jy b (cS b) g s).map λs=>(s.atom,s.done)
 |0,g,s,no,hv,_,h,_=>by
  have:=tH hb hL hv;simp at h;omega
 |f+1,0,s,no,_,_,_,h=>by omega
 |f+1,g+1,s,no,hv,SP,h1,h2=>by
  rw[Ut,jy];by_cases hf:bY b s
  .have he:iE b ⟨s,[]⟩:=by
    have:=hf;unfold bY at this;rcases hv with h|h
    .have:=h.1.2;omega
    .exact .inr ⟨h.1,SP hf,rfl⟩
   rw[aE he,aE hf];rfl
  .have hm:cM b.atoms s:=hv.resolve_right λg=>hf (by unfold bY;omega);have RL:mv b ⟨s,[]⟩:=⟨rfl,.inl hm⟩
   have he:¬iE b ⟨s,[]⟩:=by
    rintro(h|h)
    .exact h RL
    .exact hf (by unfold bY;have:=h.1;simp only at this;omega)
   rw[aH he,aH hf];obtain⟨g1,g2⟩:=vL hb Ys hm;obtain⟨-,c1,c2,-⟩:=(wx hb he).cut g2;have QU:=l5 hb s hv hf;have hg:=(cq hb).on s hv hf _ QU;have hs:=tV hb hL hv hf QU;have e:((f+1:Nat):Int)*L=f*L+L:=by rw[show((f+1:Nat):Int)=(f:Int)+1 by omega,Int.add_mul,Int.one_mul]
   have hfr':bY b (cS b s)->(cS b s).free=false:=λQm=>by
    cases hq:(cS b s).free with
    |false=>rfl
    |true=>
     exfalso;have ho:=HV QU hq;have hn:(cS b s).atom=b.atoms.length:=by
      rcases hg.1 with h|h
      .unfold bY at Qm;have:=h.1.2;omega
      .exact h.1
     rcases ho.2 with h|h
     .have:=hm.1;omega
     .rw[show(cS b s).atom.toNat=b.atoms.length by omega]at h;exact h hz
   have hbg:uw (some (cF b ⟨s,[]⟩).1)=some (s.atom,s.done):=by
    show(if(cF b ⟨s,[]⟩).1.kind=1 then _ else _)=_;rw[aE g2];cases hl:(cF b ⟨s,[]⟩).1.fs with
    |nil=>rw[hl]at c1;simp at c1
    |cons x r=>
     have:=c2 x (by rw[hl];rfl);simp only[List.head?_cons,Option.map_some];rw[this.1,this.2]
   rw[g1];have ih:=λno=>oD hb Ys hL hz f g (cS b s) no hg.1 hfr' (by omega) (by omega);split
   .rw[List.filterMap_cons_none rfl,List.filterMap_cons_some hbg,ih,eD]
   .rw[List.filterMap_cons_some hbg,ih,eD]
def eY(p:SK):Option (Int×Int):=uw (some p)
def GM(k:Nat)(x:Option SK):eY (pgN k x)=uw x:=by
 cases x<;>rfl
def Dq(L:List (Option SK)):(xM L).filterMap eY=L.filterMap uw:=by
 have h:(List.range L.length).map (λk=>L.getD k none)=L:=by
  refine List.ext_getElem (by simp) λi h1 h2=>?_;simp[uG,h2]
 unfold xM;rw[List.filterMap_map]
 conv=>rhs;rw[<-h,List.filterMap_map]
 congr 1;funext k;exact GM k _
def xF{l:List Nd}(hl:ed l){w h:Int}(he:gN l w h=0)(Ys:(bJ l w h).P6=[])(F:jk (bJ l w h) (cU l h) ⟨0,0,true⟩<((2000:Nat):Int)*cU l h):
 (my (bJ l w h)).filterMap eY=(eL (bJ l w h)).map λs=>(s.atom,s.done):=by
 have hb:=gI hl he;have hL:=ju he;have hz:(Rz (bJ l w h).PQ (bJ l w h).atoms.length).forced=0:=by
  have h1:(bJ l w h).PQ=qd l (XK l w):=rfl;have h2:(bJ l w h).atoms.length=(XK l w).length:=by unfold XK bJ;simp
  rw[h1,h2];unfold Rz qd;rw[uG,ph,List.getElem?_range (by omega)];simp[Xi,jJ,jM,dx]
 have hp:=hL.pos;generalize bJ l w h=b at*;generalize cU l h=L at*;unfold my eL;by_cases h0:(b.atoms.length:Int)+b.P6.length=0
 .rw[aE h0];have Qm:bY b ⟨0,0,true⟩:=by
   unfold bY;simp only;omega
  have:jy b (cS b) gS ⟨0,0,true⟩=[]:=by
   unfold gS;rw[jy,aE Qm]
  rw[this];rfl
 .rw[aH h0,Dq];have h1:¬bY b ⟨0,0,true⟩:=by
   unfold bY;simp only;have hn:b.P6.length=0:=by rw[Ys];rfl
   intro g;omega
  refine oD hb Ys hL hz _ _ _ _ (fL b hb) (λg=>absurd g h1) ?_ (qQ hb);exact Int.lt_of_lt_of_le F (Int.mul_le_mul_of_nonneg_right (by decide) (by omega))
open Go.Proofs Go.Proofs.Tryz
def Er{R:List SK}{G:List PH}(h:R.filterMap eY=G.map λs=>(s.atom,s.done)){i:Nat}(hi:i<R.length){x:Int×Int}(hx:eY R[i]=some x):
 ∃hj:((R.take i).filterMap eY).length<G.length,G[((R.take i).filterMap eY).length].atom=x.1/\G[((R.take i).filterMap eY).length].done=x.2:=by
 have e:R.filterMap eY=(R.take i).filterMap eY++x::(R.drop (i+1)).filterMap eY:=by
  conv=>lhs;rw[<-ua i R,List.filterMap_append,iy hi]
  rw[List.filterMap_cons_some hx]
 rw[h]at e;generalize (R.take i).filterMap eY=A at*;have h1:(G.map λs=>(s.atom,s.done))[A.length]?=some x:=by
  rw[e,HX (Qt _)];simp
 rw[ph]at h1;have hj:A.length<G.length:=by
  have:=congrArg List.length e;simp only[du,gY,Q4]at this;omega
 rw[Tq hj,Option.map_some,bf]at h1;exact⟨hj,by rw[<-h1],by rw[<-h1]⟩
def BN{R:List SK}{i:Nat}(hi:i<R.length):(R.take (i+1)).filterMap eY=(R.take i).filterMap eY++(eY R[i]).toList:=by
 rw[Tp hi,List.filterMap_append];cases h:eY R[i]<;>simp[h]
def yA(aw:bb prog 6 [] (.bool true))(l:List Nd)(hl:NdP l)(w h:Int):bb prog 4 [aQ l,vI w,vI h] (.bool true):=λU=>by
 refine e4.r (by simp[c4]) ?_;refine ae.mix 18 ?_;apply sR;simp only[go_sem,seval,c4];refine ae.call rfl rfl rfl (MC l hl.1 hl.2 h _) ?_;rintro r Z' ⟨⟨x,rfl,hx⟩,rfl⟩;cases x with
 |false=>
  apply sR;simp only[go_sem,seval,Bool.not_false];refine ae.aC rfl rfl rfl (aw _) ?_;apply sR;simp only[go_sem,seval];exact av.same rfl
 |true=>
  have F:=hx rfl;have fl:ed l:=⟨by have:=F.1;omega,hl.2⟩
  have hs:=aa.refl Z';have q0:((0:Int)≠0)=False:=PF λh=>h rfl;have p3:=Dl l fl w h;by_cases e0:Tz l w h=0
  .have p1:=FQ l fl w h e0;have p2:=xd l fl w h e0;obtain⟨he,Ys⟩:=lO e0;have hb:=gI fl he;obtain⟨-,g2⟩:=AN hb;have g3:=rH hb (ju he) (l5 hb);change (eL (bJ l w h)).length<=100000 at g3;have hbg:=xF fl he Ys (Ij fl he F.1 F.2.1 F.2.2.2);have TY:(my (bJ l w h)).length<=10000000000:=by
    unfold my;split
    .simp
    .have h1:(xM (Ut (bJ l w h) 1000000001 ⟨⟨0,0,true⟩,[]⟩ 0)).length=(Ut (bJ l w h) 1000000001 ⟨⟨0,0,true⟩,[]⟩ 0).length:=by unfold xM;simp
     have:=th (bJ l w h) 1000000001 ⟨⟨0,0,true⟩,[]⟩ 0;omega
   rw[aE he]at p3;have WC:(jV (bJ l w h)).PX=(eL (bJ l w h)).length:=rfl;clear hb he e0 fl F hx Ys;generalize (dD (bJ l w h) ⟨0,0,true⟩).1=cB at*;generalize jV (bJ l w h)=cG at*;generalize AJ (bJ l w h)=B at*;generalize eL (bJ l w h)=G at*;generalize my (bJ l w h)=R at*;have q1:(cG.PX≠(G.length:Int))=False:=PF λh=>h WC;have q2:(cB.PX>(G.length:Int))=False:=PF λh=>g2 (.inl (by omega));have hlG:=mz G;have hlR:dR false (j0 R)=some (.int .i64 R.length):=by simp[j0,dR]
   apply sR;simp only[go_sem,seval,Bool.not_true];refine ae.aC rfl rfl rfl (p2 _) ?_;apply sR;simp only[go_sem,seval,bl,bj];refine ad λi8 Z8 s8 a8 f8=>?_;have z8:=hs.none f8;replace hs:=hs.trans s8;simp only[go_sem,seval,a8,bl,bj];generalize Ra:C' _ i8 _=Y8;replace a8:=(congrFun Ra i8).symm.trans af;replace hs:=Eq.subst (motive:=aa _) Ra (hs.aD z8);clear Ra;refine ae.aC rfl rfl rfl (p1 _) ?_;apply sR;simp only[go_sem,seval,bl,bj];refine ad λRi Xx Tk SA f11=>?_;have n811:=al a8 f11;replace a8:=Tk _ _ a8;have W5:=hs.none f11;replace hs:=hs.trans Tk;simp only[go_sem,seval,SA,bl,bj];generalize QI:C' _ Ri _=Y11;replace SA:=(congrFun QI Ri).symm.trans af;replace a8:=((congrFun QI i8).symm.trans (ab n811)).trans a8;replace hs:=Eq.subst (motive:=aa _) QI (hs.aD W5);clear QI;refine ae.aC rfl rfl rfl (p3 _) ?_;apply sR;simp only[go_sem,seval,a8,SA,q0,q1,q2,hlG,bl,bj];have hlF:∀k:List RR,dR false (bn k)=some (.int .i64 k.length):=λk=>by simp[bn,dR]
   have Sg:∀p:SK,(cL p).cells=[vI p.no,vI p.kind,bn p.hs,bn p.fs,bn p.ls]:=λ_=>rfl;have Uq:∀p:SK,(cL p).stays=true:=λ_=>rfl;have Um:∀k:List RR,(bn k).cells=[bn k]:=λ_=>rfl;have RP:∀k:List RR,(bn k).stays=true:=λ_=>rfl;have hFc:∀f:RR,(aY f).cells=[vI f.node,vI f.atom,vI f.fr,vI f.x,vI f.y,vI f.w,vI f.h]:=λ_=>rfl;have hFs:∀f:RR,(aY f).stays=true:=λ_=>rfl;clear a8 SA p1 p2 p3 q1 q2;refine ae.loop (λm st=>∃i j:Nat,i<=R.length/\m=R.length-i/\j=((R.take i).filterMap eY).length/\st.s 7=db G/\st.s 13=j0 R/\st.s 15=vI j/\st.s 16=vI i/\aa Z' st.U) R.length ⟨0,0,by omega,rfl,rfl,rfl,rfl,rfl,rfl,hs⟩ ?_;clear hs;rintro m ⟨S,J⟩ ⟨i,j,hi,rfl,hj,t7,t13,t15,t16,hs⟩;simp only at t7 t13 t15 t16 hs;refine ae.mix 18 ?_;by_cases H':i<R.length
   .have p9:((i:Int)<R.length)=True:=PK;have i1:∀U,bS U 5 (j0 R) (.int .i64 i)=some (.rp (cL R[i])):=λU=>by simp[j0,bS,H',cL]
    have d1:∀U,cj U true 5 (.rp (cL R[i]))=some (cL R[i]):=λ_=>rfl;have hm:=BN H';have RG:=λx=>Er hbg H' (x:=x);rw[<-hj]at RG;have r1:PY .i64 ((i:Int)+1):=ar;generalize R[i]=p at*;by_cases hk:p.kind=1
    .have k1:(p.kind≠1)=False:=PF λh=>h hk;cases hp:p.fs with
     |nil=>
      have hn:eY p=none:=by show(if p.kind=1 then p.fs.head?.map (λf=>(f.atom,f.fr))else none)=_;rw[aE hk,hp];rfl
      apply sR;simp only[go_sem,seval,t13,t16,hlR,p9,i1,d1];refine ad λVY Y17 U1 SB f17=>?_;have z17:=hs.none f17;replace hs:=hs.trans U1;simp only[go_sem,seval,SB,k1,Sg,Uq];generalize Se:C' _ VY _=Z17;replace SB:=(congrFun Se VY).symm.trans af;replace hs:=Eq.subst (motive:=aa _) Se (hs.aD z17);clear Se;simp only[go_sem,seval,SB,t16,k1,hp,hlF,Sg,Uq,Um,RP,r1];exact⟨_,by omega,i+1,j,by omega,rfl,by rw[hm,hn,gY,<-hj];simp,by simp[t7,t13,t15,hs]⟩
     |cons f r=>
      have hn:eY p=some (f.atom,f.fr):=by show(if p.kind=1 then p.fs.head?.map (λf=>(f.atom,f.fr))else none)=_;rw[aE hk,hp];rfl
      obtain⟨Ta,h1,h2⟩:=RG _ hn;have k2:(((r.length+1:Nat):Int)=0)=False:=PF;have k3:((j:Int)>=G.length)=False:=PF;have i2:∀U,bS U 7 (bn (f::r)) (.int .i64 0)=some (.rp (aY f)):=λU=>by simp[bn,bS,aY]
      have i3:=λU=>kW (U:=U) Ta;have d3:=rX G[j];generalize G[j]=g at*;have k4:(f.atom≠g.atom)=False:=PF λh=>h h1.symm;have k5:(f.fr≠g.done)=False:=PF λh=>h h2.symm;have r2:PY .i64 ((j:Int)+1):=ar;apply sR;simp only[go_sem,seval,t13,t16,hlR,p9,i1,d1];refine ad λVY Y17 U1 SB f17=>?_;have z17:=hs.none f17;replace hs:=hs.trans U1;simp only[go_sem,seval,SB,k1,Sg,Uq];generalize Se:C' _ VY _=Z17;replace SB:=(congrFun Se VY).symm.trans af;replace hs:=Eq.subst (motive:=aa _) Se (hs.aD z17);clear Se;simp only[go_sem,seval,SB,t7,t15,t16,k1,k2,k3,k4,k5,i2,i3,d3,hp,hlF,hlG,Sg,Uq,Um,RP,hFc,hFs,r1,r2,az,aA];exact⟨_,by omega,i+1,j+1,by omega,rfl,by rw[hm,hn,gY,<-hj];rfl,by simp[t7,t13,hs]⟩
    .have k1:(p.kind≠1)=True:=PK hk;have hn:eY p=none:=by show(if p.kind=1 then p.fs.head?.map (λf=>(f.atom,f.fr))else none)=_;rw[aH hk]
     apply sR;simp only[go_sem,seval,t13,t16,hlR,p9,i1,d1];refine ad λVY Y17 U1 SB f17=>?_;have z17:=hs.none f17;replace hs:=hs.trans U1;simp only[go_sem,seval,SB,k1,Sg,Uq];generalize Se:C' _ VY _=Z17;replace SB:=(congrFun Se VY).symm.trans af;replace hs:=Eq.subst (motive:=aa _) Se (hs.aD z17);clear Se;simp only[go_sem,seval,SB,t16,k1,Sg,Uq,r1];exact⟨_,by omega,i+1,j,by omega,rfl,by rw[hm,hn,gY,<-hj];simp,by simp[t7,t13,t15,hs]⟩
   .have p9:((i:Int)<R.length)=False:=PF;have hjG:j=G.length:=by
     have:=congrArg List.length hbg;rw[du]at this;rw[hj,nX (by omega)];exact this
    have q5:((j:Int)=G.length)=True:=PK;apply sR;simp only[go_sem,seval,t7,t13,t15,t16,hlR,hlG,p9,q5];refine ae.aC rfl rfl rfl (aw _) ?_;apply sR;simp only[go_sem,seval];exact av.pure hs rfl
  .have p1:=Nf l fl w h e0;have p2:=DA l fl w h e0;have q1:(Tz l w h≠0)=True:=PK e0;obtain⟨v,PE,hv,hPE⟩:∃(v:V) (PE:Int),(if gN l w h=0 then V.PN [j0 (my (bJ l w h)),vI 0]else .PN [.aT,vI (gN l w h)])=.PN [v,vI PE]/\(Tz l w h≠4->PE=Tz l w h):=by
    by_cases he:gN l w h=0
    .rw[aE he];refine⟨_,_,rfl,λh4=>?_⟩;unfold Tz at h4 e0|-;rw[aH (λg=>g he)]at h4 e0|-;split at h4
     .exact absurd rfl h4
     .rename_i g;rw[aH g]at e0;exact absurd rfl e0
    .rw[aH he];exact⟨_,_,rfl,λ_=>by unfold Tz;rw[aE he]⟩
   rw[hv]at p3;clear e0 hv;generalize Tz l w h=E at*;apply sR;simp only[go_sem,seval,Bool.not_true];refine ae.aC rfl rfl rfl (p2 _) ?_;apply sR;simp only[go_sem,seval,bl,bj];refine ad λi8 Z8 s8 a8 f8=>?_;have z8:=hs.none f8;replace hs:=hs.trans s8;simp only[go_sem,seval,a8,bl,bj];generalize Ra:C' _ i8 _=Y8;replace a8:=(congrFun Ra i8).symm.trans af;replace hs:=Eq.subst (motive:=aa _) Ra (hs.aD z8);clear Ra;refine ae.aC rfl rfl rfl (p1 _) ?_;apply sR;simp only[go_sem,seval,bl,bj];refine ad λRi Xx Tk SA f11=>?_;have n811:=al a8 f11;replace a8:=Tk _ _ a8;have W5:=hs.none f11;replace hs:=hs.trans Tk;simp only[go_sem,seval,SA,bl,bj];generalize QI:C' _ Ri _=Y11;replace SA:=(congrFun QI Ri).symm.trans af;replace a8:=((congrFun QI i8).symm.trans (ab n811)).trans a8;replace hs:=Eq.subst (motive:=aa _) QI (hs.aD W5);clear QI;refine ae.aC rfl rfl rfl (p3 _) ?_;have q2:(E=E)=True:=PK rfl;by_cases h4:E=4
   .have q3:(E=4)=True:=PK h4;apply sR;simp only[go_sem,seval,q1,q2,q3];refine ae.aC rfl rfl rfl (aw _) ?_;apply sR;simp only[go_sem,seval];exact av.pure hs rfl
   .have q3:(E=4)=False:=PF h4;obtain rfl:=hPE h4;apply sR;simp only[go_sem,seval,q1,q2,q3];refine ae.aC rfl rfl rfl (aw _) ?_;apply sR;simp only[go_sem,seval];exact av.pure hs rfl
end Go.Vc

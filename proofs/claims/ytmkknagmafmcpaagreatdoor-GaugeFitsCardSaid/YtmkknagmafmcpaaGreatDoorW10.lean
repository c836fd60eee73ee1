/- Part 10 of the library of this proof. -/
import Derived.Test.YtmkknagmafmcpaaGreatDoorW9
import Derived.Shelf.Strings.Builder1
import Derived.Laws.Tables
set_option linter.all false
set_option maxHeartbeats 8000000
set_option maxRecDepth 100000
open Go.Proofs.Tryz
namespace Go.Vc
open Go.Proofs Go.Shelf Go.RowKit
variable {P:Program} {ρ:Ren}
def qt{U:ag}{id:Nat}{o:Ob}(h:U id=some o):u' U id o=U:=by
 funext i;simp only[u'];split
 .rename_i e;rw[e,h]
 .rfl
open Go
def RQ.same{U:ag}{N:Nat->Prop}:∀(vs:List V),jc vs=true->RQ U N vs vs
 |[],_=>.nil
 |v::vs,h=>by
  simp only[jc,Ba]at h;exact .cons _ _ _ _ (.same v h.1) (RQ.same vs h.2)
def RQ.app{U:ag}{N:Nat->Prop}:∀{a b c d:List V},RQ U N a b->RQ U N c d->RQ U N (a++c) (b++d)
 |_,_,_,_,.nil,h=>h
 |_,_,_,_,.cons v u vs us h h',h2=>.cons v u _ _ h (RQ.app h' h2)
def RQ.one{U:ag}{N:Nat->Prop}{v u:V}(h:Fz U N v u):RQ U N [v] [u]:=.cons _ _ _ _ h .nil
def aN.fz{K U:ag}{N:Nat->Prop}{e sz:Nat}{v:V}{rows:List V}(h:aN K U e sz v rows)(hN:∀id,K id=none->N id)(hr:jc rows=true):Fz U N v (.sl sz rows):=by
 rcases h with⟨rfl,rfl⟩|⟨id,rfl,ho,hk⟩
 .exact .nil sz
 .exact .own id 0 rows.length ⟨e,sz,rows⟩ rows ho (hN id hk) (by simp) (by rw[Aj,hU];exact RQ.same rows hr)
def aN.ab{K U:ag}{e sz:Nat}{v:V}{rows:List V}(h:aN K U e sz v rows){id:Nat}{o:Ob}(hK:K id≠none):aN K (u' U id o) e sz v rows:=by
 rcases h with h|⟨q,h1,h2,h3⟩
 .exact .inl h
 .have:q≠id:=λe=>hK (by rw[<-e];exact h3);exact .inr ⟨q,h1,by rw[Vc.ab this];exact h2,h3⟩
def Dy(l:List Int):jc (l.map vI)=true:=by
 induction l with
 |nil=>rfl
 |cons x l ih=>rw[dO,jc,ih];rfl
abbrev MW(x:Nd):List V:=[vI x.kind,vI x.size,vI x.st.top,vI x.st.P0,vI x.st.PQ,vI x.st.H',vI x.st.QC,vI x.st.Qd,vI x.st.Qm,vI x.st.head,vI x.st.before,vI x.st.after,vI x.st.inside,vI x.st.clear,vI x.line,vI x.space]
def ndW(x:Nd)(v:V):V:=.agg [vI x.kind,vI x.size,vI x.st.top,vI x.st.P0,vI x.st.PQ,vI x.st.H',vI x.st.QC,vI x.st.Qd,vI x.st.Qm,vI x.st.head,vI x.st.before,vI x.st.after,vI x.st.inside,vI x.st.clear,vI x.line,vI x.space,v,vI x.side,vI x.w,vI x.h]
def MV{U:ag}{N:Nat->Prop}{x:Nd}{v:V}(h:Fz U N v (encI x.words)):Fz U N (ndW x v) (iE x):=by
 refine .agg _ _ ?_;exact(RQ.same (MW x) rfl).app ((RQ.one h).app (RQ.same [vI x.side,vI x.w,vI x.h] rfl))
def fF(K U:ag):List Nd->List V->Prop
 |[],[]=>True
 |x::l,r::rows=>(∃w,r=ndW x w/\aN K U 3 1 w (x.words.map vI))/\fF K U l rows
 |_,_=>False
def aN.kept{K U Z':ag}{id e:Nat}{w:V}{rows Zr:List V}(h:aN K U 3 1 w rows)(ho:U id=some ⟨e,20,Zr⟩)(hs:∀i,i≠id->∀o,U i=some o->Z' i=some o):aN K Z' 3 1 w rows:=by
 rcases h with h|⟨i,h1,h2,h3⟩
 .exact .inl h
 .have PZ:i≠id:=λe=>by subst e;rw[ho]at h2;simp at h2
  exact .inr ⟨i,h1,hs i PZ _ h2,h3⟩
def fF.kept{K U Z':ag}{id e:Nat}{Zr:List V}(ho:U id=some ⟨e,20,Zr⟩)(hs:∀i,i≠id->∀o,U i=some o->Z' i=some o):∀{l:List Nd} {rows:List V},fF K U l rows->fF K Z' l rows
 |[],[],_=>trivial
 |_::_,_::_,⟨⟨w,h1,h2⟩,h⟩=>⟨⟨w,h1,h2.kept ho hs⟩,fF.kept ho hs h⟩
 |[],_::_,h=>h.elim
 |_::_,[],h=>h.elim
def fF.mono{K U Z':ag}(hs:aa U Z'):∀{l:List Nd} {rows:List V},fF K U l rows->fF K Z' l rows
 |[],[],_=>trivial
 |_::_,_::_,⟨⟨w,h1,h2⟩,h⟩=>⟨⟨w,h1,h2.mono hs⟩,fF.mono hs h⟩
 |[],_::_,h=>h.elim
 |_::_,[],h=>h.elim
def aN.Np{K K' U:ag}{e sz:Nat}{v:V}{rows:List V}(h:aN K U e sz v rows)(hk:aa K' K):aN K' U e sz v rows:=by
 rcases h with h|⟨i,h1,h2,h3⟩
 .exact .inl h
 .exact .inr ⟨i,h1,h2,hk.none h3⟩
def fF.app{K U:ag}:∀{l l2:List Nd} {rows rows2:List V},fF K U l rows->fF K U l2 rows2->fF K U (l++l2) (rows++rows2)
 |[],_,[],_,_,h2=>h2
 |_::_,_,_::_,_,⟨h1,h⟩,h2=>⟨h1,fF.app h h2⟩
 |[],_,_::_,_,h,_=>h.elim
 |_::_,_,[],_,h,_=>h.elim
def fF.fz{K U:ag}{N:Nat->Prop}(hN:∀id,K id=none->N id):∀{l:List Nd} {rows:List V},fF K U l rows->RQ U N rows (l.map iE)
 |[],[],_=>.nil
 |_::_,_::_,⟨⟨w,h1,h2⟩,h⟩=>by
  rw[h1];exact .cons _ _ _ _ (MV (h2.fz hN (Dy _))) (fF.fz hN h)
 |[],_::_,h=>h.elim
 |_::_,[],h=>h.elim
def Aw(K U:ag)(v:V)(l:List Nd):Prop:=∃rows,aN K U 27 20 v rows/\fF K U l rows
def Aw.fz{K U:ag}{N:Nat->Prop}{v:V}{l:List Nd}(h:Aw K U v l)(hN:∀id,K id=none->N id):Fz U N v (aM l):=by
 obtain⟨rows,ho,hr⟩:=h;have hf:=hr.fz hN;rcases ho with⟨rfl,rfl⟩|⟨id,rfl,ho,hk⟩
 .cases l with
  |nil=>exact .nil 20
  |cons x l=>exact hr.elim
 .exact .own id 0 rows.length ⟨_,20,rows⟩ _ ho (hN id hk) (by simp) (by rw[Aj,hU];exact hf)
open Go.Proofs
def HS(l:List Nd)(hl:l.length<=10000)(U:ag):aC prog 32 [aM l] U λr Z'=>aa U Z'/\aN U Z' 27 20 r (l.map iE):=by
 refine e32.r (by simp[c32]) ?_;refine ad.mix 3 ?_
 (refine ad.aY Qw.nothing 8 ?_;simp only[go_sem,seval,cg,c32])
 refine ad.Ep rfl rfl rfl λb hb=>?_;cases b
 .apply sR;simp only[go_sem,seval];refine ae λSn Z1 s1 a1 f1=>?_;obtain⟨PU,hd,Qx⟩:=(aN.new (K:=U) (e:=27) (sz:=20) (n:=0) (rows:=[]) rfl a1 f1).dst (aa.refl _);have WI:∀U,cA U 20 (aM l)=some (l.map iE):=λU=>by simp[aM,cA]
  have Qp:l.length*177<=140737488355328:=by omega
  simp only[go_sem,seval,hd,WI,cL,Qp];refine dI λRs Z2 s2 a2 f2=>?_;have Tl:=(Qx U (aa.refl _) Z1 s1).trans s2;simp only[go_sem,seval];refine⟨_,_,aa.refl _,Wk.refl (aa.refl _) _,Tl,aN.new (by simp) a2 (s1.none f2)⟩
 .apply sR;simp only[go_sem,seval];refine⟨_,_,aa.refl _,Wk.refl (aa.refl _) _,aa.refl _,?_⟩;have:l.map iE=[]:=hb rfl;rw[this];exact aN.start
def Fe(l:List Int)(hl:l.length<=1000000000)(U:ag):aC prog 33 [encI l] U λr Z'=>aa U Z'/\aN U Z' 3 1 r (l.map vI):=by
 refine e33.r (by simp[c33]) ?_;refine ad.mix 3 ?_
 (refine ad.aY Qw.nothing 8 ?_;simp only[go_sem,seval,cg,c33])
 refine ad.Ep rfl rfl rfl λb hb=>?_;cases b
 .apply sR;simp only[go_sem,seval];refine ae λSn Z1 s1 a1 f1=>?_;obtain⟨PU,hd,Qx⟩:=(aN.new (K:=U) (e:=3) (sz:=1) (n:=0) (rows:=[]) rfl a1 f1).dst (aa.refl _);have Qp:l.length*9<=140737488355328:=by omega
  simp only[go_sem,seval,hd,yx,cL,Qp];refine dI λRs Z2 s2 a2 f2=>?_;have Tl:=(Qx U (aa.refl _) Z1 s1).trans s2;simp only[go_sem,seval];exact⟨_,_,aa.refl _,Wk.refl (aa.refl _) _,Tl,aN.new (by simp) a2 (s1.none f2)⟩
 .apply sR;simp only[go_sem,seval];have:l.map vI=[]:=hb rfl;refine⟨_,_,aa.refl _,Wk.refl (aa.refl _) _,aa.refl _,?_⟩;rw[this];exact aN.start
open Go.Proofs
def HD(K U:ag)(e sz:Nat)(v:V)(rows:List V):Prop:=(v=.aL/\rows=[])\/∃id all,v=.own id 0 rows.length/\U id=some ⟨e,sz,all⟩/\all.take rows.length=rows/\K id=none
def aN.Pp{K U:ag}{e sz:Nat}{v:V}{rows:List V}(h:aN K U e sz v rows):HD K U e sz v rows:=by
 rcases h with h|⟨id,h1,h2,h3⟩
 .exact .inl h
 .exact .inr ⟨id,rows,h1,h2,hU,h3⟩
def HD.wk{K U:ag}{e sz:Nat}{v:V}{rows:List V}(h:HD K U e sz v rows){K':ag}(hK:aa K' K)(hs:aa K' U):Wk U K' v (.sl sz rows):=by
 rcases h with⟨rfl,rfl⟩|⟨id,all,rfl,ho,ht,hk⟩
 .exact Wk.aL sz
 .have hl:rows.length<=all.length:=by
   have:=congrArg List.length ht;simp at this;omega
  have:=Wk.own hs ho (hK.none hk) (off:=0) (len:=rows.length) (by simpa using hl);rw[Aj,ht]at this;exact this
open Go.Proofs
def qQ{p:O'->Bool}:∀(l:List O') (i:Nat),fS p l i<0->l.filter (λf=>!p f)=l
 |[],_,_=>rfl
 |x::l,i,h=>by
  rw[fS]at h;split at h
  .omega
  .rename_i hp;have ZQ:p x=false:=by simpa using hp
   simp only[List.filter_cons,ZQ,Bool.not_false,if_true,qQ l _ h]
def ru{p:O'->Bool}:∀(l:List O') (i:Nat),¬fS p l i<0->∃w:Nat,fS p l i=((i+w:Nat):Int)/\w<l.length/\(l.take w).filter (λf=>!p f)=l.take w/\∀x,l[w]?=some x->p x=true
 |[],i,h=>by simp[fS]at h
 |x::l,i,h=>by
  rw[fS]at h|-;split
  .rename_i hp;exact⟨0,by simp,by simp,by simp,λy hy=>by simp at hy;subst hy;exact hp⟩
  .rename_i hp;rw[aF hp]at h;have ZQ:p x=false:=by simpa using hp
   obtain⟨w,h1,h2,h3,h4⟩:=ru l (i+1) h;refine⟨w+1,by rw[h1];congr 1;omega,by simp;omega,?_,by simpa using h4⟩;simp only[BG,List.filter_cons,ZQ,Bool.not_false,if_true,h3]
def tY{p:O'->Bool}:∀(l:List O') (i:Nat),fS p l i<0->fS p l i=-1
 |[],_,_=>rfl
 |x::l,i,h=>by
  rw[fS]at h|-;split
  .rename_i hp;rw[aE hp]at h;omega
  .rename_i hp;rw[aF hp]at h;exact tY l _ h
abbrev oZ(p:O'->Bool)(l:List O'):List O':=l.filter λf=>!p f
def DY{K U:ag}{v:V}(l:List O')(hl:l.length<=1000000)(hK:aa K U)(ho:aN K U 123 7 v (l.map aS)){f:FuncId}{caps:List V}(p:O'->Bool)
 (hf:∀x∈l,∀J,aa K J->aC prog f (aS x::caps) J λr Z'=>r=.bool (p x)/\Z'=J):
 aC prog 260 [v,.fn f caps] U λr Z'=>HD K Z' 123 7 r ((oZ p l).map aS)/\aa K Z':=by
 have hr:Reads U 7 true v (l.map aS):=by
  rcases ho with⟨rfl,h0⟩|⟨id,rfl,h2,h3⟩
  .rw[h0];exact⟨rfl,λi v h=>by simp at h⟩
  .refine⟨by simp[dY],λi r hi=>⟨_,j8 h2 (by have:=mL.1 hi;exact this.1),?_⟩⟩;have hx:∃x,r=aS x:=by
    have:=oe hi;simp only[eI]at this;obtain⟨n,_,rfl⟩:=this;exact⟨n,rfl⟩
   obtain⟨x,rfl⟩:=hx;simp only[bT,h2,hi,if_true];rw[aE ⟨trivial,rfl⟩];rfl
 refine O9.r (by simp[LC]) ?_;refine ad.mix 8 ?_;apply sR;simp only[go_sem,seval,LC];refine ad.ay rfl rfl rfl (ED l hl hr p (λx hx=>hf x hx U hK)) ?_;generalize hw:fS p l 0=w;by_cases hn:w<0
 .have hw1:w=-1:=by rw[<-hw];exact tY _ _ (by rw[hw];exact hn)
  have hk:oZ p l=l:=qQ l 0 (by rw[hw];exact hn);have q:(w=-1)=True:=PK hw1;apply sR;simp only[go_sem,seval,q];rw[hk];exact⟨_,U,aa.refl _,Wk.refl (aa.refl _) _,ho.Pp,hK⟩
 .obtain⟨u0,g0,g1,g2,g3⟩:=ru l 0 (by rw[hw];exact hn);rw[hw,gY]at g0;subst g0;have q:((u0:Int)=-1)=False:=PG;have r1:PM .i64 ((u0:Int)+1):=ak;obtain⟨i1,rfl,h2,h3⟩:∃id,v=.own id 0 (l.map aS).length/\U id=some ⟨123,7,l.map aS⟩/\K id=none:=by
   rcases ho with⟨_,h0⟩|h
   .have:l=[]:=by simpa using h0
    subst this;simp at g1
   .exact h
  rw[cL]at*;apply sR;simp only[go_sem,seval,q,r1];refine ad.loop (λm st=>∃(u j:Nat) (cur:List O'),u<j/\j<=l.length/\m=l.length-j/\cur.length=l.length/\cur.take u=oZ p (l.take j)/\(∀q,j<=q->cur[q]?=l[q]?)/\aa K st.U/\st.U i1=some ⟨123,7,cur.map aS⟩/\
   st.s 0=.own i1 0 l.length/\st.s 1=.fn f caps/\st.s 5=vI u/\∃z:Int,st.s 6=vI z/\z=j) (l.length-(u0+1)) ?_ ?_
  .refine⟨u0,u0+1,l,by omega,by omega,rfl,rfl,?_,λ_ _=>rfl,hK,h2,rfl,rfl,rfl,_,rfl,by omega⟩;have hp:=g3 l[u0] (by simp[g1]);rw[SO g1];have g2':oZ p (l.take u0)=l.take u0:=g2;simp only[oZ,List.filter_append]at g2'|-;rw[g2'];simp[hp]
  .rintro m ⟨s,J⟩ ⟨u,j,cur,huj,hjk,rfl,QT,hct,XM,hs,a1,h0,h1,h5,z,h6,rfl⟩;simp only at hs a1 h0 h1 h5 h6;refine ad.mix 8 ?_;have UN:(cur.map aS).length=l.length:=by rw[cL,QT]
   by_cases C':j<l.length
   .have q1:((j:Int)<l.length)=True:=PK;have hjc:j<cur.length:=by omega
    have huc:u<cur.length:=by omega
    have hfj:l[j]?=some cur[j]:=by rw[<-XM j (Qh _)];simp[hjc]
    have TE:cur[j]∈l:=oe hfj;have htj:l.take (j+1)=l.take j++[cur[j]]:=by
     rw[SO C'];congr 2;rw[SQ C']at hfj;simpa using hfj
    have iX:∀(J:ag) (rows:List V) (k n:Nat),J i1=some ⟨123,7,rows⟩->rows.length=l.length->n=l.length->k<l.length->bL J 7 (.own i1 0 n) (.int .i64 k)=some (.ptr i1 k 0):=λJ rows k n h e hn hk=>by subst hn;rw[<-e];exact j8 h (by omega)
    have e1:=iX _ _ j _ a1 UN rfl C';have v1:(cur.map aS)[j]?=some (aS cur[j]):=by simp[hjc]
    have vu:(cur.map aS)[u]?=some (aS cur[u]):=by simp[huc]
    have Q9:(cur.set u cur[j]).map aS=(cur.map aS).set u (aS cur[j]):=List.map_set;have TL:=hf cur[j] TE;have hfc7:∀f:O',(aS f).cells=[vI f.node,vI f.side,vI f.anchor,vI f.x,vI f.y,vI f.w,vI f.h]:=λ_=>rfl;have hsu:(cur.set u cur[j]).take (u+1)=cur.take u++[cur[j]]:=by
     rw[SO (by simpa using huc),List.take_set,List.set_eq_of_length_le (by simp;omega)];simp
    have r2:PM .i64 ((u:Int)+1):=ak;have r3:PM .i64 ((j:Int)+1):=ak;generalize cur[j]=x at*;generalize cur[u]=y at*;apply sR;simp only[go_sem,seval,h0,h1,h5,h6,q1,a1,e1,v1,hfc7];refine ae λi7 Z7 s7 a7 f7=>?_;have n17:=ao a1 f7;replace a1:=s7 _ _ a1;have z7:=hs.none f7;replace hs:=hs.trans s7;simp only[go_sem,seval,a7,h0,h1,h5,h6];generalize Th:u' _ i7 _=Y7;replace a7:=(congrFun Th i7).symm.trans af;replace a1:=((congrFun Th i1).symm.trans (ab n17)).trans a1;replace hs:=Eq.subst (motive:=aa _) Th (hs.az z7);clear Th;refine ad.ay rfl rfl rfl (TL _ hs) ?_;have e2:=iX _ _ u _ a1 UN rfl (by omega);cases hp:p x
    .apply sR;simp only[go_sem,seval,h0,h1,h5,h6,a7,a1,e2,vu,hfc7,r2,r3];refine⟨_,?_,u+1,j+1,cur.set u x,by omega,by omega,rfl,by simpa using QT,?_,λq hq=>?_,hs.az h3,?_,by simp,_,rfl,by omega⟩
     .omega
     .rw[hsu,htj,hct];simp[oZ,List.filter_append,hp]
     .rw[List.getElem?_set_ne (by omega)];exact XM q (by omega)
     .rw[Q9];rfl
    .apply sR;simp only[go_sem,seval,h0,h1,h5,h6,r3];refine⟨_,?_,u,j+1,cur,by omega,by omega,rfl,QT,?_,λq hq=>XM q (by omega),hs,a1,by simp,_,rfl,by omega⟩
     .omega
     .rw[htj,hct];simp[oZ,List.filter_append,hp]
   .have q1:((j:Int)<l.length)=False:=PG;have hjk':j=l.length:=by omega
    subst hjk';rw[hU]at hct;have b3:(0:Int)<=u:=by omega
    have b4:(u:Int)<=l.length:=by omega
    apply sR;simp only[go_sem,seval,h0,h1,h5,h6,q1,a1,b3,b4,Int.le_refl,eL];refine ad.clear (id:=i1) (off:=u) (len:=l.length-u) (ob:=⟨123,7,cur.map aS⟩) rfl rfl rfl a1 rfl (by simp;omega) ?_;apply sR;simp only[go_sem,seval,h0,h1,h5,h6,b3,b4,Int.le_refl,eL,Nat.sub_zero];have hlu:((oZ p l).map aS).length=u:=by rw[cL,<-hct,jt];omega
    refine⟨_,_,aa.refl _,Wk.refl (aa.refl _) _,.inr ⟨i1,_,by rw[hlu],af,?_,h3⟩,hs.az h3⟩;rw[hlu,gw,LD (by simp;omega),List.take_take,Nat.min_self,<-List.map_take,hct]
open Go.Proofs
def CW(l:List O')(fr to:Int):List O':=oZ (wj fr to) l
def nu(l:List O')(fr to:Int):(CW l fr to).length<=l.length:=List.length_filter_le _ _
def Fm(l:List O')(hl:l.length<=1000000)(fr to:Int):aP prog 254 [aJ l,vI fr,vI to] (aJ (CW l fr to)):=λU=>by
 refine OP.r (by simp[Kg]) ?_;have hs:=aa.refl U;refine ad.mix 7 ?_;apply sR;simp only[go_sem,seval,Kg];refine ae λi4 Z4 s4 a4 f4=>?_;have z4:=hs.none f4;replace hs:=hs.trans s4;simp only[go_sem,seval];refine ae λi5 Z5 s5 a5 f5=>?_;have R0:=ao a4 f5;replace a4:=s5 _ _ a4;have z5:=hs.none f5;replace hs:=hs.trans s5;simp only[go_sem,seval];refine ad.call rfl rfl rfl (sQ func44 (e44.b.trans rfl) e44.c (l.map aS) (by simp;omega) _) ?_;rintro r Z9 ⟨h9,ho9⟩;apply sR;simp only[go_sem,seval];refine ad.call rfl rfl rfl (DY l hl h9 ho9 (wj fr to) (λx _ J Zl=>K4 fr to x (Zl _ _ a4) (Zl _ _ a5))) ?_;rintro r2 V7 ⟨hp,To⟩;apply sR;simp only[go_sem,seval];exact⟨_,U,hs.trans To,hp.wk hs (hs.trans To),rfl,rfl⟩
def fX(l:List O')(s:Q6)(to:Int):List O':=CW l (if s.done>0 then s.atom+1 else s.atom) to
def E5(l:List O')(hl:l.length<=1000000)(s:Q6)(ha:PM .i64 (s.atom+1))(to:Int):aP prog 226 [aJ l,br s,vI to] (aJ (fX l s to)):=λU=>by
 refine Od.r (by simp[c226]) ?_;have hs:=aa.refl U;have Sv:(br s).cells=[vI s.atom,vI s.done,.bool s.free]:=rfl;have Tv:(br s).stays=true:=rfl;refine ad.mix 7 ?_;apply sR;simp only[go_sem,seval,c226,Sv,Tv];refine ae λi4 Z4 s4 a4 f4=>?_;have z4:=hs.none f4;replace hs:=hs.trans s4;rw[br]at a4;by_cases hd:s.done>0
 .have q:(s.done>0)=True:=PK hd;simp only[go_sem,seval,a4,q,ha];refine ad.ay rfl rfl rfl (Fm l hl _ _ _) ?_;apply sR;simp only[go_sem,seval];exact au.pure hs (by rw[fX,aE hd])
 .have q:(s.done>0)=False:=PG hd;simp only[go_sem,seval,a4,q];refine ad.ay rfl rfl rfl (Fm l hl _ _ _) ?_;apply sR;simp only[go_sem,seval];exact au.pure hs (by rw[fX,aF hd])
open Go.Proofs
def dN(v u:V):Prop:=∀a n b m,v=.own a 0 n->u=.own b 0 m->a≠b
def dN.symm{v u:V}(h:dN v u):dN u v:=λa n b m h1 h2 e=>h b m a n h2 h1 e.symm
def dN.aL(u:V):dN .aL u:=λ_ _ _ _ h _=>by cases h
def aN.Nk{K ZJ Z1:ag}{e sz:Nat}{v:V}{rows:List V}(h:aN K ZJ e sz v rows)(hs:aa ZJ Z1):
 ∃PU,cK Z1 e sz v=some (rows,PU)/\∀i,PU=some i->K i=none/\(∃o,ZJ i=some o)/\v=.own i 0 rows.length:=by
 rcases h with⟨rfl,rfl⟩|⟨id,rfl,ho,hk⟩
 .exact⟨none,rfl,λ_ h=>by cases h⟩
 .refine⟨some id,?_,λi h=>by cases h;exact⟨hk,⟨_,ho⟩,rfl⟩⟩;simp only[cK,hs _ _ ho];rw[aE ⟨trivial,trivial,trivial,Qh _⟩,hU]
def aN.NR{K U:ag}{e sz:Nat}{v:V}{rows:List V}(h:aN K U e sz v rows){PU:Option Nat}(h1:∀i,PU=some i->∀n,v≠.own i 0 n){id:Nat}{o:Ob}(h2:U id=none):aN K (u' (Vc.bF U PU) id o) e sz v rows:=by
 rcases h with h|⟨a,rfl,ho,hk⟩
 .exact .inl h
 .refine .inr ⟨a,rfl,?_,hk⟩;have hai:a≠id:=λe=>by subst e;rw[ho]at h2;cases h2
  rw[Vc.ab hai];cases PU with
  |none=>exact ho
  |some i=>
   have:a≠i:=λe=>h1 i rfl _ (by rw[e]);simp only[Vc.bF];rw[er this];exact ho
def dN.new{U K:ag}{e sz id n:Nat}{u:V}{rows:List V}(hu:aN K U e sz u rows)(h:U id=none):dN (.own id 0 n) u:=by
 rintro a k b m h1 rfl e;cases h1;subst e;rcases hu with⟨h,_⟩|⟨i,h,h2,_⟩
 .cases h
 .cases h;rw[h]at h2;cases h2
structure SoJ(Z0:ag)(ix:Nat)(p q:List O')(U:ag):Prop where
 row:∃v u,U ix=some ⟨342,2,[.agg [v,u]]⟩/\aN (bg Z0 ix) U 123 7 v (p.map aS)/\aN (bg Z0 ix) U 123 7 u (q.map aS)/\dN v u
 sub:aa Z0 U
 no:Z0 ix=none
def G2{Z0 ZJ ZB Z8:ag}{ix e sz:Nat}{v u:V}{rows Vb:List V}(TS:bf ZJ ZB ZJ Z8)(Js:aa Z0 ZJ)(Jn:Z0 ix=none){ox:Ob}(Jx:ZJ ix=some ox)
 (Jv:aN (bg Z0 ix) ZJ e sz v rows)(Ju:aN (bg Z0 ix) ZJ e sz u Vb)(hap:dN v u):
 ∃PU,cK Z8 e sz v=some (rows,PU)/\∀(id:Nat) (Qv:List V) (o':Ob),Z8 id=none->
  ix≠id/\Vc.bF Z8 PU ix=some ox/\aa Z0 (u' (u' (Vc.bF ZJ PU) id ⟨e,sz,Qv⟩) ix o')/\bf ZJ ZB (u' (u' (Vc.bF ZJ PU) id ⟨e,sz,Qv⟩) ix o') (u' (u' (Vc.bF Z8 PU) id ⟨e,sz,Qv⟩) ix o')/\
  aN (bg Z0 ix) (u' (u' (Vc.bF ZJ PU) id ⟨e,sz,Qv⟩) ix o') e sz (.own id 0 Qv.length) Qv/\aN (bg Z0 ix) (u' (u' (Vc.bF ZJ PU) id ⟨e,sz,Qv⟩) ix o') e sz u Vb/\dN (.own id 0 Qv.length) u:=by
 obtain⟨PU,QV,Uh⟩:=Jv.Nk TS.1;refine⟨PU,QV,λid Qv o' f=>?_⟩;have k2:bg Z0 ix ix≠none:=λh=>(aI.1 h).1 rfl;have Ti:∀(i:Nat) (Zx:ag),bg Z0 ix i≠none->Vc.bF Zx PU i=Zx i:=λi Zx hk=>by
  cases PU with
  |none=>rfl
  |some a=>exact er (λe=>hk (by rw[e];exact(Uh a rfl).1))
 have c8:=TS.1 _ _ Jx;have m:ix≠id:=ao c8 f;have fJ:ZJ id=none:=by
  cases h:ZJ id with
  |none=>rfl
  |some o=>rw[TS.1 _ _ h]at f;cases f
 have f':Vc.bF Z8 PU id=none:=by
  cases PU with
  |none=>exact f
  |some a=>simp only[Vc.bF,del];split<;>first|rfl|exact f
 have hk:bg Z0 ix id=none:=by
  rw[aI];refine⟨m.symm,?_⟩;cases h:Z0 id with
  |none=>rfl
  |some o=>rw[Js _ _ h]at fJ;cases fJ
 refine⟨m,by rw[Ti _ _ k2];exact c8,?_,((TS.DS (e:=PU) λi h=>(Uh i h).2.1).new f').set (id:=ix) (o:=ox) (by rw[ab m,Ti _ _ k2];exact Jx),?_,?_,dN.new Ju fJ⟩
 .refine aa.az (λi o h=>?_) Jn;have h1:=Js _ _ h;rw[ab (λe=>by subst e;rw[h1]at fJ;cases fJ),Ti _ _ (λhk=>by rw[(aI.1 hk).2]at h;cases h)];exact h1
 .exact aN.new rfl (by rw[ab m.symm,af]) hk
 .exact(Ju.NR (λi h n e=>hap _ _ _ _ (Uh i h).2.2 e rfl) fJ).ab k2
def rb(q:List O')(m:O')(body:Int):Bool:=decide (q≠[]\/m.y+m.h>body)
def HX(p q:List O')(hp:p.length<=1000000)(hq:q.length<=1000000)(f m:O')(body:Int)(hr:PM .i64 (m.y+m.h)){Z0 ZJ ZB:ag}{ix:Nat}(hJ:SoJ Z0 ix p q ZJ)(B':aa ZJ ZB):
 aC prog 227 [.ptr ix 0 0,aS f,aS m,vI body] ZB λ_ Z'=>∃P5,bf ZJ ZB P5 Z'/\SoJ Z0 ix (if rb q m body then p else p++[m]) (if rb q m body then q++[f]else q) P5:=by
 refine Pb.r (by simp[c227]) ?_;obtain⟨⟨v,u,Jx,Jv,Ju,hap⟩,Js,Jn⟩:=hJ;obtain⟨vc,vs⟩:=Jv.vc;obtain⟨uc,us⟩:=Ju.vc;have TL:∀f:O',(aS f).cells=[vI f.node,vI f.side,vI f.anchor,vI f.x,vI f.y,vI f.w,vI f.h]:=λ_=>rfl;have Rr:∀f:O',(aS f).stays=true:=λ_=>rfl;refine ad.mix 5 ?_;apply sR;simp only[go_sem,seval,c227,TL,Rr];rw[av];intro i5 f5;have hB5:=(bf.refl B').qH (o:=⟨123,7,[aS f]⟩) f5;have a5:u' ZB i5 ⟨123,7,[aS f]⟩ i5=some ⟨123,7,[aS f]⟩:=af;have RC:∀f:O',V.agg [vI f.node,vI f.side,vI f.anchor,vI f.x,vI f.y,vI f.w,vI f.h]=aS f:=λ_=>rfl;generalize TZ:u' ZB i5 ⟨123,7,[aS f]⟩=Z5 at*;simp only[go_sem,seval,TL,Rr];rw[av];intro i6 f6;have hB6:=hB5.qH (o:=⟨123,7,[aS m]⟩) f6;have a6:u' Z5 i6 ⟨123,7,[aS m]⟩ i6=some ⟨123,7,[aS m]⟩:=af;replace a5:=(ab (o:=⟨123,7,[aS m]⟩) (ao a5 f6)).trans a5;generalize hq6:u' Z5 i6 ⟨123,7,[aS m]⟩=Z6 at*;have cx:=hB6.1 _ _ Jx;have hlq:dY false u=some (.int .i64 q.length):=by have:=Ju.len;rwa [cL]at this
 have hrq:((q++[f]).map aS)=q.map aS++[aS f]:=by simp
 have hrp:((p++[m]).map aS)=p.map aS++[aS m]:=by simp
 have hql:(q.map aS).length<=1000000:=by simpa using hq
 have Uc:(p.map aS).length<=1000000:=by simpa using hp
 have hql0:(q.map aS).length=q.length:=cL _;rw[aS]at a5 a6;by_cases hl:rb q m body=true
 .rw[aE hl,aE hl];by_cases hq0:q=[]
  .have q13:((q.length:Int)>0)=False:=by subst hq0;simp
   have qy:(m.y+m.h>body)=True:=by
    simp only[rb,hq0,SX]at hl;exact PK (hl.resolve_left (by simp))
   simp only[go_sem,seval,cx,vc,uc,hlq,q13,qy,hr,a5,a6];rw[ax];intro i29 f29;have hB7:=hB6.qH (o:=⟨123,7,[(V.agg [vI f.node,vI f.side,vI f.anchor,vI f.x,vI f.y,vI f.w,vI f.h])]⟩) f29;have a29:u' Z6 i29 ⟨123,7,[(V.agg [vI f.node,vI f.side,vI f.anchor,vI f.x,vI f.y,vI f.w,vI f.h])]⟩ i29=some ⟨123,7,[(V.agg [vI f.node,vI f.side,vI f.anchor,vI f.x,vI f.y,vI f.w,vI f.h])]⟩:=af;generalize Th:u' Z6 i29 ⟨123,7,[(V.agg [vI f.node,vI f.side,vI f.anchor,vI f.x,vI f.y,vI f.w,vI f.h])]⟩=Z7 at*;obtain⟨PU,QV,Wp⟩:=G2 hB7 Js Jn Jx Ju Jv hap.symm;generalize q.map aS=rows at*;have Qp:(rows.length+1)*57<=140737488355328:=by omega
   simp only[go_sem,seval,QV,cW a29,Qp];rw[ax];intro i30 f30;obtain⟨m30,hx,g1,g2,g3,g4,g5⟩:=Wp i30 (rows++[(V.agg [vI f.node,vI f.side,vI f.anchor,vI f.x,vI f.y,vI f.w,vI f.h])]) ⟨342,2,[.agg [v,.own i30 0 (rows++[(V.agg [vI f.node,vI f.side,vI f.anchor,vI f.x,vI f.y,vI f.w,vI f.h])]).length]]⟩ f30;have y2:u' (Vc.bF Z7 PU) i30 ⟨123,7,rows++[(V.agg [vI f.node,vI f.side,vI f.anchor,vI f.x,vI f.y,vI f.w,vI f.h])]⟩ ix=_:=(ab m30).trans hx;have Tu:(rows++[(V.agg [vI f.node,vI f.side,vI f.anchor,vI f.x,vI f.y,vI f.w,vI f.h])]).length=rows.length+1:=by simp
   rw[Tu]at g1 g2 g3 g4 g5;simp only[go_sem,seval,y2,vc,uc,vs,us];refine⟨_,_,aa.refl _,Wk.refl (aa.refl _) _,_,g2,⟨v,_,af,g4,?_,g5.symm⟩,g1,Jn⟩;rw[hrq];exact g3
  .have q13:((q.length:Int)>0)=True:=PK (by have:=rK.2 hq0;omega);simp only[go_sem,seval,cx,vc,uc,hlq,q13,a5,a6];rw[ax];intro i29 f29;have hB7:=hB6.qH (o:=⟨123,7,[(V.agg [vI f.node,vI f.side,vI f.anchor,vI f.x,vI f.y,vI f.w,vI f.h])]⟩) f29;have a29:u' Z6 i29 ⟨123,7,[(V.agg [vI f.node,vI f.side,vI f.anchor,vI f.x,vI f.y,vI f.w,vI f.h])]⟩ i29=some ⟨123,7,[(V.agg [vI f.node,vI f.side,vI f.anchor,vI f.x,vI f.y,vI f.w,vI f.h])]⟩:=af;generalize Th:u' Z6 i29 ⟨123,7,[(V.agg [vI f.node,vI f.side,vI f.anchor,vI f.x,vI f.y,vI f.w,vI f.h])]⟩=Z7 at*;obtain⟨PU,QV,Wp⟩:=G2 hB7 Js Jn Jx Ju Jv hap.symm;generalize q.map aS=rows at*;have Qp:(rows.length+1)*57<=140737488355328:=by omega
   simp only[go_sem,seval,QV,cW a29,Qp];rw[ax];intro i30 f30;obtain⟨m30,hx,g1,g2,g3,g4,g5⟩:=Wp i30 (rows++[(V.agg [vI f.node,vI f.side,vI f.anchor,vI f.x,vI f.y,vI f.w,vI f.h])]) ⟨342,2,[.agg [v,.own i30 0 (rows++[(V.agg [vI f.node,vI f.side,vI f.anchor,vI f.x,vI f.y,vI f.w,vI f.h])]).length]]⟩ f30;have y2:u' (Vc.bF Z7 PU) i30 ⟨123,7,rows++[(V.agg [vI f.node,vI f.side,vI f.anchor,vI f.x,vI f.y,vI f.w,vI f.h])]⟩ ix=_:=(ab m30).trans hx;have Tu:(rows++[(V.agg [vI f.node,vI f.side,vI f.anchor,vI f.x,vI f.y,vI f.w,vI f.h])]).length=rows.length+1:=by simp
   rw[Tu]at g1 g2 g3 g4 g5;simp only[go_sem,seval,y2,vc,uc,vs,us];refine⟨_,_,aa.refl _,Wk.refl (aa.refl _) _,_,g2,⟨v,_,af,g4,?_,g5.symm⟩,g1,Jn⟩;rw[hrq];exact g3
 .rw[aF hl,aF hl];simp only[rb,SX,not_or,Decidable.not_not]at hl;have q13:((q.length:Int)>0)=False:=by rw[hl.1];simp
  have qy:(m.y+m.h>body)=False:=PG hl.2;simp only[go_sem,seval,cx,vc,uc,hlq,q13,qy,hr,a5,a6];rw[ax];intro i29 f29;have hB7:=hB6.qH (o:=⟨123,7,[(V.agg [vI m.node,vI m.side,vI m.anchor,vI m.x,vI m.y,vI m.w,vI m.h])]⟩) f29;have a29:u' Z6 i29 ⟨123,7,[(V.agg [vI m.node,vI m.side,vI m.anchor,vI m.x,vI m.y,vI m.w,vI m.h])]⟩ i29=some ⟨123,7,[(V.agg [vI m.node,vI m.side,vI m.anchor,vI m.x,vI m.y,vI m.w,vI m.h])]⟩:=af;generalize Th:u' Z6 i29 ⟨123,7,[(V.agg [vI m.node,vI m.side,vI m.anchor,vI m.x,vI m.y,vI m.w,vI m.h])]⟩=Z7 at*;obtain⟨PU,QV,Wp⟩:=G2 hB7 Js Jn Jx Jv Ju hap;generalize p.map aS=rows at*;have Qp:(rows.length+1)*57<=140737488355328:=by omega
  simp only[go_sem,seval,QV,cW a29,Qp];rw[ax];intro i30 f30;obtain⟨m30,hx,g1,g2,g3,g4,g5⟩:=Wp i30 (rows++[(V.agg [vI m.node,vI m.side,vI m.anchor,vI m.x,vI m.y,vI m.w,vI m.h])]) ⟨342,2,[.agg [.own i30 0 (rows++[(V.agg [vI m.node,vI m.side,vI m.anchor,vI m.x,vI m.y,vI m.w,vI m.h])]).length,u]]⟩ f30;have y2:u' (Vc.bF Z7 PU) i30 ⟨123,7,rows++[(V.agg [vI m.node,vI m.side,vI m.anchor,vI m.x,vI m.y,vI m.w,vI m.h])]⟩ ix=_:=(ab m30).trans hx;have Tu:(rows++[(V.agg [vI m.node,vI m.side,vI m.anchor,vI m.x,vI m.y,vI m.w,vI m.h])]).length=rows.length+1:=by simp
  rw[Tu]at g1 g2 g3 g4 g5;simp only[go_sem,seval,y2,vc,uc,vs,us];refine⟨_,_,aa.refl _,Wk.refl (aa.refl _) _,_,g2,⟨_,u,af,?_,g4,g5⟩,g1,Jn⟩;rw[hrp];exact g3
open Go.Proofs
def bf.from{ZJ U J P5 Z':ag}(h:bf ZJ J P5 Z')(hs:aa U J):bf ZJ U P5 Z':=⟨h.1,λi o h1 h2=>h.2 i o h1 (hs _ _ h2)⟩
def mG(body:Int)(x:List O'×List O')(f m:O'):List O'×List O':=(if rb x.2 m body then x.1 else x.1++[m],if rb x.2 m body then x.2++[f]else x.2)
def fM(top shift:Int)(f:O'):O':={ f with y:=max 0 (f.y-top)+shift }
def jH(top shift body:Int)(L:List O'):List O'×List O':=L.foldl (λx f=>mG body x f (fM top shift f)) ([],[])
def Bu(top shift body:Int)(L:List O')(f:O'):jH top shift body (L++[f])=mG body (jH top shift body L) f (fM top shift f):=by
 unfold jH;rw[ov];rfl
def ni(top shift body:Int)(L:List O'):(jH top shift body L).1.length+(jH top shift body L).2.length=L.length:=by
 have key:∀(L:List O') (x:List O'×List O'),(L.foldl (λx f=>mG body x f (fM top shift f)) x).1.length+(L.foldl (λx f=>mG body x f (fM top shift f)) x).2.length=x.1.length+x.2.length+L.length:=by
  intro L
  induction L with
  |nil=>intro x;rfl
  |cons f L ih=>
   intro x;rw[iY,ih];unfold mG;split<;>simp<;>omega
 have:=key L ([],[]);simpa[jH]using this
def uk(l:List Qy)(s:Q6)(kept:Int):Int:=(Rx l s.atom).y+s.done-kept
def eF(l:List Qy)(fl:List O')(s:Q6)(to kept shift body:Int):List O'×List O':=if dS l s then jH (uk l s kept) shift body (fX fl s to)else([],[])
def GB(x:Int):(if x>0 then x else 0)=max 0 x:=by split<;>omega
def Fh(l:List Qy)(hl:lQ l)(fl:List O')(Su:fl.length<=1000000)(Uv:∀f∈fl,f.ok)(s:Q6)(hd:s.done<=1152921504606846976)(to kept shift body:Int)(hk:-1152921504606846976<=kept/\kept<=2305843009213693952)(Tp:0<=shift/\shift<=1152921504606846976):
 aP prog 177 [bC l,aJ fl,br s,vI to,vI kept,vI shift,vI body] (.PI [aJ (eF l fl s to kept shift body).1,aJ (eF l fl s to kept shift body).2]):=λU=>by
 refine NU.r (by simp[LJ]) ?_;have hs:=aa.refl U;have Tu:=hl.len;have Sv:(br s).cells=[vI s.atom,vI s.done,.bool s.free]:=rfl;have Tv:(br s).stays=true:=rfl;refine ad.mix 20 ?_;apply sR;simp only[go_sem,seval,LJ,Sv,Tv];refine ae λi9 Z9 s9 a9 f9=>?_;have z9:=hs.none f9;replace hs:=hs.trans s9;simp only[go_sem,seval];refine ae λi12 Z12 VG a12 f12=>?_;have n912:=ao a9 f12;replace a9:=VG _ _ a9;have z12:=hs.none f12;replace hs:=hs.trans VG;simp only[go_sem,seval];refine ae λi13 Y13 s13 RW f13=>?_;have n913:=ao a9 f13;replace a9:=s13 _ _ a9;have n1213:=ao a12 f13;replace a12:=s13 _ _ a12;have z13:=hs.none f13;replace hs:=hs.trans s13;rw[br]at a9;simp only[go_sem,seval,a9,aA,aD];refine ad.ay rfl rfl rfl (pR l s _) ?_;unfold eF;by_cases hm:dS l s
 .rw[SP hm,aE hm];obtain⟨h0,h2⟩:=hm.1;obtain⟨k,Ud⟩:∃k:Nat,s.atom=k:=⟨s.atom.toNat,by omega⟩
  have RG:k<l.length:=by omega
  have E':=λU=>iD (U:=U) RG;have hy:=hl.Wd _ (QF RG);have Up:=hm.2.1;have V3:uk l s kept=l[k].y+s.done-kept:=by rw[uk,Ud,bn RG]
  have r1:PM .i64 (l[k].y+s.done):=ak;have r2:PM .i64 (l[k].y+s.done-kept):=ak;have htr:-4611686018427387904<=uk l s kept/\uk l s kept<=4611686018427387904:=by rw[V3];omega
  have QT:=nu fl (if s.done>0 then s.atom+1 else s.atom) to;have hcm:∀f∈fX fl s to,f.ok:=λf hf=>Uv f ((nI.1 hf).1);have hca:=E5 fl Su s (ak) to;have hcl':(fX fl s to).length<=1000000:=iq QT Su;generalize fX fl s to=L at*;rw[Ud]at a9;apply sR;simp only[go_sem,seval,Ud];refine ae λi16 Z16 s16 a16 f16=>?_;have n916:=ao a9 f16;replace a9:=s16 _ _ a9;have n1216:=ao a12 f16;replace a12:=s16 _ _ a12;have n1316:=ao RW f16;replace RW:=s16 _ _ RW;have z16:=hs.none f16;replace hs:=hs.trans s16;simp only[go_sem,seval,a16,a9,E',dx,r1,r2,aA,aD];refine bj λi17 Y17 s17 U8 f17=>?_;have n917:=ao a9 f17;replace a9:=s17 _ _ a9;have n1217:=ao a12 f17;replace a12:=s17 _ _ a12;have Xv:=ao RW f17;replace RW:=s17 _ _ RW;have Zs:=ao a16 f17;replace a16:=s17 _ _ a16;have z17:=hs.none f17;replace hs:=hs.trans s17;simp only[go_sem,seval,U8,a9,ab n917,ab n1217,ab Xv,ab Zs];generalize Xa:u' _ i17 _=Z17;replace U8:=(congrFun Xa i17).symm.trans af;replace a9:=((congrFun Xa i9).symm.trans (ab n917)).trans a9;replace a12:=((congrFun Xa i12).symm.trans (ab n1217)).trans a12;replace RW:=((congrFun Xa i13).symm.trans (ab Xv)).trans RW;replace a16:=((congrFun Xa i16).symm.trans (ab Zs)).trans a16;replace hs:=Eq.subst (motive:=aa _) Xa (hs.az z17);clear Xa;rw[br,Ud]at hca;refine ad.ay rfl rfl rfl (hca _) ?_;apply sR;simp only[go_sem,seval];refine ad.ay rfl rfl rfl (Kt L _) ?_;apply sR;simp only[go_sem,seval];rw[<-V3]at U8;generalize uk l s kept=top at*;generalize hS:mix 20 _ _=S;have S12:S 12=.ptr i12 0 0:=by rw[<-hS];rfl
  have S13:S 13=.ptr i13 0 0:=by rw[<-hS];rfl
  have S16:S 16=.ptr i16 0 0:=by rw[<-hS];rfl
  have S17:S 17=.ptr i17 0 0:=by rw[<-hS];rfl
  have S39:S 39=.fn 253 [.rp (aJ L)]:=by rw[<-hS];rfl
  clear hS;obtain⟨Z0,Zj⟩:∃Z0,Z0=del Z17 i16:=⟨_,rfl⟩
  have d0:∀i,i≠i16->Z0 i=Z17 i:=λi hi=>by rw[Zj];exact er hi
  have Wc:Z0 i12=_:=(d0 _ n1216).trans a12;have b13:Z0 i13=_:=(d0 _ n1316).trans RW;have b17:Z0 i17=_:=(d0 _ Zs.symm).trans U8;have b16:Z0 i16=none:=by rw[Zj];simp[del]
  have QJ:aa U Z0:=λi o h=>by
   rw[d0 i (λe=>by rw[e,z16]at h;cases h)];exact hs _ _ h
  have h16:SoJ Z0 i16 [] [] Z17:=⟨⟨.aL,.aL,a16,aN.start,aN.start,dN.aL _⟩,Zj▸aa.x7 _ _,b16⟩
  refine ad.eK (g:=.t 39) (caps:=[.rp (aJ L)]) S39 (Dn L hcl') (λy hy=>?_) [] (λpre ZJ=>SoJ Z0 i16 (jH top shift body (L.take pre.length)).1 (jH top shift body (L.take pre.length)).2 ZJ)
   (λ_ _ _=>False) ?_ ?_ ?_ ?_ ?_
  .obtain⟨t,_,rfl⟩:=eI.1 hy;rfl
  .exact h16
  .rintro pre y post ZJ ZB Rv hJ B';obtain⟨f,hf,rfl⟩:=pH Rv;obtain⟨C',hfe⟩:=mL.1 hf;have hlen:(pre++[[aS f]]).length=pre.length+1:=by simp
   have Qn:L.take (pre.length+1)=L.take pre.length++[f]:=by rw[SO C',hfe]
   have RG:=ni top shift body (L.take pre.length);have Uc:(L.take pre.length).length<=1000000:=by rw[jt];omega
   rw[hlen,Qn,Bu];generalize jH top shift body (L.take pre.length)=x at*;have hfo':=hcm f (oe hf);have a12:=B' _ _ (hJ.sub _ _ Wc);have RW:=B' _ _ (hJ.sub _ _ b13);have U8:=B' _ _ (hJ.sub _ _ b17);obtain⟨o1,o2,o3,o4⟩:=hfo';unfold Bq at o1 o2 o3 o4;have q1:PM .i64 (f.y-top):=ak;have q2:PM .i64 (max 0 (f.y-top)+shift):=ak;generalize Ro:lT S [40] [aS f]=S0;have T12:S0 12=.ptr i12 0 0:=by rw[<-Ro];exact S12
   have T13:S0 13=.ptr i13 0 0:=by rw[<-Ro];exact S13
   have T16:S0 16=.ptr i16 0 0:=by rw[<-Ro];exact S16
   have T17:S0 17=.ptr i17 0 0:=by rw[<-Ro];exact S17
   have T40:S0 40=.agg [vI f.node,vI f.side,vI f.anchor,vI f.x,vI f.y,vI f.w,vI f.h]:=by rw[<-Ro];rfl
   clear Ro;have hs:=aa.refl ZB;refine ad.mix 20 ?_;apply sR;simp only[go_sem,seval];refine ae λi18 Z18 s18 XQ f18=>?_;have n1218:=ao a12 f18;replace a12:=s18 _ _ a12;have n1318:=ao RW f18;replace RW:=s18 _ _ RW;have n1718:=ao U8 f18;replace U8:=s18 _ _ U8;have z18:=hs.none f18;replace hs:=hs.trans s18;simp only[go_sem,seval,XQ,T40];generalize X9:u' _ i18 _=Y18;replace XQ:=(congrFun X9 i18).symm.trans af;replace a12:=((congrFun X9 i12).symm.trans (ab n1218)).trans a12;replace RW:=((congrFun X9 i13).symm.trans (ab n1318)).trans RW;replace U8:=((congrFun X9 i17).symm.trans (ab n1718)).trans U8;replace hs:=Eq.subst (motive:=aa _) X9 (hs.az z18);clear X9;apply sR;simp only[go_sem,seval,XQ];refine ae λi19 Z19 XC TB f19=>?_;have n1819:=ao XQ f19;replace XQ:=XC _ _ XQ;have n1219:=ao a12 f19;replace a12:=XC _ _ a12;have n1319:=ao RW f19;replace RW:=XC _ _ RW;have n1719:=ao U8 f19;replace U8:=XC _ _ U8;have z19:=hs.none f19;replace hs:=hs.trans XC;simp only[go_sem,seval,TB,XQ,U8,a12,RW,T12,T13,T16,T17,ab n1819,ab n1719,ab n1219,ab n1319,q1,q2,GB];generalize Sk:u' _ i19 _=Y19;replace TB:=(congrFun Sk i19).symm.trans af;replace XQ:=((congrFun Sk i18).symm.trans (ab n1819)).trans XQ;replace a12:=((congrFun Sk i12).symm.trans (ab n1219)).trans a12;replace RW:=((congrFun Sk i13).symm.trans (ab n1319)).trans RW;replace U8:=((congrFun Sk i17).symm.trans (ab n1719)).trans U8;replace hs:=Eq.subst (motive:=aa _) Sk (hs.az z19);clear Sk;have hc:=HX x.1 x.2 (by omega) (by omega) f (fM top shift f) body (ak (by simp only[fM];omega) (by simp only[fM];omega)) hJ (B'.trans hs);rw[<-T16]at hc;refine ad.call rfl rfl rfl hc ?_;rintro-Z2 ⟨P5,hB,RX⟩;apply sR;simp only[go_sem,seval];exact⟨_,hB.from hs,RX⟩
  .rintro Z' hJ;have Q0:(L.map λf=>[aS f]).length=L.length:=by simp
   rw[Q0,hU]at hJ;obtain⟨⟨v,u,Jx,Jv,Ju,_⟩,Js,Jn⟩:=hJ;obtain⟨vc,vs⟩:=Jv.vc;obtain⟨uc,us⟩:=Ju.vc;refine ad.mix 20 ?_;apply sR;simp only[go_sem,seval,S16,Jx,vc,uc,vs,us];have P8:=QJ.trans Js;have hK:aa U (bg Z0 i16):=λi o hh=>by
    rw[bg,aF (λe=>by rw[e,z16]at hh;cases hh)];exact QJ _ _ hh
   exact⟨_,U,P8,Wk.PI (vs':=[aJ (jH top shift body L).1,aJ (jH top shift body L).2]) ⟨Jv.wk hK P8,Ju.wk hK P8,trivial⟩,rfl,rfl⟩
  .intro id h;cases h
  .rintro pre Z' _ ⟨⟩
 .rw[Sz hm,aF hm];apply sR;simp only[go_sem,seval];exact⟨_,U,hs,Wk.PI (vs':=[aJ [],aJ []]) ⟨Wk.aL 7,Wk.aL 7,trivial⟩,rfl,rfl⟩
variable {P:Program} {n:Nat} {st:St} {Q:St->Prop} {k:List It} {I:Mu} {w:World}
def Ip{o:Op}{sz:Nat}{xs:List VX}(h:PO P n o=.more (.cpy sz) xs):∃x y t e args argTypes,o=.call { callee:=.builtin .copy,args:=args,argTypes:=argTypes }/\
 args=#[x,y]/\argTypes[0]?=some t/\P.underlying t=some (.slice e)/\bS P e=true/\P.cellsOf e=sz/\xs=[cx n x,cx n y]:=by
 cases o
 case call c=>
  obtain⟨callee,args,argTypes⟩:=c;cases callee
  case builtin b=>
   cases b
   case copy=>
    simp only[PO,bE]at h;split at h
    .rename_i x y t h1 h2;split at h
     .rename_i e he;split at h
      .rename_i hz;simp only[Qc.more.injEq,MOp.cpy.injEq]at h;exact⟨x,y,t,e,args,argTypes,rfl,by apply Array.ext';simpa using h1,h2,he,hz,h.1,h.2.symm⟩
      .cases h
     .cases h
    .cases h
   all_goals (simp only[PO,bE]at h;(repeat' split at h)<;>cases h)
  all_goals (simp only[PO,bE]at h;(repeat' split at h)<;>cases h)
 case unOp op t x=>cases op<;>simp only[PO,bE]at h<;>cases h
 case makeFunc f a b=>cases f<;>simp only[PO,bE]at h<;>(repeat' split at h)<;>cases h
 all_goals (simp only[PO,bE]at h;(repeat' split at h)<;>cases h)
def DI{F:Fr}{a:Act}(hs:cI F I st a w){o:Oper}{x y:Operand}{t e:TypeId}{args:Array Operand}{argTypes:Array TypeId}
 (UU:o.op=.call { callee:=.builtin .copy,args:=args,argTypes:=argTypes })(harg:args=#[x,y])(Vj:argTypes[0]?=some t)
 (ht:P.underlying t=some (.slice e))(hk:bS P e=true){id off len:Nat}(h1:(cx F.n x).ev st.s=.own id off len){ob:Ob}(h2:st.U id=some ob)
 (h3:ob.sz=P.cellsOf e)(h4:off+len<=ob.rows.length){rows:List V}(h5:cA st.U (P.cellsOf e) ((cx F.n y).ev st.s)=some rows)(h6:rows.length=len):
 ∃y w',(execOp a.eval o).run P w=.ok (.value y) w'/\
  cI F I ⟨aW st.s (o.dst.filter (·<F.n)) (.int .i64 len),u' st.U id { ob with rows:=ob.rows.take off++rows++ob.rows.drop (off+len) }⟩ (a.put o.dst y) w':=by
 have QQ:=(dD hk).2.2;have R:=bK hs;have hx:=R x;rw[h1]at hx;simp only[A']at hx;obtain⟨news,hY,n1,n2,n3,n4,n5⟩:=nJ (P:=P) hs.sat QQ h5 (R y);have PY:∀v w',(Builtin.copy_ argTypes o.type #[a.eval x,a.eval y]).run P w=.ok v w'->(execOp a.eval o).run P w=.ok (.value v) w':=by
  intro v w' hw';unfold execOp;rw[UU];simp[resolve,invoke,Go.builtin,harg,hw']
 have QR:A' I (aB I st.U) w (.int .i64 len) (goInt len):=by simp only[A'];rfl
 have hcopy:∀b c,a.eval x=.slice b len c->(Builtin.copy_ argTypes o.type #[a.eval x,a.eval y]).run P w=((match b with|some q=>storeCells q news 0|none=>pure ()).run P w).andThen λ_ w'=>.ok (goInt len) w':=by
  intro b c hX;have hlen:=hY w;have TL:=n5 w (λ_ _ _ h=>h);rw[h6]at hlen TL;rw[hX];have hm:Nat.min len len=len:=Nat.min_self len;cases b
  .simp[Builtin.copy_,Vj,run_underlying ht,hlen,hm,cc hk,TL]
  .simp[Builtin.copy_,Vj,run_underlying ht,hlen,hm,cc hk,TL]
 have hzero:len=0->∃y w',(execOp a.eval o).run P w=.ok (.value y) w'/\
  cI F I ⟨aW st.s (o.dst.filter (·<F.n)) (.int .i64 len),u' st.U id { ob with rows:=ob.rows.take off++rows++ob.rows.drop (off+len) }⟩ (a.put o.dst y) w':=by
  intro h0;subst h0;have hX:∃b c,a.eval x=.slice b 0 c:=by
   split at hx
   .exact hx.elim
   .exact⟨_,_,hx.1⟩
   .obtain⟨o',c,h,_⟩:=hx;exact⟨_,_,h⟩
  obtain⟨b,c,hX⟩:=hX;obtain rfl:rows=[]:=rO h6;obtain rfl:news=[]:=rO (by simpa using n4);have P8:u' st.U id { ob with rows:=ob.rows.take off++[]++ob.rows.drop (off+0) }=st.U:=by
   funext j;simp only[u',kj,Nat.add_zero,nG];split
   .rename_i e';rw[e',h2]
   .rfl
  rw[P8];refine⟨goInt 0,w,PY _ w ?_,hs.pure QR⟩;rw[hcopy b c hX];cases b<;>simp[storeCells]
 split at hx
 .exact hx.elim
 .exact hzero hx.2.2
 .rename_i b Tx cap hid;obtain⟨o',c,hX,c1,c2,c3,Yf⟩:=hx;by_cases h0:len=0
  .exact hzero h0
  have QK:=hs.sat.obj id ob h2;rw[hid]at QK;obtain⟨cur,e1,e2,e3,e4,e5,e6,e7⟩:=QK.plain Yf;obtain⟨g1,xs,g2,g3,g4,g5⟩:=e7.cur e1;have hoff:o'=off*Tx:=by
   rcases c3 with c3|c3
   .exact c3
   .omega
  subst hoff;have PW:Tx=P.cellsOf e:=by omega
  subst PW;have hbound:off*P.cellsOf e+len*P.cellsOf e<=ob.rows.length*P.cellsOf e:=by rw[<-Nat.add_mul];exact Nat.mul_le_mul_right _ h4
  have Xh:ob.rows.length*P.cellsOf e<=cap*P.cellsOf e:=Nat.mul_le_mul_right _ e5;rw[h6]at n4;have P8:=run_storeCells_at P b (off*P.cellsOf e) ob.elem news 0 cur w e1 (by rw[n4];omega) n3;simp only[Nat.add_zero]at P8;refine⟨goInt len,w.setRow b (cur.toList.take (off*P.cellsOf e)++news++cur.toList.drop (off*P.cellsOf e+news.length)).toArray,PY _ _ ?_,?_⟩
  .rw[hcopy _ c hX];simp only[P8,Result.andThen_ok]
  .have VT:w.grownBy (w.setRow b (cur.toList.take (off*P.cellsOf e)++news++cur.toList.drop (off*P.cellsOf e+news.length)).toArray) (some b):=
    ⟨rfl,rfl,rfl,by simp,λkk _ Ud=>setRow_other w b kk _ (λe=>Ud (by rw[e]))⟩
   have Uy:∀q∈ob.rows.take off++rows++ob.rows.drop (off+len),q.cells.length=P.cellsOf e:=by
    intro q hq;simp only[dM]at hq;rcases hq with(hq|hq)|hq
    .exact g1 q (qw hq)
    .exact n1 q hq
    .exact g1 q (List.mem_of_mem_drop hq)
   have Uw:flat (ob.rows.take off++rows++ob.rows.drop (off+len))=
    (flat ob.rows).take (off*P.cellsOf e)++flat rows++(flat ob.rows).drop (off*P.cellsOf e+len*P.cellsOf e):=by
    rw[gF,gF,p7 g1];congr 1;rw[vR g1,Nat.add_mul]
   have Ye:=hs.sat.change h2 hid (by omega) VT _ (ob.rows.take off++rows++ob.rows.drop (off+len)) (xs.take (off*P.cellsOf e)++news++xs.drop (off*P.cellsOf e+news.length))
    (setRow_heap w b cur _ ob.elem _ e1) (by simp only[List.size_toArray,fB,jt,vD,n4];rw[Array.length_toList];omega) (by simp;omega) Uy
    (by rw[Uw,n4];exact((g2.take _).append n2).append (g2.drop _))
    (by intro u hu
        simp only[dM]at hu;rcases hu with(hu|hu)|hu
        .exact g3 u (qw hu)
        .exact n3 u hu
        .exact g3 u (List.mem_of_mem_drop hu))
    (by intro j u hu
        have:=kx cur.toList xs _ g5 (off*P.cellsOf e) (by rw[n4,g4];omega) j u hu;simpa using this)
   exact hs.step Ye.1 (cm.refl _) Ye.2 (by simp) (by simp only[A'];rfl)
def ad.cpy{i:aG}{l:List aG}{sz:Nat}{xa xb:VX}(hw:bl st.s i.g=some true)(ho:i.op=.more (.cpy sz) [xa,xb])
 {id off len:Nat}(h1:xa.ev st.s=.own id off len){ob:Ob}(h2:st.U id=some ob)(h3:ob.sz=sz)(h4:off+len<=ob.rows.length){rows:List V}(h5:cA st.U sz (xb.ev st.s)=some rows)(h6:rows.length=len)
 (h:ad P n (.ops l::k) ⟨aW st.s i.dst (.int .i64 len),u' st.U id { ob with rows:=ob.rows.take off++rows++ob.rows.drop (off+len) }⟩ Q):ad P n (.ops (i::l)::k) st Q:=by
 refine ad.ins (by rw[ho];simp) hw λF hn I a w o all hi hs next Q' M'=>?_
 subst hn;obtain⟨PL,hd⟩:=cC hi;rw[ho]at PL;obtain⟨x,y,t,e,args,argTypes,g1,g2,g3,g4,g5,rfl,Rv⟩:=Ip PL;simp only[List.cons.injEq,and_true]at Rv;obtain⟨rfl,rfl⟩:=Rv;obtain⟨y,w',hx,PW⟩:=DI hs g1 g2 g3 g4 g5 h1 h2 h3 h4 h5 h6;unfold Oper.wp;rw[hx];refine M' _ _ _ ⟨I,?_⟩ h;rw[<-hd];exact PW
open Go.Proofs
def eg(body:Int):List O'->Int->List O'×List O'×Int
 |[],sh=>([],[],sh)
 |f::r,sh=>if sh+min f.h body>body then([],f::r,sh)else({ f with y:=sh,h:=min f.h body }::(eg body r (sh+min f.h body)).1,(eg body r (sh+min f.h body)).2)
def pO{P:List O'}{j:Nat}(h:j<=P.length):∀U,cJ U 7 (aJ P) (some (.int .i64 j)) none none=some (aJ (P.drop j)):=λU=>by
 have h1:(j:Int)<=P.length:=by omega
 simp only[aJ,cJ,bI,cL];rw[aE ⟨by omega,h1,Int.le_refl _,Int.le_refl _,trivial⟩,eL,eL,<-List.map_drop,kT (by simp)]
def Kh(P:List O')(hP:P.length<=1000000)(body:Int)(hb0:1<=body)(UI:body<=1099511627776)(hh:∀f∈P,0<=f.h):
 aP prog 74 [aJ P,vI body] (.PI [aJ (eg body P 0).1,aJ (eg body P 0).2.1,vI (eg body P 0).2.2]):=λU=>by
 refine e74.r (by simp[c74]) ?_;have hs:=aa.refl U;have Wz:=gy P;refine ad.mix 13 ?_;apply sR;simp only[go_sem,seval,c74,Wz];refine ad.eh (λst=>∃p q sh,eg body P 0=(p,q,sh)/\aa U st.U/\aN U st.U 123 7 (st.s 4) (p.map aS)/\aN U st.U 123 7 (st.s 5) (q.map aS)/\st.s 6=vI sh)
  (λm st=>∃(j:Nat) (acc:List O') (sh:Int),j<=P.length/\m=P.length-j/\acc.length=j/\eg body P 0=(acc++(eg body (P.drop j) sh).1,(eg body (P.drop j) sh).2)/\0<=sh/\sh<=body/\aa U st.U/\aN U st.U 123 7 (st.s 4) (acc.map aS)/\st.s 5=.aL/\st.s 6=vI sh/\st.s 0=aJ P/\st.s 1=vI body/\st.s 10=aJ P/\st.s 11=vI P.length/\st.s 12=vI j) P.length ?_ ?_ ?_
 .exact⟨0,[],0,by omega,rfl,rfl,rfl,by omega,by omega,hs,aN.start,rfl,rfl,rfl,rfl,rfl,rfl,rfl⟩
 .clear hs;rintro m ⟨S,J⟩ ⟨j,acc,sh,hj,rfl,R8,heq,h0,h1,hs,ho,t5,t6,t0,t1,t10,t11,t12⟩;simp only at hs ho t5 t6 t0 t1 t10 t11 t12;generalize hv4:S 4=v4 at ho;refine ad.mix 13 ?_;by_cases C':j<P.length
  .have q:((j:Int)<P.length)=True:=PK;have E':=λU=>jX (U:=U) C';have hf0:=hh _ (QF C');have hd:P.drop j=P[j]::P.drop (j+1):=gT C';have Su:aS P[j]=.agg [vI P[j].node,vI P[j].side,vI P[j].anchor,vI P[j].x,vI P[j].y,vI P[j].w,vI P[j].h]:=rfl;rw[hd,eg]at heq;generalize P[j]=f at*;have hsZ:=hs;replace hs:=aa.refl J;have r1:PM .i64 ((j:Int)+1):=ak;have r2:PM .i64 (sh+min f.h body):=ak;apply sR;simp only[go_sem,seval,t0,t1,t5,t6,t10,t11,t12,hv4,q,E',Su];refine ae λi8 Z8 s8 a8 f8=>?_;have z8:=hs.none f8;replace hs:=hs.trans s8;simp only[go_sem,seval,a8,t0,t1,t5,t6,t10,t11,t12,hv4];generalize RA:u' _ i8 _=Y8;replace a8:=(congrFun RA i8).symm.trans af;replace hs:=Eq.subst (motive:=aa _) RA (hs.az z8);clear RA;refine ae λi9 Z9 s9 a9 f9=>?_;have Wu:=ao a8 f9;replace a8:=s9 _ _ a8;have z9:=hs.none f9;replace hs:=hs.trans s9;simp only[go_sem,seval,a9,a8,t0,t1,t5,t6,t10,t11,t12,hv4,cd,ab Wu,ab Wu];generalize QX:u' _ i9 _=Y9;replace a9:=(congrFun QX i9).symm.trans af;replace a8:=((congrFun QX i8).symm.trans (ab Wu)).trans a8;replace hs:=Eq.subst (motive:=aa _) QX (hs.az z9);clear QX;refine ad.rR (by kernel_rfl) [0,1,2,3,4,5,6,7,8] [[],[],[1],[],[1,2,3],[0],[0,5],[0,1,2,3,4,5,6],[0,1,2,3,4,5,6,7]] [0,2,4,6,8,10,12,5,14,16] (by kernel_rfl) (by kernel_rfl) ?_;refine RE.QS (n:=0) [5,14,16] [0,2,4,6,8,10,12] [⟨(.some 18),(.Qo (.t 6)),.none⟩,⟨(.some 19),(.PN .false 6 1 (.t 8)),.none⟩,⟨(.some 20),(.load .false 1 (.t 19)),.none⟩,⟨(.some 21),(.Qo (.t 1)),.none⟩,⟨(.some 22),(.TM .false (.t 20) (.t 21)),.none⟩,⟨(.some 23),(.PN .false 4 1 (.t 9)),.none⟩,⟨.none,(.store 1 (.t 23) (.t 18)),.none⟩] rfl rfl ?_;apply sG;simp only[go_sem,seval,a9,a8,t6,t1,eW];refine RE.Rl rfl rfl rfl rfl rfl trivial (by simp only[go_sem,seval,a9,a8,t6,t1,eW,ab Wu,ab Wu]) ?_;refine RE.QS (n:=0) [] [14,16] [⟨(.some 24),(.PN .false 6 1 (.t 9)),.none⟩,⟨.none,(.store 1 (.t 24) (.t 22)),.none⟩] rfl rfl ?_;apply sG;simp only[go_sem,seval,a9,a8,t6,t1,eW,ab Wu,ab Wu];generalize QX:u' _ i9 _=Y9;replace a9:=(congrFun QX i9).symm.trans af;replace a8:=((congrFun QX i8).symm.trans (ab Wu)).trans a8;replace hs:=Eq.subst (motive:=aa _) QX (hs.az z9);clear QX;by_cases hgt:sh+min f.h body>body
   .have q1:(sh+min f.h body>body)=True:=PK hgt;rw[aE hgt]at heq;have r3:PM .i64 ((P.length:Int)-j):=ak;apply sR;simp only[go_sem,seval,a9,a8,t0,t1,t5,t6,t10,t11,t12,hv4,Wz,r2,q1,r3];obtain⟨n,hn⟩:∃n:Nat,n=P.length-j:=⟨_,rfl⟩
    have hnj:(P.length:Int)-j=(n:Int):=by omega
    rw[hnj];have hbm:(0:Int)<=n/\(n:Int).toNat*57<=140737488355328:=by omega
    simp only[go_sem,seval,hbm];refine ae λi36 Z36 s36 a36 f36=>?_;have Ty:=pO hj;simp only[BB,seval,<-decide_not,bp,eT,aH,dF,dG,dB,dE,dH,bO,jm,dZ,bx,fa,cQ,fb,cy,bI,gI,ct,bH,bM,QW,jg,cP,bJ,iy,di,bY,cO,cF,ji,binBV,bD,cX,V.cells,V.stays,t0,t5,Ty,eL];have TA:(P.drop j).length=n:=by rw[vD,hn]
    refine ad.cpy (id:=i36) (off:=0) (len:=n) (rows:=(P.drop j).map aS) rfl rfl rfl a36 rfl (by simp) rfl (by rw[cL,TA]) ?_;have Zt:(List.replicate (n:Int).toNat (V.agg [vI 0,vI 0,vI 0,vI 0,vI 0,vI 0,vI 0])).take 0++(P.drop j).map aS++(List.replicate (n:Int).toNat (V.agg [vI 0,vI 0,vI 0,vI 0,vI 0,vI 0,vI 0])).drop (0+n)=(P.drop j).map aS:=by
     generalize (P.drop j).map aS=X;simp
    rw[Zt];apply sR;simp only[go_sem,seval,t0,t1,t6,t10,t11,t12,hv4];have P8:=(hsZ.trans (hs.trans s36)).az (o:=⟨123,7,(P.drop j).map aS⟩) ((hsZ.trans hs).none f36);refine⟨acc,P.drop j,sh,?_,P8,?_,?_,rfl⟩
    .rw[heq,kj,hd]
    .exact ho.mono ((hs.trans s36).az (hs.none f36))
    .exact aN.new (by rw[cL,TA]) af ((hsZ.trans hs).none f36)
   .have q1:(sh+min f.h body>body)=False:=PG hgt;rw[aF hgt]at heq;apply sR;simp only[go_sem,seval,a9,a8,t0,t1,t5,t6,t10,t11,t12,hv4,r2,q1];refine ae λi44 Z44 s44 a44 f44=>?_;obtain⟨PU,QV,Qx,VC,We⟩:=ho.BC (hs.trans s44);have UN:(acc.map aS).length=j:=by rw[cL,R8]
    have Qp:(j+1)*57<=140737488355328:=by omega
    simp only[go_sem,seval,QV,cW a44,UN,Qp];refine dI λi45 Z45 s45 a45 f45=>?_;have b9:=s45 _ _ ((We i9 z9 Z44).trans (s44 _ _ a9));have k45:=(Qx U (aa.refl _) Z44 (hsZ.trans (hs.trans s44))).trans s45;have R0:U i45=none:=(hsZ.trans (hs.trans s44)).none f45;simp only[go_sem,seval,t0,t1,t5,t6,t10,t11,t12,b9,r1,r2];refine⟨_,?_,j+1,acc++[{ f with y:=sh,h:=min f.h body }],sh+min f.h body,by omega,rfl,by simp[R8],?_,by omega,by omega,k45,?_,by simp⟩
    .omega
    .rw[heq,gw];rfl
    .rw[eo];exact aN.new (by simp[R8]) a45 R0
  .have q:((j:Int)<P.length)=False:=PG;have Rw:j=P.length:=by omega
   rw[Rw,yQ,eg,kj]at heq;apply sR;simp only[go_sem,seval,t0,t1,t5,t6,t10,t11,t12,hv4,q];exact⟨acc,[],sh,heq,hs,hv4▸ho,aN.start,rfl⟩
 .rintro⟨S,J⟩ ⟨p,q,sh,heq,hs,ho,hu,t6⟩;simp only at hs ho hu t6;generalize hv4:S 4=v4 at ho;generalize hv5:S 5=v5 at hu;refine ad.mix 13 ?_;apply sR;simp only[go_sem,seval,hv4,hv5,t6];rw[heq];exact⟨_,U,hs,Wk.PI (vs':=[aJ p,aJ q,vI sh]) ⟨ho.wk (aa.refl _) hs,hu.wk (aa.refl _) hs,Wk.refl hs _,trivial⟩,rfl,rfl⟩
open Go.Proofs
structure Bk where
 nodes:List Nd
 (w h:Int)
 atoms:List Qy
 PX:List O'
 PJ:Int
 Qi:List Sb
def bN(b:Bk):V:=.agg [aM b.nodes,vI b.w,vI b.h,bC b.atoms,aJ b.PX,vI b.PJ,bR b.Qi]
structure Wx where
 P6:V
 (high body:Int)
 s:Q6
 kind:Int
 (hs fs ls:List Qk)
 shift:Int
def dj(b:Bk)(x:Wx)(vh vf vl:V):Ob:=⟨170,13,[.agg [x.P6,vI x.high,vI x.body,.rp (bN b),vI x.s.atom,vI x.s.done,.bool x.s.free,vI 0,vI x.kind,vh,vf,vl,vI x.shift]]⟩
structure RS(b:Bk)(K:ag)(ix:Nat)(x:Wx)(U:ag)(vh vf vl:V):Prop where
 row:U ix=some (dj b x vh vf vl)
 oh:aN (bg K ix) U 47 7 vh (x.hs.map aZ)
 of:aN (bg K ix) U 47 7 vf (x.fs.map aZ)
 ol:aN (bg K ix) U 47 7 vl (x.ls.map aZ)
 hf:dN vh vf
 hl:dN vh vl
 fl:dN vf vl
 sub:aa K U
 no:K ix=none
def RS.mono{b:Bk}{K:ag}{ix:Nat}{x:Wx}{U J:ag}{vh vf vl:V}(h:RS b K ix x U vh vf vl)(hs:aa U J):RS b K ix x J vh vf vl:=
 ⟨hs _ _ h.row,h.oh.mono hs,h.of.mono hs,h.ol.mono hs,h.hf,h.hl,h.fl,h.sub.trans hs,h.no⟩
def yz{K Z8:ag}{ix e sz:Nat}{v:V}{rows:List V}(Js:aa K Z8)(Jn:K ix=none){ox:Ob}(Jx:Z8 ix=some ox)(Jv:aN (bg K ix) Z8 e sz v rows):
 ∃PU,cK Z8 e sz v=some (rows,PU)/\∀(Z9:ag) (id:Nat) (Qv:List V),aa (Vc.bF Z8 PU) Z9->Z9 id=some ⟨e,sz,Qv⟩->Z8 id=none->
  Z9 ix=some ox/\∀o',aa K (u' Z9 ix o')/\aN (bg K ix) (u' Z9 ix o') e sz (.own id 0 Qv.length) Qv/\
  ∀u Vb,aN (bg K ix) Z8 e sz u Vb->dN v u->aN (bg K ix) (u' Z9 ix o') e sz u Vb/\dN (.own id 0 Qv.length) u:=by
 obtain⟨PU,QV,Uh⟩:=Jv.Nk (aa.refl Z8);have k2:bg K ix ix≠none:=λh=>(aI.1 h).1 rfl;have Ti:∀(i:Nat),bg K ix i≠none->Vc.bF Z8 PU i=Z8 i:=λi hk=>by
  cases PU with
  |none=>rfl
  |some a=>exact er (λe=>hk (by rw[e];exact(Uh a rfl).1))
 refine⟨PU,QV,λZ9 id Qv hs9 h9 f=>⟨hs9 _ _ ((Ti _ k2).trans Jx),λo'=>⟨?_,?_,λu Vb hu hap=>⟨?_,dN.new hu f⟩⟩⟩⟩
 .refine aa.az (λi o h=>hs9 _ _ ((Ti _ (λhk=>?_)).trans (Js _ _ h))) Jn;rw[(aI.1 hk).2]at h;cases h
 .have m:id≠ix:=λe=>by rw[e,Jx]at f;cases f
  refine aN.new rfl ((ab m).trans h9) (aI.2 ⟨m,?_⟩);exact Js.none f
 .rcases hu with h|⟨a,rfl,h1,h2⟩
  .exact .inl h
  .refine .inr ⟨a,rfl,(ab (aI.1 h2).1).trans (hs9 _ _ ?_),h2⟩;cases hA:PU with
   |none=>exact h1
   |some i=>
    have:a≠i:=λe=>hap _ _ _ _ (Uh i hA).2.2 rfl e.symm;simp only[Vc.bF];rw[er this];exact h1
def pn(high:Int)(f:O'):Qk:=⟨f.node,-1,0,f.x,f.y+high,f.w,f.h⟩
def Wx.put(x:Wx)(l:List O'):Wx:={ x with ls:=x.ls++l.map (pn x.high) }
def nz(b:Bk)(l:List O')(hl:l.length<=1000000)(x:Wx)(hx:x.ls.length<=1000000)(hr:∀f∈l,PM .i64 (f.y+x.high)){K U:ag}{i1:Nat}{vh vf vl:V}(hJ:RS b K i1 x U vh vf vl):
 aC prog 75 [.ptr i1 0 0,aJ l] U λ_ Z'=>∃Ta,RS b K i1 (x.put l) Z' vh vf Ta:=by
 refine e75.r (by simp[c75]) ?_;have UE:=gy l;obtain⟨ch,sh⟩:=hJ.oh.vc;obtain⟨cf,sf⟩:=hJ.of.vc;refine ad.mix 9 ?_;apply sR;simp only[go_sem,seval,c75,UE];refine ad.loop (λm st=>∃(j:Nat) (Ta:V),j<=l.length/\m=l.length-j/\RS b K i1 (x.put (l.take j)) st.U vh vf Ta/\st.s 0=.ptr i1 0 0/\st.s 6=aJ l/\st.s 7=vI l.length/\st.s 8=vI j) l.length ?_ ?_
 .exact⟨0,vl,by omega,rfl,by simpa[Wx.put]using hJ,rfl,rfl,rfl,rfl⟩
 .rintro m ⟨S,J⟩ ⟨j,Ta,hj,rfl,hJ,t0,t6,t7,t8⟩;simp only at hJ t0 t6 t7 t8;refine ad.mix 9 ?_;by_cases C':j<l.length
  .have q:((j:Int)<l.length)=True:=PK;have E':=λU=>jX (U:=U) C';have Su:aS l[j]=.agg [vI l[j].node,vI l[j].side,vI l[j].anchor,vI l[j].x,vI l[j].y,vI l[j].w,vI l[j].h]:=rfl;have Qn:l.take (j+1)=l.take j++[l[j]]:=SO C';have WX:x.put (l.take (j+1))={ x.put (l.take j)with ls:=(x.put (l.take j)).ls++[pn x.high l[j]] }:=by
    rw[Qn];simp only[Wx.put,eo,dO,List.map_nil,gw]
   have r0:=hr _ (QF C');have r1:PM .i64 ((j:Int)+1):=ak;have hyl:((x.put (l.take j)).ls.map aZ).length<=2000000:=by simp[Wx.put];omega
   have hyh:(x.put (l.take j)).high=x.high:=rfl;rw[<-hyh]at WX r0;generalize l[j]=f at*;generalize x.put (l.take j)=y at*;have hs:=aa.refl J;have a1:=hJ.row;rw[dj]at a1;obtain⟨cl,sl⟩:=hJ.ol.vc;apply sR;simp only[go_sem,seval,t0,t6,t7,t8,q,E',Su];refine ae λi5 Z5 s5 a5 f5=>?_;have Yq:=ao a1 f5;replace a1:=s5 _ _ a1;have z5:=hs.none f5;replace hs:=hs.trans s5;simp only[go_sem,seval,a5,a1,t0,t6,t7,t8,ab Yq,ab Yq,r0,ch,sh,cf,sf,cl,sl];generalize TZ:u' _ i5 _=Y5;replace a5:=(congrFun TZ i5).symm.trans af;replace a1:=((congrFun TZ i1).symm.trans (ab Yq)).trans a1;replace hs:=Eq.subst (motive:=aa _) TZ (hs.az z5);clear TZ;refine bj λi35 Z35 s35 a35 f35=>?_;have UP:=hJ.mono (hs.trans s35);obtain⟨PU,QV,Wp⟩:=yz UP.sub UP.no UP.row UP.ol;generalize Zt:y.ls.map aZ=rows at*;have Qp:(rows.length+1)*57<=140737488355328:=by omega
   simp only[go_sem,seval,QV,cW a35,Qp];refine jx λi36 Z36 s36 a36 f36=>?_;obtain⟨b1,hg⟩:=Wp Z36 i36 _ s36 a36 f36;rw[dj]at b1;obtain⟨g1,g2,g3⟩:=hg (dj b { y with ls:=y.ls++[pn y.high f] } vh vf (.own i36 0 (rows.length+1)));simp only[go_sem,seval,b1,t0,t6,t7,t8,ch,sh,cf,sf,cl,sl,r1];refine⟨_,?_,j+1,.own i36 0 (rows.length+1),by omega,rfl,?_,by simp⟩
   .omega
   .rw[WX];obtain⟨k1,k2⟩:=g3 _ _ UP.oh UP.hl.symm;obtain⟨k3,k4⟩:=g3 _ _ UP.of UP.fl.symm;rw[fB]at g2 k2 k4;refine⟨af,k1,k3,?_,hJ.hf,k2.symm,k4.symm,g1,hJ.no⟩;show aN _ _ _ _ _ ((y.ls++[pn y.high f]).map aZ);rw[eo,Zt];exact g2
  .have q:((j:Int)<l.length)=False:=PG;have Rw:j=l.length:=by omega
   rw[Rw,hU]at hJ;apply sR;simp only[go_sem,seval,t0,t6,t7,t8,q];exact⟨_,_,aa.refl _,Wk.refl (aa.refl _) _,Ta,hJ⟩
open Go.Proofs
structure BkOk(b:Bk):Prop where
 at':lQ b.atoms
 tight:∀a∈b.atoms,-18014398509481984<=a.y/\a.y<=18014398509481984/\0<=a.h/\a.h<=18014398509481984
 len:b.atoms.length<=900000
 TH:b.PX.length<=1000000
 W4:∀f∈b.PX,f.ok
 brk:b.Qi.length=b.atoms.length+1
structure RH where
 s:Q6
 bV:List O'
def df(x:RH):V:=.agg [vI x.s.atom,vI x.s.done,.bool x.s.free,aJ x.bV]
def Dz{top shift body:Int}:∀{L:List O'} {m:O'},m∈(jH top shift body L).1->∃f∈L,m=fM top shift f:=by
 have key:∀(L L0:List O') (x:List O'×List O'),(∀m∈x.1,∃f∈L0,m=fM top shift f)->∀m∈(L.foldl (λx f=>mG body x f (fM top shift f)) x).1,∃f∈L0++L,m=fM top shift f:=by
  intro L
  induction L with
  |nil=>intro L0 x h m hm;simpa using h m hm
  |cons f L ih=>
   intro L0 x h m hm;rw[iY]at hm;have:=ih (L0++[f]) _ (λm hm=>?_) m hm
   .simpa using this
   .unfold mG at hm;simp only at hm;split at hm
    .obtain⟨g,hg,e⟩:=h m hm;exact⟨g,by simp[hg],e⟩
    .rcases dM.1 hm with hm|hm
     .obtain⟨g,hg,e⟩:=h m hm;exact⟨g,by simp[hg],e⟩
     .simp at hm;exact⟨f,by simp,hm⟩
 intro L m hm;have:=key L [] ([],[]) (by simp) m hm;simpa using this
def vK{b:Bk}(hb:BkOk b){s:Q6}(hd:s.done<=1152921504606846976){to kept shift body:Int}(hk:-1152921504606846976<=kept/\kept<=2305843009213693952)(Tp:0<=shift/\shift<=1152921504606846976):
 (eF b.atoms b.PX s to kept shift body).1.length<=1000000/\∀m∈(eF b.atoms b.PX s to kept shift body).1,0<=m.y/\m.y<=6917529027641081856:=by
 unfold eF;split
 .rename_i hm;have h1:=ni (uk b.atoms s kept) shift body (fX b.PX s to);have h2:(fX b.PX s to).length<=b.PX.length:=nu _ _ _;have h3:=hb.TH;refine⟨by omega,λm hmm=>?_⟩;obtain⟨f,hf,rfl⟩:=Dz hmm;have Uv:=hb.W4 f (nI.1 hf).1;obtain⟨_,⟨o1,o2⟩,_⟩:=Uv;obtain⟨h0,h4⟩:=hm.1;have V3:-4611686018427387904<=uk b.atoms s kept:=by
   unfold uk;have:=hm.2.1;obtain⟨k,Ud⟩:∃k:Nat,s.atom=k:=⟨s.atom.toNat,by omega⟩
   have RG:k<b.atoms.length:=by omega
   have hy:=hb.at'.Wd _ (QF RG);rw[Ud,bn RG];omega
  simp only[fM];omega
 .simp
def cH(high:Int)(f:Qk):Qk:={ f with y:=f.y+high }
def cu(b:Bk)(x:Wx)(kept:Int)(n:Nat):List Qk:=(List.range n).map λi:Nat=>cH x.high (dC b.atoms x.s kept x.shift (x.s.atom+(i:Nat)))
def Wx.add(x:Wx)(l:List Qk):Wx:={ x with fs:=x.fs++l }
def Bt{l:List Qy}(hl:lQ l){s:Q6}(Up:0<=s.done)(hd:s.done<=1152921504606846976){kept shift:Int}(hk:-1152921504606846976<=kept/\kept<=2305843009213693952)(Tp:0<=shift/\shift<=1152921504606846976)(k:Int):
 -4611686018427387904<=(dC l s kept shift k).y/\(dC l s kept shift k).y<=6917529027641081856:=by
 have h:=oK hl hd hk Tp k;unfold dC;split
 .split
  .simp only;omega
  .simp only[lM];omega
 .simp
def fq(l:List Qy)(U:ag):bT U false 1 (.rp (bC l))=some (bC l):=rfl
def CG(l:List O')(U:ag):bT U false 1 (.rp (aJ l))=some (aJ l):=rfl
def EY(l:List Sb)(U:ag):bT U false 1 (.rp (bR l))=some (bR l):=rfl
def MY(l:List Nd)(U:ag):bT U false 1 (.rp (aM l))=some (aM l):=rfl
def RS.nM{b:Bk}{K:ag}{ix:Nat}{x:Wx}{U J:ag}{vh vf vl:V}(h:RS b K ix x U vh vf vl)(hs:aa U J){i:Nat}{o:Ob}(h1:U i=none)(h2:J i=some o):RS b (u' K i o) ix x J vh vf vl:=by
 have key:∀{v rows},aN (bg K ix) U 47 7 v rows->aN (bg (u' K i o) ix) J 47 7 v rows:=λhv=>by
  rcases hv with h|⟨a,e,h3,h4⟩
  .exact .inl h
  .refine .inr ⟨a,e,hs _ _ h3,aI.2 ⟨(aI.1 h4).1,?_⟩⟩;rw[ab (λe=>by subst e;rw[h1]at h3;cases h3)];exact(aI.1 h4).2
 refine⟨hs _ _ h.row,key h.oh,key h.of,key h.ol,h.hf,h.hl,h.fl,λa q ha=>?_,?_⟩
 .by_cases e:a=i
  .subst e;rw[Vc.af]at ha;cases ha;exact h2
  .rw[Vc.ab e]at ha;exact hs _ _ (h.sub _ _ ha)
 .rw[Vc.ab (λe=>by subst e;rw[h.row]at h1;cases h1)];exact h.no
def RS.narrow{b:Bk}{K:ag}{ix i:Nat}{o:Ob}{x:Wx}{U:ag}{vh vf vl:V}(h:RS b (u' K i o) ix x U vh vf vl)(hK:K i=none):RS b K ix x U vh vf vl:=by
 have hk:∀a,u' K i o a=none->K a=none:=λa ha=>by
  by_cases e:a=i
  .subst e;exact hK
  .rwa [Vc.ab e]at ha
 have key:∀{v rows},aN (bg (u' K i o) ix) U 47 7 v rows->aN (bg K ix) U 47 7 v rows:=λhv=>by
  rcases hv with h|⟨a,e,h3,h4⟩
  .exact .inl h
  .exact .inr ⟨a,e,h3,aI.2 ⟨(aI.1 h4).1,hk _ (aI.1 h4).2⟩⟩
 refine⟨h.row,key h.oh,key h.of,key h.ol,h.hf,h.hl,h.fl,λa q ha=>h.sub _ _ ?_,hk _ h.no⟩;rw[Vc.ab (λe=>by subst e;rw[hK]at ha;cases ha)];exact ha
def RS.drop{b:Bk}{K:ag}{ix i:Nat}{o:Ob}{x:Wx}{U:ag}{vh vf vl:V}(h:RS b (u' K i o) ix x U vh vf vl)(hK:K i=none)(o':Ob):RS b K ix x (u' U i o') vh vf vl:=by
 have hn:ix≠i:=λe=>by have:=h.no;subst e;rw[Vc.af]at this;cases this
 have key:∀{v rows},aN (bg K ix) U 47 7 v rows->aN (bg (u' K i o) ix) U 47 7 v rows->aN (bg K ix) (u' U i o') 47 7 v rows:=λhv hw=>by
  rcases hv with h|⟨a,rfl,h3,h4⟩
  .exact .inl h
  .refine .inr ⟨a,rfl,?_,h4⟩;rcases hw with⟨h,_⟩|⟨c,h,h5,h6⟩
   .cases h
   .cases h;have:a≠i:=λe=>by subst e;have:=(aI.1 h6).2;rw[Vc.af]at this;cases this
    rw[Vc.ab this];exact h3
 have g:=h.narrow hK;refine⟨(Vc.ab hn).trans h.row,key g.oh h.oh,key g.of h.of,key g.ol h.ol,h.hf,h.hl,h.fl,g.sub.az hK,g.no⟩
def Gk(b:Bk)(hb:BkOk b)(x:Wx)(hm:dS b.atoms x.s)(hd:x.s.done<=1152921504606846976)(hx:x.fs.length<=1000000)(ZU:x.ls.length<=1000000)(hh:0<=x.high/\x.high<=1152921504606846976)(kept:Int)(hk:-1152921504606846976<=kept/\kept<=2305843009213693952)
 (Tp:0<=x.shift/\x.shift<=1152921504606846976)(cut:Nat)(hc:x.s.atom<=cut)(QT:cut<=b.atoms.length){K U:ag}{i1:Nat}{vh vf vl:V}(hJ:RS b K i1 x U vh vf vl):
 aC prog 126 [.ptr i1 0 0,vI kept,vI cut] U λr Z'=>∃T1 Ta,r=df ⟨⟨cut,0,decide ((b.Qi.getD cut ⟨0,0,0⟩).forced≠0)⟩,(eF b.atoms b.PX x.s cut kept x.shift x.body).2⟩/\
  RS b K i1 ((x.add (cu b x kept (cut-x.s.atom.toNat))).put (eF b.atoms b.PX x.s cut kept x.shift x.body).1) Z' vh T1 Ta:=by
 refine NL.r (by simp[Ld]) ?_;have hs:=aa.refl U;have Ul:bN b=.agg [aM b.nodes,vI b.w,vI b.h,bC b.atoms,aJ b.PX,vI b.PJ,bR b.Qi]:=rfl;have a1:=hJ.row;rw[dj]at a1;obtain⟨ch,sh⟩:=hJ.oh.vc;obtain⟨a,haa⟩:∃a:Nat,x.s.atom=a:=⟨x.s.atom.toNat,by have:=hm.1;omega⟩
 obtain⟨n,hn⟩:∃n,n=cut-x.s.atom.toNat:=⟨_,rfl⟩
 have hnc:a+n=cut:=by omega
 rw[<-hn];have hlen:=hb.len;refine ad.mix 13 ?_;apply sR;simp only[go_sem,seval,Ld];refine ae λi6 Z6 s6 a6 f6=>?_;have n16:=ao a1 f6;replace a1:=s6 _ _ a1;have z6:=hs.none f6;replace hs:=hs.trans s6;have UQ:=hJ.nM s6 f6 a6;have k6:K i6=none:=hJ.sub.none f6;simp only[go_sem,seval,a1,Ul,haa,fq];refine ad.eh (λst=>∃T1,RS b (u' K i6 ⟨114,4,[.agg [vI 0,vI 0,.bool false,.aL]]⟩) i1 (x.add (cu b x kept n)) st.U vh T1 vl/\st.s 0=.ptr i1 0 0/\st.s 1=vI kept/\st.s 2=vI cut/\st.s 6=.ptr i6 0 0/\st.s 7=bC b.atoms)
  (λm st=>∃(j:Nat) (T1:V),j<=n/\m=n-j/\RS b (u' K i6 ⟨114,4,[.agg [vI 0,vI 0,.bool false,.aL]]⟩) i1 (x.add (cu b x kept j)) st.U vh T1 vl/\st.s 0=.ptr i1 0 0/\st.s 1=vI kept/\st.s 2=vI cut/\st.s 6=.ptr i6 0 0/\st.s 7=bC b.atoms/\∃z:Int,st.s 8=vI z/\z=(a:Int)+j) n ?_ ?_ ?_
 .exact⟨0,vf,by omega,rfl,by simpa[Wx.add,cu]using UQ,rfl,rfl,rfl,rfl,rfl,_,rfl,by omega⟩
 .clear hs UQ a1 hJ a6;rintro m ⟨S,J⟩ ⟨j,T1,hj,rfl,hJ,t0,t1,t2,t6,t7,z,t8,hz⟩;simp only at hJ t0 t1 t2 t6 t7 t8;refine ad.mix 13 ?_;by_cases C':j<n
  .have q:(z<(cut:Int))=True:=PK;have hsw:x.add (cu b x kept (j+1))={ x.add (cu b x kept j)with fs:=(x.add (cu b x kept j)).fs++[cH x.high (dC b.atoms x.s kept x.shift z)] }:=by
    simp only[Wx.add,cu,List.range_succ,eo,dO,List.map_nil,gw];rw[hz,haa]
   have Rk:aP prog 178 [bC b.atoms,br (x.add (cu b x kept j)).s,vI kept,vI (x.add (cu b x kept j)).shift,vI z] (aZ (dC b.atoms x.s kept x.shift z)):=Eo b.atoms hb.at' x.s hd kept x.shift z hk Tp;have U7:=Bt hb.at' hm.2.1 hd hk Tp z;have hyl:((x.add (cu b x kept j)).fs.map aZ).length<=2000000:=by simp[Wx.add,cu];omega
   have hyh:(x.add (cu b x kept j)).high=x.high:=rfl;rw[<-hyh]at hsw;generalize dC b.atoms x.s kept x.shift z=w at*;generalize x.add (cu b x kept j)=y at*;have hs:=aa.refl J;have a1:=hJ.row;rw[dj]at a1;rw[br]at Rk;have r1:PM .i64 (z+1):=ak;have r2:PM .i64 (w.y+y.high):=ak;obtain⟨cf,sf⟩:=hJ.of.vc;obtain⟨cl,sl⟩:=hJ.ol.vc;apply sR;simp only[go_sem,seval,t0,t1,t2,t6,t7,t8,q,cd];refine ad.Dp (by kernel_rfl) 8 (.fork [[],[],[1],[2,1],[3,2,1],[],[],[6],[7,6],[8,7,6],[],[0,4,5,9,10,3,2,1,8,7,6],[],[12,11,0,1,2,3,4,5,6,7,8,9,10]] [0,1,2,3,4,5,6,7,8,9,10] [11,12] [(.leaf [[],[],[1],[2,1],[3,2,1],[],[],[6],[7,6],[8,7,6],[],[0,4,5,9,10,3,2,1,8,7,6],[11,0,4,5,9,10,3,2,1,8,7,6],[11,0,4,5,9,10,3,2,1,8,7,6,12]] [11,12,13]),(.leaf [[],[],[1],[2,1],[3,2,1],[],[],[6],[7,6],[8,7,6],[],[12,0,4,5,9,10,3,2,1,8,7,6],[],[12,11,0,1,2,3,4,5,6,7,8,9,10]] [12,11,13])]) (by kernel_rfl) ?_;refine GT.nU (its:=[0,2,4,6,8,10,12,14,16,18,20]) (by kernel_rfl) ?_;refine RE.QS (n:=0) [] [0,2,4,6,8,10,12,14,16,18,20] [⟨(.some 31),(.Qo (.t 7)),.none⟩,⟨(.some 32),(.Qo (.t 0)),.none⟩,⟨(.some 33),(.nilCheck (.t 32)),.none⟩,⟨(.some 34),(.PN .true 4 3 (.t 33)),.none⟩,⟨(.some 35),(.load .true 3 (.t 34)),.none⟩,⟨(.some 36),(.Qo (.t 1)),.none⟩,⟨(.some 37),(.Qo (.t 0)),.none⟩,⟨(.some 38),(.nilCheck (.t 37)),.none⟩,⟨(.some 39),(.PN .false 12 1 (.t 38)),.none⟩,⟨(.some 40),(.load .false 1 (.t 39)),.none⟩,⟨(.some 41),(.Qo (.t 8)),.none⟩] rfl rfl ?_;apply sG;simp only[go_sem,seval,a1,t0,t1,t7,t8,aZ];refine⟨?_,?_⟩
   .refine GT.ik (its:=[22,24,26]) (by kernel_rfl) ?_;refine RE.ay rfl rfl rfl rfl rfl (Rk _) ?_;refine RE.QS (n:=0) [] [24,26] [⟨(.some 9),(.alloc 47 7 (.agg [(.int .i64 0),(.int .i64 0),(.int .i64 0),(.int .i64 0),(.int .i64 0),(.int .i64 0),(.int .i64 0)])),.none⟩,⟨.none,(.store 7 (.t 9) (.t 42)),.none⟩] rfl rfl ?_;apply sG;simp only[go_sem,seval,a1,t0,t1,t7,t8,aZ];refine bj λi9 Z9 s9 a9 f9=>?_;have n19:=ao a1 f9;replace a1:=s9 _ _ a1;have z9:=hs.none f9;replace hs:=hs.trans s9;simp only[go_sem,seval,a1,t0,t1,t7,t8,aZ,a9];generalize QX:u' _ i9 _=Y9;replace a9:=(congrFun QX i9).symm.trans af;replace a1:=((congrFun QX i1).symm.trans (ab n19)).trans a1;replace hs:=Eq.subst (motive:=aa _) QX (hs.az z9);clear QX;apply sR;simp only[go_sem,seval,a9,a1,t0,r2,ab n19,ab n19,cf,sf];generalize QX:u' _ i9 _=Y9;replace a9:=(congrFun QX i9).symm.trans af;replace a1:=((congrFun QX i1).symm.trans (ab n19)).trans a1;replace hs:=Eq.subst (motive:=aa _) QX (hs.az z9);clear QX;refine bj λi59 Z59 s59 a59 f59=>?_;have Rz:=(hJ.mono hs).mono s59;obtain⟨PU,QV,Wp⟩:=yz Rz.sub Rz.no Rz.row Rz.of;generalize Zt:y.fs.map aZ=rows at*;have Qp:(rows.length+1)*57<=140737488355328:=by omega
    simp only[go_sem,seval,QV,cW a59,Qp];refine jx λi60 Z60 s60 a60 f60=>?_;obtain⟨b1,hg⟩:=Wp Z60 i60 _ s60 a60 f60;rw[dj]at b1;obtain⟨g1,g2,g3⟩:=hg (dj b { y with fs:=y.fs++[cH y.high w] } vh (.own i60 0 (rows.length+1)) vl);simp only[go_sem,seval,b1,t0,t1,t2,t6,t7,t8,ch,sh,cf,sf,cl,sl,r1];refine⟨_,?_,j+1,.own i60 0 (rows.length+1),by omega,rfl,?_,_,rfl,by omega⟩
    .omega
    .rw[hsw];obtain⟨k1,k2⟩:=g3 _ _ Rz.oh Rz.hf.symm;obtain⟨k3,k4⟩:=g3 _ _ Rz.ol Rz.fl;rw[fB]at g2 k2 k4;refine⟨?_,k1,?_,k3,k2.symm,hJ.hl,k4,g1,hJ.no⟩
     .exact af
     .show aN _ _ _ _ _ ((y.fs++[cH y.high w]).map aZ);rw[eo,Zt];exact g2
   .refine GT.ik (its:=[24,9,19,22,26]) (by kernel_rfl) ?_;refine RE.QS (n:=0) [9,19,22,26] [24] [⟨(.some 9),(.alloc 47 7 (.agg [(.int .i64 0),(.int .i64 0),(.int .i64 0),(.int .i64 0),(.int .i64 0),(.int .i64 0),(.int .i64 0)])),.none⟩] rfl rfl ?_;apply sG;simp only[go_sem,seval,a1,t0,t1,t7,t8,aZ];refine bj λi9 Z9 s9 a9 f9=>?_;have n19:=ao a1 f9;replace a1:=s9 _ _ a1;have z9:=hs.none f9;replace hs:=hs.trans s9;simp only[go_sem,seval,a1,t0,t1,t7,t8,aZ,a9];refine RE.Rl rfl rfl rfl rfl rfl trivial (by simp only[go_sem,seval,a1,t0,t1,t7,t8,aZ,a9]) ?_;refine RE.Rl rfl rfl rfl rfl rfl trivial (by simp only[go_sem,seval,a1,t0,t1,t7,t8,aZ,a9]) ?_;refine RE.ay rfl rfl rfl rfl rfl (Rk _) ?_;refine RE.QS (n:=0) [] [26] [⟨.none,(.store 7 (.t 9) (.t 42)),.none⟩] rfl rfl ?_;apply sG;simp only[go_sem,seval,a1,t0,t1,t7,t8,aZ,a9];generalize QX:u' _ i9 _=Y9;replace a9:=(congrFun QX i9).symm.trans af;replace a1:=((congrFun QX i1).symm.trans (ab n19)).trans a1;replace hs:=Eq.subst (motive:=aa _) QX (hs.az z9);clear QX;apply sR;simp only[go_sem,seval,a9,a1,t0,r2,ab n19,ab n19,cf,sf];generalize QX:u' _ i9 _=Y9;replace a9:=(congrFun QX i9).symm.trans af;replace a1:=((congrFun QX i1).symm.trans (ab n19)).trans a1;replace hs:=Eq.subst (motive:=aa _) QX (hs.az z9);clear QX;refine bj λi59 Z59 s59 a59 f59=>?_;have Rz:=(hJ.mono hs).mono s59;obtain⟨PU,QV,Wp⟩:=yz Rz.sub Rz.no Rz.row Rz.of;generalize Zt:y.fs.map aZ=rows at*;have Qp:(rows.length+1)*57<=140737488355328:=by omega
    simp only[go_sem,seval,QV,cW a59,Qp];refine jx λi60 Z60 s60 a60 f60=>?_;obtain⟨b1,hg⟩:=Wp Z60 i60 _ s60 a60 f60;rw[dj]at b1;obtain⟨g1,g2,g3⟩:=hg (dj b { y with fs:=y.fs++[cH y.high w] } vh (.own i60 0 (rows.length+1)) vl);simp only[go_sem,seval,b1,t0,t1,t2,t6,t7,t8,ch,sh,cf,sf,cl,sl,r1];refine⟨_,?_,j+1,.own i60 0 (rows.length+1),by omega,rfl,?_,_,rfl,by omega⟩
    .omega
    .rw[hsw];obtain⟨k1,k2⟩:=g3 _ _ Rz.oh Rz.hf.symm;obtain⟨k3,k4⟩:=g3 _ _ Rz.ol Rz.fl;rw[fB]at g2 k2 k4;refine⟨?_,k1,?_,k3,k2.symm,hJ.hl,k4,g1,hJ.no⟩
     .exact af
     .show aN _ _ _ _ _ ((y.fs++[cH y.high w]).map aZ);rw[eo,Zt];exact g2
  .have q:(z<(cut:Int))=False:=PG;have Rw:j=n:=by omega
   subst Rw;apply sR;simp only[go_sem,seval,t0,t1,t2,t6,t7,t8,q];exact⟨T1,hJ⟩
 .clear hs UQ a1 hJ a6;rintro⟨S,J⟩ ⟨T1,hJ,t0,t1,t2,t6,t7⟩;simp only at hJ t0 t1 t2 t6 t7;have Rk:aP prog 177 [bC b.atoms,aJ b.PX,br (x.add (cu b x kept n)).s,vI cut,vI kept,vI (x.add (cu b x kept n)).shift,vI (x.add (cu b x kept n)).body] (.PI [aJ (eF b.atoms b.PX x.s cut kept x.shift x.body).1,aJ (eF b.atoms b.PX x.s cut kept x.shift x.body).2]):=
   Fh b.atoms hb.at' b.PX hb.TH hb.W4 x.s hd cut kept x.shift x.body hk Tp
  have U7:=vK hb hd (to:=cut) (body:=x.body) hk Tp;have hyl:(x.add (cu b x kept n)).ls.length<=1000000:=ZU;have hyh:(x.add (cu b x kept n)).high=x.high:=rfl;rw[br]at Rk;generalize eF b.atoms b.PX x.s cut kept x.shift x.body=R at*;generalize x.add (cu b x kept n)=y at*;have a1:=hJ.row;rw[dj]at a1;have hflo:=nz b R.1 U7.1 y hyl (λf hf=>by
   have:=U7.2 f hf;rw[hyh];exact ak) hJ
  have ZN:cut<b.Qi.length:=by have:=hb.brk;omega
  have E':=λU=>xV (U:=U) ZN;have Vk:b.Qi.getD cut ⟨0,0,0⟩=b.Qi[cut]:=by simp[ZN]
  rw[Vk];generalize b.Qi[cut]=bk at*;refine ad.mix 13 ?_;apply sR;simp only[go_sem,seval,t0,t1,t2,t6,t7,a1,Ul,fq,CG];refine Go.cN rfl rfl rfl Rk ?_;apply sG;simp only[go_sem,seval,t0];refine ad.call rfl rfl rfl hflo ?_;rintro r Z' ⟨Ta,RX⟩;clear a1;have a1:=RX.row;rw[dj]at a1;have a6:=RX.sub _ _ af;have hs:=aa.refl Z';apply sR;simp only[go_sem,seval,t0,t2,t6,a1,Ul,EY,E',ga];refine ae λi12 Z12 VG a12 f12=>?_;have n112:=ao a1 f12;replace a1:=VG _ _ a1;have n612:=ao a6 f12;replace a6:=VG _ _ a6;have z12:=hs.none f12;replace hs:=hs.trans VG;simp only[go_sem,seval,a12,a6,t6,aT,aV,ab n112,ab n612];exact⟨_,_,aa.refl _,Wk.refl (aa.refl _) _,T1,Ta,rfl,(RX.mono (hs.az f12)).drop k6 _⟩
open Go.Proofs
def bh.rt:bh->bh
 |.seq _ b=>b
 |c=>c
def gl{i j:Nat}(h:i≠j):(∀(U:ag) (o:Ob),u' U i o j=U j)/\∀(U:ag) (o:Ob),u' U j o i=U i:=⟨λ_ _=>ab h.symm,λ_ _=>ab h⟩
def IQ(l:List Qy)(s:Q6)(Qe:Int):(jD l s Qe).y=0:=by
 unfold jD;split<;>rfl
def tW(b:Bk)(x:Wx):Wx:=(x.add [cH x.high (jD b.atoms x.s x.body)]).put (eF b.atoms b.PX x.s (x.s.atom+1) 0 0 x.body).1
def wo(b:Bk)(x:Wx):RH:=⟨eX b.atoms x.s x.body,(eF b.atoms b.PX x.s (x.s.atom+1) 0 0 x.body).2⟩
def Hr(b:Bk)(hb:BkOk b)(x:Wx)(hm:dS b.atoms x.s)(hd:x.s.done<=1152921504606846976)(hx:x.fs.length<=1000000)(ZU:x.ls.length<=1000000)(hh:0<=x.high/\x.high<=1152921504606846976)(u v:Int)
 {K U:ag}{i1:Nat}{vh vf vl:V}(hJ:RS b K i1 x U vh vf vl):
 aC prog 125 [.ptr i1 0 0,vI u,vI v] U λr Z'=>∃T1 Ta,r=df (wo b x)/\RS b K i1 (tW b x) Z' vh T1 Ta:=by
 refine OL.r (by simp[Ha]) ?_;have Ul:bN b=.agg [aM b.nodes,vI b.w,vI b.h,bC b.atoms,aJ b.PX,vI b.PJ,bR b.Qi]:=rfl;have a1:=hJ.row;rw[dj]at a1;obtain⟨ch,sh⟩:=hJ.oh.vc;have hlen:=hb.len;refine ad.mix 12 ?_;have hs:=aa.refl U;apply sR;simp only[go_sem,seval,Ha];refine ae λi6 Z6 s6 a6 f6=>?_;have n16:=ao a1 f6;replace a1:=s6 _ _ a1;have z6:=hs.none f6;replace hs:=hs.trans s6;have k6:K i6=none:=hJ.sub.none f6;have UQ:=hJ.nM s6 f6 a6;clear hJ;simp only[go_sem,seval,a1,Ul,fq,cd];have Ra:=LX b.atoms hb.at' x.s hd x.body;have hw0:=IQ b.atoms x.s x.body;unfold tW wo;have Rk:=Fh b.atoms hb.at' b.PX hb.TH hb.W4 x.s hd (x.s.atom+1) 0 0 x.body (by omega) (by omega);have U7:=vK hb hd (to:=x.s.atom+1) (kept:=0) (shift:=0) (body:=x.body) (by omega) (by omega);generalize jD b.atoms x.s x.body=w at*;generalize eX b.atoms x.s x.body=nx at*;generalize eF b.atoms b.PX x.s (x.s.atom+1) 0 0 x.body=R at*;rw[br]at Ra Rk;obtain⟨cf,sf⟩:=UQ.of.vc;obtain⟨cl,sl⟩:=UQ.ol.vc;have nc:(br nx).cells=[vI nx.atom,vI nx.done,.bool nx.free]:=rfl;have ns:(br nx).stays=true:=rfl;have fin:∀(S:Nat->V) (J:ag) (i8 i9:Nat),aa Z6 J->((∀(U:ag) (o:Ob),u' U i8 o i9=U i9)/\∀(U:ag) (o:Ob),u' U i9 o i8=U i8)->Z6 i8=none->Z6 i9=none->J i8=some ⟨47,7,[.agg [vI w.node,vI w.atom,vI w.fr,vI w.x,vI w.y,vI w.w,vI w.h]]⟩->J i9=some ⟨112,3,[.agg [vI nx.atom,vI nx.done,.bool nx.free]]⟩->
  S 0=.ptr i1 0 0->S 6=.ptr i6 0 0->S 7=bC b.atoms->S 8=.ptr i8 0 0->S 9=.ptr i9 0 0->
  ad prog 89 [It.code Ha.code.rt.rt.rt] ⟨S,J⟩ λst=>UK [.cell true 4 (.t 6)] st λr Z'=>∃T1 Ta,r=df ⟨nx,R.2⟩/\RS b K i1 ((x.add [cH x.high w]).put R.1) Z' vh T1 Ta:=by
  intro S J i8 i9 hsY hn z8 z9 a8 a9 t0 t6 t7 t8 t9;have YR:=ao a6 z9;have k9:=UQ.sub.none z9;have hJ:=UQ.nM hsY z9 a9;have n18:i1≠i8:=ao a1 z8;have a1:=hJ.row;rw[dj]at a1;have r2:PM .i64 (w.y+x.high):=ak;have r3:PM .i64 (x.s.atom+1):=ak (by have:=hm.1;omega) (by have:=hm.1;omega);have hs:=aa.refl J;have z8:=z8;refine ad.mix 12 ?_;apply sR;simp only[go_sem,seval,Ha,bh.rt,t0,t6,t7,t8,t9,a8,a1,r2,ab n18,cf,sf];generalize RA:u' J i8 _=Y8;have Rf:RS b (u' K i6 ⟨114,4,[.agg [vI 0,vI 0,.bool false,.aL]]⟩) i1 x Y8 vh vf vl:=UQ.mono (RA▸hsY.az z8);replace a8:=(congrFun RA i8).symm.trans af;replace a9:=((congrFun RA i9).symm.trans (hn.1 _ _)).trans a9;replace hJ:=UQ.nM (RA▸hsY.az z8) z9 a9;clear RA;refine bj λi50 Z50 s50 a50 f50=>?_;have Rz:=hJ.mono s50;obtain⟨PU,QV,Wp⟩:=yz Rz.sub Rz.no Rz.row Rz.of;have Su:(x.fs.map aZ).length<=1000000:=by simpa using hx
  generalize Zt:x.fs.map aZ=rows at*;have Qp:(rows.length+1)*57<=140737488355328:=by omega
  simp only[go_sem,seval,QV,cW a50,Qp];refine jx λi51 Z51 s51 a51 f51=>?_;obtain⟨b1,hg⟩:=Wp Z51 i51 _ s51 a51 f51;rw[dj]at b1;obtain⟨g1,g2,g3⟩:=hg (dj b (x.add [cH x.high w]) vh (.own i51 0 (rows.length+1)) vl);have hJa:RS b (u' (u' K i6 ⟨114,4,[.agg [vI 0,vI 0,.bool false,.aL]]⟩) i9 ⟨112,3,[.agg [vI nx.atom,vI nx.done,.bool nx.free]]⟩) i1 (x.add [cH x.high w]) (u' Z51 i1 (dj b (x.add [cH x.high w]) vh (.own i51 0 (rows.length+1)) vl)) vh (.own i51 0 (rows.length+1)) vl:=by
   obtain⟨k1,k2⟩:=g3 _ _ Rz.oh Rz.hf.symm;obtain⟨k3,k4⟩:=g3 _ _ Rz.ol Rz.fl;rw[fB]at g2 k2 k4;refine⟨af,k1,?_,k3,k2.symm,Rz.hl,k4,g1,Rz.no⟩;show aN _ _ _ _ _ ((x.fs++[cH x.high w]).map aZ);rw[eo,Zt];exact g2
  have hya:(x.add [cH x.high w]).high=x.high:=rfl;have hys:(x.add [cH x.high w]).ls=x.ls:=rfl;have hxl':(x.add [cH x.high w]).ls.length<=1000000:=ZU;generalize hY:x.add [cH x.high w]=y at*;simp only[go_sem,seval,b1,t0,t6,t7,t8,t9,ch,sh,cl,sl,Ul,fq,CG,r3];generalize hq1:u' Z51 i1 _=Y1;have Zn:=hJa;rw[show u' Z51 i1 (dj b y vh (.own i51 0 (rows.length+1)) vl)=Y1 by rw[<-hq1,dj,<-hY];rfl]at Zn;clear hJa hq1;refine Go.cN rfl rfl rfl Rk ?_;apply sG;simp only[go_sem,seval,t0];refine ad.call rfl rfl rfl (nz b R.1 U7.1 y hxl' (λf hf=>by
   have:=U7.2 f hf;rw[hya];exact ak) Zn) ?_
  rintro r Z' ⟨Ta,RX⟩;have c9:=RX.sub _ _ af;have c6:=RX.sub i6 _ ((ab YR).trans af);apply sR;simp only[go_sem,seval,t6,t9,c9,c6,aT,aV];exact⟨_,_,aa.refl _,Wk.refl (aa.refl _) _,_,Ta,rfl,(RX.narrow k9).drop k6 _⟩
 have a8:True:=trivial;have a9:True:=trivial;have hn:True:=trivial;have QJ:=aa.refl Z6;refine ad.Dp (by kernel_rfl) 8 (.fork [[],[],[1],[2,1],[3,2,1],[],[5],[6,5],[7,6,5],[8,7,6,5],[0,4,9,3,2,1,8,7,6,5],[10,0,4,9,3,2,1,8,7,6,5],[11,10,0,4,9,3,2,1,8,7,6,5],[11,10,0,4,9,3,2,1,8,7,6,5],[],[],[14,12,10,0,1,2,3,4,5,6,7,8,9,11,15],[15,13,16,0,1,2,3,4,5,6,7,8,9,10,11,12,14]] [0,1,2,3,4,5,6,7,8,9] [10,14,15] [(.fork [[],[],[1],[2,1],[3,2,1],[],[5],[6,5],[7,6,5],[8,7,6,5],[0,4,9,3,2,1,8,7,6,5],[10,0,4,9,3,2,1,8,7,6,5],[11,10,0,4,9,3,2,1,8,7,6,5],[11,10,0,4,9,3,2,1,8,7,6,5],[10,0,4,9,3,2,1,8,7,6,5],[10,0,4,9,3,2,1,8,7,6,5],[10,0,4,9,3,2,1,8,7,6,5,14,12,11,15],[10,0,4,9,3,2,1,8,7,6,5,15,13,16,11,12,14]] [10,11,12,13] [14,15] [(.leaf [[],[],[1],[2,1],[3,2,1],[],[5],[6,5],[7,6,5],[8,7,6,5],[0,4,9,3,2,1,8,7,6,5],[10,0,4,9,3,2,1,8,7,6,5],[11,10,0,4,9,3,2,1,8,7,6,5],[11,10,0,4,9,3,2,1,8,7,6,5],[10,0,4,9,3,2,1,8,7,6,5],[14,10,0,4,9,3,2,1,8,7,6,5],[14,10,0,4,9,3,2,1,8,7,6,5,12,11,15],[14,10,0,4,9,3,2,1,8,7,6,5,15,13,16,11,12]] [14,15,16,17]),(.leaf [[],[],[1],[2,1],[3,2,1],[],[5],[6,5],[7,6,5],[8,7,6,5],[0,4,9,3,2,1,8,7,6,5],[10,0,4,9,3,2,1,8,7,6,5],[11,10,0,4,9,3,2,1,8,7,6,5],[11,10,0,4,9,3,2,1,8,7,6,5],[15,10,0,4,9,3,2,1,8,7,6,5],[10,0,4,9,3,2,1,8,7,6,5],[15,10,0,4,9,3,2,1,8,7,6,5,14,12,11],[15,10,0,4,9,3,2,1,8,7,6,5,13,16,11,12,14]] [15,14,16,17])]),(.fork [[],[],[1],[2,1],[3,2,1],[],[5],[6,5],[7,6,5],[8,7,6,5],[14,0,4,9,3,2,1,8,7,6,5],[14,10,0,4,9,3,2,1,8,7,6,5],[14,11,10,0,4,9,3,2,1,8,7,6,5],[14,11,10,0,4,9,3,2,1,8,7,6,5],[],[14],[14,12,10,0,1,2,3,4,5,6,7,8,9,11,15],[14,15,13,16,0,1,2,3,4,5,6,7,8,9,10,11,12]] [14] [10,15] [(.leaf [[],[],[1],[2,1],[3,2,1],[],[5],[6,5],[7,6,5],[8,7,6,5],[14,0,4,9,3,2,1,8,7,6,5],[14,10,0,4,9,3,2,1,8,7,6,5],[14,11,10,0,4,9,3,2,1,8,7,6,5],[14,11,10,0,4,9,3,2,1,8,7,6,5],[],[10,14,0,4,9,3,2,1,8,7,6,5],[10,14,0,4,9,3,2,1,8,7,6,5,12,11,15],[10,14,0,4,9,3,2,1,8,7,6,5,15,13,16,11,12]] [10,11,12,13,15,16,17]),(.leaf [[],[],[1],[2,1],[3,2,1],[],[5],[6,5],[7,6,5],[8,7,6,5],[15,14,0,4,9,3,2,1,8,7,6,5],[15,14,10,0,4,9,3,2,1,8,7,6,5],[15,14,11,10,0,4,9,3,2,1,8,7,6,5],[15,14,11,10,0,4,9,3,2,1,8,7,6,5],[],[14],[15,14,12,10,0,1,2,3,4,5,6,7,8,9,11],[15,14,13,16,0,1,2,3,4,5,6,7,8,9,10,11,12]] [15,10,11,12,13,16,17])]),(.fork [[],[],[1],[2,1],[3,2,1],[],[5],[6,5],[7,6,5],[8,7,6,5],[15,0,4,9,3,2,1,8,7,6,5],[15,10,0,4,9,3,2,1,8,7,6,5],[15,11,10,0,4,9,3,2,1,8,7,6,5],[15,11,10,0,4,9,3,2,1,8,7,6,5],[15],[],[15,14,12,10,0,1,2,3,4,5,6,7,8,9,11],[15,13,16,0,1,2,3,4,5,6,7,8,9,10,11,12,14]] [15] [10,14] [(.leaf [[],[],[1],[2,1],[3,2,1],[],[5],[6,5],[7,6,5],[8,7,6,5],[15,0,4,9,3,2,1,8,7,6,5],[15,10,0,4,9,3,2,1,8,7,6,5],[15,11,10,0,4,9,3,2,1,8,7,6,5],[15,11,10,0,4,9,3,2,1,8,7,6,5],[10,15,0,4,9,3,2,1,8,7,6,5],[],[10,15,0,4,9,3,2,1,8,7,6,5,14,12,11],[10,15,0,4,9,3,2,1,8,7,6,5,13,16,11,12,14]] [10,11,12,13,14,16,17]),(.leaf [[],[],[1],[2,1],[3,2,1],[],[5],[6,5],[7,6,5],[8,7,6,5],[14,15,0,4,9,3,2,1,8,7,6,5],[14,15,10,0,4,9,3,2,1,8,7,6,5],[14,15,11,10,0,4,9,3,2,1,8,7,6,5],[14,15,11,10,0,4,9,3,2,1,8,7,6,5],[15],[],[14,15,12,10,0,1,2,3,4,5,6,7,8,9,11],[14,15,13,16,0,1,2,3,4,5,6,7,8,9,10,11,12]] [14,10,11,12,13,16,17])])]) (by kernel_rfl) ?_;refine GT.Mr (its:=[0,2,4,6,8,10,12,14,16,18]) (by kernel_rfl) ?_;refine RE.QS (n:=0) [] [0,2,4,6,8,10,12,14,16,18] [⟨(.some 21),(.Qo (.t 7)),.none⟩,⟨(.some 22),(.Qo (.t 0)),.none⟩,⟨(.some 23),(.nilCheck (.t 22)),.none⟩,⟨(.some 24),(.PN .true 4 3 (.t 23)),.none⟩,⟨(.some 25),(.load .true 3 (.t 24)),.none⟩,⟨(.some 26),(.Qo (.t 0)),.none⟩,⟨(.some 27),(.nilCheck (.t 26)),.none⟩,⟨(.some 28),(.PN .true 0 3 (.t 27)),.none⟩,⟨(.some 29),(.PN .false 2 1 (.t 28)),.none⟩,⟨(.some 30),(.load .false 1 (.t 29)),.none⟩] rfl rfl ?_;apply sG;simp only[go_sem,seval,a1,aZ,nc,ns,a8,a9,hn];refine⟨?_,?_,?_⟩
 .refine GT.nU (its:=[20,22,24,26]) (by kernel_rfl) ?_;refine RE.ay rfl rfl rfl rfl rfl (Ra _) ?_;refine RE.QS (n:=0) [] [22,24,26] [⟨(.some 20),(.Qo (.t 31)),.none⟩,⟨(.some 32),(.ext 0 (.t 20)),.none⟩,⟨(.some 33),(.ext 1 (.t 20)),.none⟩] rfl rfl ?_;apply sG;simp only[go_sem,seval,a1,aZ,nc,ns,a8,a9,hn];refine⟨?_,?_⟩
  .refine GT.ik (its:=[28,30,32,34]) (by kernel_rfl) ?_;refine RE.QS (n:=0) [] [28,30,32,34] [⟨(.some 8),(.alloc 47 7 (.agg [(.int .i64 0),(.int .i64 0),(.int .i64 0),(.int .i64 0),(.int .i64 0),(.int .i64 0),(.int .i64 0)])),.none⟩,⟨(.some 9),(.alloc 112 3 (.agg [(.int .i64 0),(.int .i64 0),(.bool .false)])),.none⟩,⟨.none,(.store 7 (.t 8) (.t 32)),.none⟩,⟨.none,(.store 3 (.t 9) (.t 33)),.none⟩] rfl rfl ?_;apply sG;simp only[go_sem,seval,a1,aZ,nc,ns,a8,a9,hn];refine bj λi8 Z8 s8 a8 f8=>?_;replace a1:=s8 _ _ a1
   try replace hn:=gl (ao a9 f8).symm
   try replace a9:=s8 _ _ a9
   have z8:=QJ.none f8;replace QJ:=QJ.trans s8;simp only[go_sem,seval,a1,aZ,nc,ns,a8,a9,hn];refine bj λi9 Z9 s9 a9 f9=>?_;replace a1:=s9 _ _ a1
   try replace hn:=gl (ao a8 f9)
   try replace a8:=s9 _ _ a8
   have z9:=QJ.none f9;replace QJ:=QJ.trans s9;simp only[go_sem,seval,a1,aZ,nc,ns,a8,a9,hn];exact fin _ _ i8 i9 ((QJ.az z8).az z9) hn z8 z9 ((hn.2 _ _).trans af) af rfl rfl rfl rfl rfl
  .refine GT.ik (its:=[30,28,32,34]) (by kernel_rfl) ?_;refine RE.QS (n:=0) [] [30,28,32,34] [⟨(.some 9),(.alloc 112 3 (.agg [(.int .i64 0),(.int .i64 0),(.bool .false)])),.none⟩,⟨(.some 8),(.alloc 47 7 (.agg [(.int .i64 0),(.int .i64 0),(.int .i64 0),(.int .i64 0),(.int .i64 0),(.int .i64 0),(.int .i64 0)])),.none⟩,⟨.none,(.store 7 (.t 8) (.t 32)),.none⟩,⟨.none,(.store 3 (.t 9) (.t 33)),.none⟩] rfl rfl ?_;apply sG;simp only[go_sem,seval,a1,aZ,nc,ns,a8,a9,hn];refine bj λi9 Z9 s9 a9 f9=>?_;replace a1:=s9 _ _ a1
   try replace hn:=gl (ao a8 f9)
   try replace a8:=s9 _ _ a8
   have z9:=QJ.none f9;replace QJ:=QJ.trans s9;simp only[go_sem,seval,a1,aZ,nc,ns,a8,a9,hn];refine bj λi8 Z8 s8 a8 f8=>?_;replace a1:=s8 _ _ a1
   try replace hn:=gl (ao a9 f8).symm
   try replace a9:=s8 _ _ a9
   have z8:=QJ.none f8;replace QJ:=QJ.trans s8;simp only[go_sem,seval,a1,aZ,nc,ns,a8,a9,hn];exact fin _ _ i8 i9 ((QJ.az z8).az z9) hn z8 z9 ((hn.2 _ _).trans af) af rfl rfl rfl rfl rfl
 .refine GT.nU (its:=[28,9,19]) (by kernel_rfl) ?_;refine RE.QS (n:=0) [9,19] [28] [⟨(.some 8),(.alloc 47 7 (.agg [(.int .i64 0),(.int .i64 0),(.int .i64 0),(.int .i64 0),(.int .i64 0),(.int .i64 0),(.int .i64 0)])),.none⟩] rfl rfl ?_;apply sG;simp only[go_sem,seval,a1,aZ,nc,ns,a8,a9,hn];refine bj λi8 Z8 s8 a8 f8=>?_;replace a1:=s8 _ _ a1
  try replace hn:=gl (ao a9 f8).symm
  try replace a9:=s8 _ _ a9
  have z8:=QJ.none f8;replace QJ:=QJ.trans s8;simp only[go_sem,seval,a1,aZ,nc,ns,a8,a9,hn];refine RE.Rl rfl rfl rfl rfl rfl trivial (by simp only[go_sem,seval,a1,aZ,nc,ns,a8,a9,hn]) ?_;refine RE.Rl rfl rfl rfl rfl rfl trivial (by simp only[go_sem,seval,a1,aZ,nc,ns,a8,a9,hn]) ?_;refine⟨?_,?_⟩
  .refine GT.ik (its:=[20,22,24,26,30,32,34]) (by kernel_rfl) ?_;refine RE.ay rfl rfl rfl rfl rfl (Ra _) ?_;refine RE.QS (n:=0) [] [22,24,26,30,32,34] [⟨(.some 20),(.Qo (.t 31)),.none⟩,⟨(.some 32),(.ext 0 (.t 20)),.none⟩,⟨(.some 33),(.ext 1 (.t 20)),.none⟩,⟨(.some 9),(.alloc 112 3 (.agg [(.int .i64 0),(.int .i64 0),(.bool .false)])),.none⟩,⟨.none,(.store 7 (.t 8) (.t 32)),.none⟩,⟨.none,(.store 3 (.t 9) (.t 33)),.none⟩] rfl rfl ?_;apply sG;simp only[go_sem,seval,a1,aZ,nc,ns,a8,a9,hn];refine bj λi9 Z9 s9 a9 f9=>?_;replace a1:=s9 _ _ a1
   try replace hn:=gl (ao a8 f9)
   try replace a8:=s9 _ _ a8
   have z9:=QJ.none f9;replace QJ:=QJ.trans s9;simp only[go_sem,seval,a1,aZ,nc,ns,a8,a9,hn];exact fin _ _ i8 i9 ((QJ.az z8).az z9) hn z8 z9 ((hn.2 _ _).trans af) af rfl rfl rfl rfl rfl
  .refine GT.ik (its:=[30,9,19,20,22,24,26,32,34]) (by kernel_rfl) ?_;refine RE.QS (n:=0) [9,19,20,22,24,26,32,34] [30] [⟨(.some 9),(.alloc 112 3 (.agg [(.int .i64 0),(.int .i64 0),(.bool .false)])),.none⟩] rfl rfl ?_;apply sG;simp only[go_sem,seval,a1,aZ,nc,ns,a8,a9,hn];refine bj λi9 Z9 s9 a9 f9=>?_;replace a1:=s9 _ _ a1
   try replace hn:=gl (ao a8 f9)
   try replace a8:=s9 _ _ a8
   have z9:=QJ.none f9;replace QJ:=QJ.trans s9;simp only[go_sem,seval,a1,aZ,nc,ns,a8,a9,hn];refine RE.Rl rfl rfl rfl rfl rfl trivial (by simp only[go_sem,seval,a1,aZ,nc,ns,a8,a9,hn]) ?_;refine RE.Rl rfl rfl rfl rfl rfl trivial (by simp only[go_sem,seval,a1,aZ,nc,ns,a8,a9,hn]) ?_;refine RE.ay rfl rfl rfl rfl rfl (Ra _) ?_;refine RE.QS (n:=0) [] [22,24,26,32,34] [⟨(.some 20),(.Qo (.t 31)),.none⟩,⟨(.some 32),(.ext 0 (.t 20)),.none⟩,⟨(.some 33),(.ext 1 (.t 20)),.none⟩,⟨.none,(.store 7 (.t 8) (.t 32)),.none⟩,⟨.none,(.store 3 (.t 9) (.t 33)),.none⟩] rfl rfl ?_;apply sG;simp only[go_sem,seval,a1,aZ,nc,ns,a8,a9,hn];exact fin _ _ i8 i9 ((QJ.az z8).az z9) hn z8 z9 ((hn.2 _ _).trans af) af rfl rfl rfl rfl rfl
 .refine GT.nU (its:=[30,9,19]) (by kernel_rfl) ?_;refine RE.QS (n:=0) [9,19] [30] [⟨(.some 9),(.alloc 112 3 (.agg [(.int .i64 0),(.int .i64 0),(.bool .false)])),.none⟩] rfl rfl ?_;apply sG;simp only[go_sem,seval,a1,aZ,nc,ns,a8,a9,hn];refine bj λi9 Z9 s9 a9 f9=>?_;replace a1:=s9 _ _ a1
  try replace hn:=gl (ao a8 f9)
  try replace a8:=s9 _ _ a8
  have z9:=QJ.none f9;replace QJ:=QJ.trans s9;simp only[go_sem,seval,a1,aZ,nc,ns,a8,a9,hn];refine RE.Rl rfl rfl rfl rfl rfl trivial (by simp only[go_sem,seval,a1,aZ,nc,ns,a8,a9,hn]) ?_;refine RE.Rl rfl rfl rfl rfl rfl trivial (by simp only[go_sem,seval,a1,aZ,nc,ns,a8,a9,hn]) ?_;refine⟨?_,?_⟩
  .refine GT.ik (its:=[20,22,24,26,28,32,34]) (by kernel_rfl) ?_;refine RE.ay rfl rfl rfl rfl rfl (Ra _) ?_;refine RE.QS (n:=0) [] [22,24,26,28,32,34] [⟨(.some 20),(.Qo (.t 31)),.none⟩,⟨(.some 32),(.ext 0 (.t 20)),.none⟩,⟨(.some 33),(.ext 1 (.t 20)),.none⟩,⟨(.some 8),(.alloc 47 7 (.agg [(.int .i64 0),(.int .i64 0),(.int .i64 0),(.int .i64 0),(.int .i64 0),(.int .i64 0),(.int .i64 0)])),.none⟩,⟨.none,(.store 7 (.t 8) (.t 32)),.none⟩,⟨.none,(.store 3 (.t 9) (.t 33)),.none⟩] rfl rfl ?_;apply sG;simp only[go_sem,seval,a1,aZ,nc,ns,a8,a9,hn];refine bj λi8 Z8 s8 a8 f8=>?_;replace a1:=s8 _ _ a1
   try replace hn:=gl (ao a9 f8).symm
   try replace a9:=s8 _ _ a9
   have z8:=QJ.none f8;replace QJ:=QJ.trans s8;simp only[go_sem,seval,a1,aZ,nc,ns,a8,a9,hn];exact fin _ _ i8 i9 ((QJ.az z8).az z9) hn z8 z9 ((hn.2 _ _).trans af) af rfl rfl rfl rfl rfl
  .refine GT.ik (its:=[28,9,19,20,22,24,26,32,34]) (by kernel_rfl) ?_;refine RE.QS (n:=0) [9,19,20,22,24,26,32,34] [28] [⟨(.some 8),(.alloc 47 7 (.agg [(.int .i64 0),(.int .i64 0),(.int .i64 0),(.int .i64 0),(.int .i64 0),(.int .i64 0),(.int .i64 0)])),.none⟩] rfl rfl ?_;apply sG;simp only[go_sem,seval,a1,aZ,nc,ns,a8,a9,hn];refine bj λi8 Z8 s8 a8 f8=>?_;replace a1:=s8 _ _ a1
   try replace hn:=gl (ao a9 f8).symm
   try replace a9:=s8 _ _ a9
   have z8:=QJ.none f8;replace QJ:=QJ.trans s8;simp only[go_sem,seval,a1,aZ,nc,ns,a8,a9,hn];refine RE.Rl rfl rfl rfl rfl rfl trivial (by simp only[go_sem,seval,a1,aZ,nc,ns,a8,a9,hn]) ?_;refine RE.Rl rfl rfl rfl rfl rfl trivial (by simp only[go_sem,seval,a1,aZ,nc,ns,a8,a9,hn]) ?_;refine RE.ay rfl rfl rfl rfl rfl (Ra _) ?_;refine RE.QS (n:=0) [] [22,24,26,32,34] [⟨(.some 20),(.Qo (.t 31)),.none⟩,⟨(.some 32),(.ext 0 (.t 20)),.none⟩,⟨(.some 33),(.ext 1 (.t 20)),.none⟩,⟨.none,(.store 7 (.t 8) (.t 32)),.none⟩,⟨.none,(.store 3 (.t 9) (.t 33)),.none⟩] rfl rfl ?_;apply sG;simp only[go_sem,seval,a1,aZ,nc,ns,a8,a9,hn];exact fin _ _ i8 i9 ((QJ.az z8).az z9) hn z8 z9 ((hn.2 _ _).trans af) af rfl rfl rfl rfl rfl
open Go.Proofs
def wO{b:Bk}(hb:BkOk b){s:Q6}(h:dS b.atoms s):0<=s.done/\s.done<=18014398509481984:=by
 obtain⟨⟨h0,h1⟩,h2,h3⟩:=h;obtain⟨k,hk⟩:∃k:Nat,s.atom=k:=⟨s.atom.toNat,by omega⟩
 have RG:k<b.atoms.length:=by omega
 have:=hb.tight _ (QF RG);rw[hk,bn RG]at h3;omega
def vw{b:Bk}(hb:BkOk b)(k:Int):-18014398509481984<=gK b.atoms k/\gK b.atoms k<=36028797018963968:=by
 unfold gK;split
 .rename_i h;obtain⟨n,rfl⟩:∃n:Nat,k=n:=⟨k.toNat,by omega⟩
  have hn:n<b.atoms.length:=by omega
  have:=hb.tight _ (QF hn);rw[bn hn];omega
 .omega
def C8{b:Bk}(hb:BkOk b)(s:Q6)(Qe:Int):-1152921504606846976<=pE b.atoms s Qe/\pE b.atoms s Qe<=2305843009213693952:=by
 unfold pE nH;split
 .split
  .rename_i h;have h1:=vw hb (s.atom-1);obtain⟨n,hn⟩:∃n:Nat,s.atom=n:=⟨s.atom.toNat,by omega⟩
   have TA:n<b.atoms.length:=by omega
   have:=hb.tight _ (QF TA);rw[hn]at h1|-;rw[bn TA];omega
  .omega
 .omega
def qF{l:List Qy}{s:Q6}{kept shift body:Int}:lX l s kept shift body<=l.length:=by
 unfold lX;split
 .rename_i h;have:=Co (fo l s kept shift body) (l.length-s.atom.toNat);have:=h.1;omega
 .omega
def DP(ah:Fd->Fd->Bool->Bool):∀(xs:List Fd) (d:Fd),(fp ah xs d).1=d\/(fp ah xs d).1∈xs:=by
 have key:∀(xs:List Fd) (p:Fd×Bool),(xs.foldl (gd ah) p).1=p.1\/(xs.foldl (gd ah) p).1∈xs:=by
  intro xs
  induction xs with
  |nil=>intro p;exact .inl rfl
  |cons x xs ih=>
   intro p;rw[iY];rcases ih (gd ah p x)with h|h
   .rw[h];unfold gd;split
    .exact .inr (by simp)
    .exact .inl rfl
   .exact .inr (by simp[h])
 exact λxs d=>key xs (d,false)
def Db{xs:List Fd}(h:xs≠[])(d:Fd):(fp jb xs d).1∈xs:=by
 obtain⟨x,xs,rfl⟩:∃x l,xs=x::l:=by cases xs with
  |nil=>exact absurd rfl h
  |cons x l=>exact⟨x,l,rfl⟩
 unfold fp;rw[iY];have:gd jb (d,false) x=(x,true):=by simp[gd,jb]
 rw[this];have key:∀(xs:List Fd) (p:Fd×Bool),(xs.foldl (gd jb) p).1=p.1\/(xs.foldl (gd jb) p).1∈xs:=by
  intro xs
  induction xs with
  |nil=>intro p;exact .inl rfl
  |cons x xs ih=>
   intro p;rw[iY];rcases ih (gd jb p x)with h|h
   .rw[h];unfold gd;split
    .exact .inr (by simp)
    .exact .inl rfl
   .exact .inr (by simp[h])
 rcases key xs (x,true)with h|h
 .rw[h];simp
 .simp[h]
def uh{b:List Sb}{i fit:Int}(h:fQ b i fit)(hf:fit<=(b.length:Int)-1):∃c:Nat,vx b i fit=c/\i<c/\(c:Int)<=fit:=by
 obtain⟨_,h1,h2,h3⟩:=h;have mem:∀x∈(Wo b (i+1) fit).map (mf b),∃c:Nat,x.i=c/\i<c/\(c:Int)<=fit:=λx hx=>by
  obtain⟨k,hk,rfl⟩:=eI.1 hx;unfold Wo vg at hk;rw[List.mem_range'_1]at hk;exact⟨k,rfl,by omega,by omega⟩
 unfold vx;split
 .refine mem _ (Db ?_ _);intro e;have:=congrArg List.length e;simp[Wo,vg]at this;omega
 .rename_i hn;rcases DP gW ((Wo b (i+1) fit).map (mf b)) AZ with h|h
  .exact absurd (show lC b (i+1) fit<0 by unfold lC;rw[h];decide) hn
  .exact mem _ h
def RS.set{b:Bk}{K:ag}{ix:Nat}{x:Wx}{U:ag}{vh vf vl:V}(h:RS b K ix x U vh vf vl)(x':Wx)(h1:x'.hs=x.hs)(h2:x'.fs=x.fs)(h3:x'.ls=x.ls):RS b K ix x' (u' U ix (dj b x' vh vf vl)) vh vf vl:=by
 have k2:bg K ix ix≠none:=λh=>(aI.1 h).1 rfl;exact⟨Vc.af,h1▸h.oh.ab k2,h2▸h.of.ab k2,h3▸h.ol.ab k2,h.hf,h.hl,h.fl,h.sub.az h.no,h.no⟩
def ec(b:Bk)(x:Wx):Int:=pE b.atoms x.s (x.body-x.shift)
def ez(b:Bk)(x:Wx):Int:=lX b.atoms x.s (ec b x) x.shift x.body
def ye(b:Bk)(x:Wx):Int:=vx b.Qi x.s.atom (ez b x)
def sL(b:Bk)(x:Wx)(kept:Int)(cut:Nat):Wx:=(x.add (cu b x kept (cut-x.s.atom.toNat))).put (eF b.atoms b.PX x.s cut kept x.shift x.body).1
def BE(b:Bk)(x:Wx)(kept:Int)(cut:Nat):RH:=⟨⟨cut,0,decide ((b.Qi.getD cut ⟨0,0,0⟩).forced≠0)⟩,(eF b.atoms b.PX x.s cut kept x.shift x.body).2⟩
def eD(b:Bk)(x:Wx):Wx:=if fQ b.Qi x.s.atom (ez b x)then sL b { x with kind:=1 } (ec b x) (ye b x).toNat else tW b { x with kind:=1 }
def fv(b:Bk)(x:Wx):RH:=if fQ b.Qi x.s.atom (ez b x)then BE b { x with kind:=1 } (ec b x) (ye b x).toNat else wo b { x with kind:=1 }
def IN(b:Bk)(hb:BkOk b)(x:Wx)(hm:dS b.atoms x.s)(hx:x.fs.length<=1000000)(ZU:x.ls.length<=1000000)(hh:0<=x.high/\x.high<=1125899906842624)(hbd:0<=x.body/\x.body<=1125899906842624)
 (Tp:0<=x.shift/\x.shift<=1125899906842624){K U:ag}{i1:Nat}{vh vf vl:V}(hJ:RS b K i1 x U vh vf vl):
 aC prog 77 [.ptr i1 0 0] U λr Z'=>∃T1 Ta,r=df (fv b x)/\RS b K i1 (eD b x) Z' vh T1 Ta:=by
 refine e77.r (by simp[c77]) ?_;have hs:=aa.refl U;have Ul:bN b=.agg [aM b.nodes,vI b.w,vI b.h,bC b.atoms,aJ b.PX,vI b.PJ,bR b.Qi]:=rfl;have a1:=hJ.row;rw[dj]at a1;obtain⟨ch,sh⟩:=hJ.oh.vc;obtain⟨cf,sf⟩:=hJ.of.vc;obtain⟨cl,sl⟩:=hJ.ol.vc;have hd:=wO hb hm;have hk:=C8 hb x.s (x.body-x.shift);have hlen:=hb.len;have Q0:=hb.brk;have Vp:=Hs b.atoms hb.at' x.s (x.body-x.shift);have hRc:=F5 b.atoms hb.at' x.s (by omega) (ec b x) x.shift x.body hk ⟨by omega,by omega⟩;have hCc:=Lv b.Qi (by omega) x.s.atom (ez b x);have Ux:ez b x<=b.atoms.length:=qF;have XM:fQ b.Qi x.s.atom (ez b x)->∃c:Nat,ye b x=c/\x.s.atom<c/\(c:Int)<=ez b x:=λh=>uh h (by omega);have hXk:ec b x=pE b.atoms x.s (x.body-x.shift):=rfl;rw[<-hXk]at Vp hk;have hXr:ez b x=lX b.atoms x.s (ec b x) x.shift x.body:=rfl;rw[<-hXr]at hRc;have hXc:ye b x=vx b.Qi x.s.atom (ez b x):=rfl;rw[<-hXc]at hCc;have r1:PM .i64 (x.body-x.shift):=ak;rw[br]at Vp hRc;unfold eD fv;generalize ec b x=kept at*;generalize ez b x=reach at*;generalize ye b x=cut at*;refine ad.mix 8 ?_;apply sR;simp only[go_sem,seval,c77];refine ae λi2 Z2 s2 a2 f2=>?_;have ZX:=ao a1 f2;replace a1:=s2 _ _ a1;have z2:=hs.none f2;replace hs:=hs.trans s2;have k2:K i2=none:=hJ.sub.none f2;have hJ2:=hJ.nM s2 f2 a2;simp only[go_sem,seval,a1,Ul,fq,r1];refine Go.cN rfl rfl rfl Vp ?_;apply sG;simp only[go_sem,seval,a1,Ul,EY];refine Go.cN rfl rfl rfl hRc ?_;apply sG;simp only[go_sem,seval];refine Go.cN rfl rfl rfl hCc ?_;have Wr:=hJ2.set { x with kind:=1 } rfl rfl rfl;rw[dj]at Wr;by_cases P4:fQ b.Qi x.s.atom reach
 .obtain⟨c,rfl,h1,h2⟩:=XM P4;rw[SP P4,aE P4,aE P4,aE P4,eL];apply sG;simp only[go_sem,seval,a1];generalize hq1:u' Z2 i1 _=Y1 at*;have hw:aC prog 126 [.ptr i1 0 0,vI kept,vI c] Y1 λr Z'=>∃T1 Ta,r=df (BE b { x with kind:=1 } kept c)/\RS b (u' K i2 ⟨114,4,[.agg [vI 0,vI 0,.bool false,.aL]]⟩) i1 (sL b { x with kind:=1 } kept c) Z' vh T1 Ta:=Gk b hb { x with kind:=1 } hm (by show x.s.done<=_;omega) hx ZU (by show 0<=x.high/\x.high<=_;omega) kept hk (by show 0<=x.shift/\x.shift<=_;omega) c (by show x.s.atom<=_;omega) (by omega) Wr;generalize BE b { x with kind:=1 } kept c=Z at*;generalize sL b { x with kind:=1 } kept c=Y at*;refine ad.kS rfl rfl rfl hw ?_;rintro r Z' ⟨T1,Ta,rfl,RX⟩;have c2:=RX.sub _ _ af;apply sR;simp only[go_sem,seval,c2,df,aT,aV];exact⟨_,_,aa.refl _,Wk.refl (aa.refl _) _,T1,Ta,rfl,RX.drop k2 _⟩
 .rw[Sz P4,aF P4,aF P4,aF P4];apply sG;simp only[go_sem,seval,a1];generalize hq1:u' Z2 i1 _=Y1 at*;have hw:aC prog 125 [.ptr i1 0 0,vI kept,vI 0] Y1 λr Z'=>∃T1 Ta,r=df (wo b { x with kind:=1 })/\RS b (u' K i2 ⟨114,4,[.agg [vI 0,vI 0,.bool false,.aL]]⟩) i1 (tW b { x with kind:=1 }) Z' vh T1 Ta:=Hr b hb { x with kind:=1 } hm (by show x.s.done<=_;omega) hx ZU (by show 0<=x.high/\x.high<=_;omega) kept 0 Wr;generalize wo b { x with kind:=1 }=Z at*;generalize tW b { x with kind:=1 }=Y at*;refine ad.kS rfl rfl rfl hw ?_;rintro r Z' ⟨T1,Ta,rfl,RX⟩;have c2:=RX.sub _ _ af;apply sR;simp only[go_sem,seval,c2,df,aT,aV];exact⟨_,_,aa.refl _,Wk.refl (aa.refl _) _,T1,Ta,rfl,RX.drop k2 _⟩
open Go.Proofs
def nY(body:Int)(f:O'):Bool:=decide (f.y+f.h<=body)
def wm(b:Bk)(x:Wx):Wx:={ (x.put (b.PX.takeWhile (nY x.body)))with kind:=2 }
def nX(b:Bk)(x:Wx):RH:=⟨⟨0,0,false⟩,b.PX.dropWhile (nY x.body)⟩
def yM{P:List O'}{j:Nat}(h:j<=P.length):∀U,cJ U 7 (aJ P) none (some (.int .i64 j)) none=some (aJ (P.take j)):=λU=>by
 have h1:(j:Int)<=P.length:=by omega
 simp only[aJ,cJ,bI,cL];rw[aE ⟨Int.le_refl _,by omega,h1,Int.le_refl _,trivial⟩];simp[List.map_take]
def xJ{α:Type}{p:α->Bool}:∀{l:List α} {j:Nat},(∀x∈l.take j,p x=true)->(∀x,l[j]?=some x->p x=false)->j<=l.length->l.takeWhile p=l.take j/\l.dropWhile p=l.drop j
 |[],j,_,_,h=>by simp
 |x::l,0,_,h2,_=>by
  have:=h2 x rfl;simp[List.takeWhile_cons,List.dropWhile_cons,this]
 |x::l,j+1,h1,h2,h=>by
  have hx:=h1 x (by simp);have ih:=xJ (p:=p) (l:=l) (j:=j) (λy hy=>h1 y (by simp[hy])) (λy hy=>h2 y (by simpa using hy)) (by simpa using h);simp[List.takeWhile_cons,List.dropWhile_cons,hx,ih.1,ih.2]
def FU(b:Bk)(hb:BkOk b)(x:Wx)(ZU:x.ls.length<=1000000)(hh:0<=x.high/\x.high<=1125899906842624){K U:ag}{i1:Nat}{vh vf vl:V}(hJ:RS b K i1 x U vh vf vl):
 aC prog 73 [.ptr i1 0 0] U λr Z'=>∃Ta,r=df (nX b x)/\RS b K i1 (wm b x) Z' vh vf Ta:=by
 refine e73.r (by simp[c73]) ?_;have hs:=aa.refl U;have Ul:bN b=.agg [aM b.nodes,vI b.w,vI b.h,bC b.atoms,aJ b.PX,vI b.PJ,bR b.Qi]:=rfl;have a1:=hJ.row;rw[dj]at a1;obtain⟨ch,sh⟩:=hJ.oh.vc;obtain⟨cf,sf⟩:=hJ.of.vc;obtain⟨cl,sl⟩:=hJ.ol.vc;have ZV:=hb.TH;have Wz:=gy b.PX;unfold wm nX;refine ad.mix 5 ?_;apply sR;simp only[go_sem,seval,c73];refine ae λi2 Z2 s2 a2 f2=>?_;have ZX:=ao a1 f2;replace a1:=s2 _ _ a1;have z2:=hs.none f2;replace hs:=hs.trans s2;have k2:K i2=none:=hJ.sub.none f2;have hJ2:=hJ.nM s2 f2 a2;simp only[go_sem,seval,a1,Ul,CG];refine ad.eh (λst=>∃j:Nat,j<=b.PX.length/\b.PX.takeWhile (nY x.body)=b.PX.take j/\b.PX.dropWhile (nY x.body)=b.PX.drop j/\st.U=Z2/\st.s 0=.ptr i1 0 0/\st.s 2=.ptr i2 0 0/\st.s 3=vI j/\st.s 4=aJ b.PX)
  (λm st=>∃j:Nat,j<=b.PX.length/\m=b.PX.length-j/\(∀f∈b.PX.take j,nY x.body f=true)/\st.U=Z2/\st.s 0=.ptr i1 0 0/\st.s 2=.ptr i2 0 0/\st.s 3=vI j/\st.s 4=aJ b.PX) b.PX.length ?_ ?_ ?_
 .exact⟨0,by omega,rfl,by simp,rfl,rfl,rfl,rfl,rfl⟩
 .rintro m ⟨S,J⟩ ⟨j,hj,rfl,Qa,P3,t0,t2,t3,t4⟩;simp only at P3 t0 t2 t3 t4;subst P3;refine ad.mix 5 ?_;by_cases C':j<b.PX.length
  .have q:((j:Int)<b.PX.length)=True:=PK;have E':=λU=>jX (U:=U) C';have Su:aS b.PX[j]=.agg [vI b.PX[j].node,vI b.PX[j].side,vI b.PX[j].anchor,vI b.PX[j].x,vI b.PX[j].y,vI b.PX[j].w,vI b.PX[j].h]:=rfl;obtain⟨_,⟨o1,o2⟩,_,o3,o4⟩:=hb.W4 _ (QF C');have Qn:b.PX.take (j+1)=b.PX.take j++[b.PX[j]]:=SO C';have QG:b.PX[j]?=some b.PX[j]:=SQ C';generalize b.PX[j]=f at*;have r1:PM .i64 (f.y+f.h):=ak;have r2:PM .i64 ((j:Int)+1):=ak;by_cases hle:f.y+f.h<=x.body
   .have q1:(f.y+f.h<=x.body)=True:=PK hle;apply sR;simp only[go_sem,seval,t0,t2,t3,t4,Wz,q,E',Su,a1,r1,q1,r2];refine⟨_,?_,j+1,by omega,rfl,?_,by simp[t0,t2,t4]⟩
    .omega
    .rw[Qn];intro g hg;rcases dM.1 hg with hg|hg
     .exact Qa g hg
     .simp at hg;subst hg;exact SP hle
   .have q1:(f.y+f.h<=x.body)=False:=PG hle;apply sR;simp only[go_sem,seval,t0,t2,t3,t4,Wz,q,E',Su,a1,r1,q1];obtain⟨e1,e2⟩:=xJ Qa (λg hg=>by rw[QG]at hg;cases hg;exact Sz hle) hj;exact⟨j,hj,e1,e2,by simp[t0,t2,t3,t4]⟩
  .have q:((j:Int)<b.PX.length)=False:=PG;apply sR;simp only[go_sem,seval,t0,t2,t3,t4,Wz,q,a1];obtain⟨e1,e2⟩:=xJ Qa (λg hg=>by rw[nF (by omega)]at hg;cases hg) hj;exact⟨j,hj,e1,e2,by simp[t0,t2,t3,t4]⟩
 .rintro⟨S,J⟩ ⟨j,hj,e1,e2,P3,t0,t2,t3,t4⟩;simp only at P3 t0 t2 t3 t4;subst P3;rw[e1,e2];have Ty:=yM hj;have hsl2:=pO hj;refine ad.mix 5 ?_;apply sR;simp only[BB,seval,<-decide_not,bp,eT,aH,dF,dG,dB,dE,dH,bO,jm,dZ,bx,fa,cQ,fb,cy,bI,gI,ct,bH,bM,QW,jg,cP,bJ,iy,di,bY,cO,cF,ji,binBV,bD,cX,V.cells,V.stays,Qw.nothing,t0,t2,t3,t4,Ty];refine ad.call rfl rfl rfl (nz b (b.PX.take j) (by rw[jt];omega) x ZU (λf hf=>by
   obtain⟨_,⟨o1,o2⟩,_,o3,o4⟩:=hb.W4 f (qw hf);exact ak) hJ2) ?_
  rintro r Z' ⟨Ta,RX⟩;have c2:=RX.sub _ _ af;have b1:=RX.row;have n12':i1≠i2:=ZX;rw[dj]at b1;generalize x.put (b.PX.take j)=y at*;have Wr:=RX.set { y with kind:=2 } rfl rfl rfl;rw[dj]at Wr;apply sR;simp only[BB,seval,<-decide_not,bp,eT,aH,dF,dG,dB,dE,dH,bO,jm,dZ,bx,fa,cQ,fb,cy,bI,gI,ct,bH,bM,QW,jg,cP,bJ,iy,di,bY,cO,cF,ji,binBV,bD,cX,V.cells,V.stays,Qw.nothing,t0,t2,t3,t4,b1,hsl2];generalize hq1:u' Z' i1 _=Y1 at*;replace c2:=Wr.sub _ _ af;refine ad.ay rfl rfl rfl (za (b.PX.drop j) (by rw[vD];omega) _) ?_;apply sR;simp only[go_sem,seval,c2,t2,aT,aV];exact⟨_,_,aa.refl _,Wk.refl (aa.refl _) _,Ta,rfl,Wr.drop k2 _⟩
open Go.Proofs
def bh.lt:bh->bh
 |.seq a _=>a
 |c=>c
def bh.bd:bh->bh
 |.block _ a=>a
 |c=>c
structure BkFull(b:Bk):Prop extends BkOk b where
 tZ:eY b.nodes
 Wy:Qs b.nodes=true
 h1:1<=b.h
 h2:b.h<=1099511627776
 nod:∀a∈b.atoms,0<=a.node/\a.node<b.nodes.length
def bG(b:Bk)(s:Q6):Kp:=if b.atoms=[]then⟨[],0,b.h⟩else rT b.nodes (Rx b.atoms (min s.atom ((b.atoms.length:Int)-1))).node b.h
def Vw(l:List Nd)(w:Int)(p:List Qk×Int)(a:Int):List Qk×Int:=(p.1++[⟨a,-1,0,0,p.2,w,(SV l a).head⟩],p.2+(SV l a).head)
def TI(l:List Nd)(w:Int)(L:List Int):List Qk×Int:=L.foldl (Vw l w) ([],0)
def zt(l:List Nd)(w:Int)(L:List Int)(a:Int):TI l w (L++[a])=Vw l w (TI l w L) a:=by
 unfold TI;rw[ov];rfl
def B7(l:List Nd)(w:Int):∀(L:List Int),(TI l w L).1.length=L.length:=by
 have key:∀(L:List Int) (p:List Qk×Int),(L.foldl (Vw l w) p).1.length=p.1.length+L.length:=by
  intro L
  induction L with
  |nil=>intro p;rfl
  |cons a L ih=>intro p;rw[iY,ih];simp[Vw];omega
 intro L;have:=key L ([],0);simpa[TI]using this
def B6(l:List Nd)(w:Int)(L:List Int)(h:∀a∈L,0<=(SV l a).head)(j:Nat):0<=(TI l w (L.take j)).2/\(TI l w (L.take j)).2<=(TI l w L).2:=by
 have key:∀(L:List Int),(∀a∈L,0<=(SV l a).head)->∀(p:List Qk×Int),p.2<=(L.foldl (Vw l w) p).2:=by
  intro L
  induction L with
  |nil=>intro _ p;exact Int.le_refl _
  |cons a L ih=>
   intro h p;rw[iY];have h1:=ih (λx hx=>h x (by simp[hx])) (Vw l w p a);have h2:=h a (by simp);simp only[Vw]at h1|-;omega
 refine⟨key (L.take j) (λa ha=>h a (qw ha)) ([],0),?_⟩;have e:TI l w L=(L.drop j).foldl (Vw l w) (TI l w (L.take j)):=by
  rw[TI,TI,<-ov,nG]
 rw[e];exact key _ (λa ha=>h a (List.mem_of_mem_drop ha)) _
def uJ{l:List Nd}{L:List Int}{h:Int}:∀m,m<=L.length->∀a∈(gr l L h m).P6,a∈L
 |0,_,a,ha=>by simp[gr]at ha
 |m+1,hm,a,ha=>by
  rw[gr,je]at ha;split at ha
  .exact uJ m (by omega) a ha
  .simp only[dM,iM]at ha;rcases ha with ha|ha
   .exact uJ m (by omega) a ha
   .rw[ha];have C':L.length-1-m<L.length:=by omega
    have hg:L.getD (L.length-1-m) 0=L[L.length-1-m]:=by simp[C']
    rw[hg];exact QF C'
def qq{l:List Nd}{L:List Int}{h w:Int}:∀m,(TI l w (gr l L h m).P6).2=(gr l L h m).high
 |0=>rfl
 |m+1=>by
  rw[gr,je];split
  .exact qq m
  .simp only[zt,Vw];rw[qq m]
structure Oq(b:Bk)(k:Kp):Prop where
 len:k.P6.length<=1000000
 mem:∀a∈k.P6,∃n:Nat,a=n/\n<b.nodes.length
 sum:(TI b.nodes b.w k.P6).2=k.high
 high:0<=k.high/\k.high<=1099511627776
 body:0<=k.body/\k.body<=1099511627776
def sk{b:Bk}(hb:BkFull b)(s:Q6):Oq b (bG b s):=by
 have h1:=hb.h1;have h2:=hb.h2;have hn:b.nodes.length<=100000:=by have:=hb.tZ.1;omega
 unfold bG;split
 .exact⟨by simp,by simp,rfl,by simp,by simp;omega⟩
 .unfold rT;split
  .rename_i hc;obtain⟨_,h3,h4⟩:=hc;generalize (Rx b.atoms (min s.atom ((b.atoms.length:Int)-1))).node=a at*;have ha:a.toNat<b.nodes.length:=by omega
   have U7:∀x∈T0 b.nodes a.toNat,∃n:Nat,x=n/\n<b.nodes.length:=λx hx=>by
    obtain⟨n,h1,h2⟩:=pz ha x hx;exact⟨n,h1,by omega⟩
   have hi:=pB hb.Wy U7 (by omega:0<=b.h) (T0 b.nodes a.toNat).length (Qh _);have hl:(T0 b.nodes a.toNat).length<=b.nodes.length+1:=iK _ _ _;unfold x8;exact⟨by omega,λx hx=>U7 x (uJ _ (Qh _) x hx),qq _,by omega,by omega⟩
  .exact⟨by simp,by simp,rfl,by simp,by simp⟩
def cb(b:Bk)(s:Q6)(hv:V):Wx:=⟨hv,(bG b s).high,(bG b s).body,s,0,(TI b.nodes b.w (bG b s).P6).1,[],[],0⟩
def Hl(b:Bk)(hb:BkFull b)(s:Q6)(QJ:0<=s.atom)(U:ag):
 aC prog 72 [.rp (bN b),br s] U λr Z'=>∃i1 vh hv,r=.ptr i1 0 0/\RS b U i1 (cb b s hv) Z' vh .aL .aL:=by
 refine e72.r (by simp[c72]) ?_;have hs:=aa.refl U;have Ul:bN b=.agg [aM b.nodes,vI b.w,vI b.h,bC b.atoms,aJ b.PX,vI b.PJ,bR b.Qi]:=rfl;have Sv:(br s).cells=[vI s.atom,vI s.done,.bool s.free]:=rfl;have Tv:(br s).stays=true:=rfl;have UE:=iV b.atoms;have hlen:=hb.len;refine ad.mix 11 ?_;apply sR;simp only[go_sem,seval,c72,Sv,Tv];refine ae λi3 Z3 s3 a3 f3=>?_;have z3:=hs.none f3;replace hs:=hs.trans s3;rw[br]at a3;simp only[go_sem,seval,a3,Ul];refine bj λi19 Z19 XC TB f19=>?_;have n319:=ao a3 f19;replace a3:=XC _ _ a3;have z19:=hs.none f19;replace hs:=hs.trans XC;have hr:=sk hb s;unfold cb;have hJ0:∀(hv:V) (k:Kp) (J:ag),J i19=some (dj b ⟨hv,k.high,k.body,s,0,[],[],[],0⟩ .aL .aL .aL)->aa U J->RS b U i19 ⟨hv,k.high,k.body,s,0,[],[],[],0⟩ J .aL .aL .aL:=λhv k J h h2=>
  ⟨h,aN.start,aN.start,aN.start,dN.aL _,dN.aL _,dN.aL _,h2,z19⟩
 have fin:∀(S:Nat->V) (J:ag) (hv:V),dY false hv=some (.int .i64 (bG b s).P6.length)->(∀(j:Nat) (h:j<(bG b s).P6.length) (U:ag),bL U 1 hv (.int .i64 j)=some (.rp (vI (bG b s).P6[j])))->
  J i19=some (dj b ⟨hv,(bG b s).high,(bG b s).body,s,0,[],[],[],0⟩ .aL .aL .aL)->aa U J->S 0=.rp (bN b)->S 5=.ptr i19 0 0->S 7=vI 0->S 57=hv->S 58=vI (bG b s).P6.length->S 59=vI 0->
  ad prog 96 [It.code c72.code.rt.rt.rt.rt.lt.rt.bd,It.inBlock 0,It.code c72.code.rt.rt.rt.rt.rt] ⟨S,J⟩ λst=>UK [.tmp (.t 4)] st λr Z'=>∃i1 vh hv,r=.ptr i1 0 0/\RS b U i1 ⟨hv,(bG b s).high,(bG b s).body,s,0,(TI b.nodes b.w (bG b s).P6).1,[],[],0⟩ Z' vh .aL .aL:=by
  intro S J hv hlL Vr h19 hsY t0 t5 t7 t57 t58 t59;have hJ:=hJ0 _ _ _ h19 hsY;clear hJ0 h19 hsY hs a3 TB;generalize bG b s=k at*;obtain⟨L,high,body⟩:=k;obtain⟨r1,r2,r3,⟨r4,r5⟩,_⟩:=hr;simp only at r1 r2 r3 r4 r5 hJ hlL Vr t58|-;have hh0:∀a∈L,0<=(SV b.nodes a).head:=λa ha=>by
   obtain⟨n,rfl,hn⟩:=r2 a ha;rw[jo hn];exact(gi hb.Wy hn).st.head.1
  have TB:=hJ.row;rw[dj]at TB;refine ad.mix 60 ?_;simp only[c72,bh.rt,bh.lt,bh.bd];refine ad.loop (λm st=>∃(j:Nat) (vh:V),j<=L.length/\m=L.length-j/\RS b U i19 ⟨hv,high,body,s,0,(TI b.nodes b.w (L.take j)).1,[],[],0⟩ st.U vh .aL .aL/\st.s 0=.rp (bN b)/\st.s 5=.ptr i19 0 0/\st.s 7=vI (TI b.nodes b.w (L.take j)).2/\st.s 57=hv/\st.s 58=vI L.length/\st.s 59=vI j) L.length ?_ ?_
  .exact⟨0,.aL,by omega,rfl,hJ,t0,t5,t7,t57,t58,t59⟩
  .clear hJ TB t0 t5 t7 t57 t58 t59;rintro m ⟨S,J⟩ ⟨j,vh,hj,rfl,hJ,t0,t5,t7,t57,t58,t59⟩;simp only at hJ t0 t5 t7 t57 t58 t59;refine ad.mix 60 ?_;by_cases C':j<L.length
   .have q:((j:Int)<L.length)=True:=PK;obtain⟨n,hn,TA⟩:=r2 _ (QF C');have E':=Vr j C';have Q8:=λU=>jl b.nodes TA U;have gX:=B6 b.nodes b.w L hh0 j;have Zu:=B6 b.nodes b.w L hh0 (j+1);have ZR:=B7 b.nodes b.w (L.take j);have hlt2:(L.take j).length=j:=by rw[jt];omega
    have Qn:L.take (j+1)=L.take j++[(n:Int)]:=by rw[SO C',hn]
    have SY:TI b.nodes b.w (L.take (j+1))=Vw b.nodes b.w (TI b.nodes b.w (L.take j)) n:=by rw[Qn,zt]
    rw[r3]at gX Zu;rw[SY]at Zu;rw[hn]at E';generalize TI b.nodes b.w (L.take j)=X at*;obtain⟨F,y⟩:=X;simp only[Vw,jo TA]at gX Zu ZR hJ t7 SY;have q1:PM .i64 (y+b.nodes[n].st.head):=ak;have q2:PM .i64 ((j:Int)+1):=ak;have TB:=hJ.row;rw[dj]at TB;obtain⟨cv,sv⟩:=hJ.oh.vc;generalize b.nodes[n]=nd at*;have hs:=aa.refl J;apply sR;simp only[go_sem,seval,t0,t5,t7,t57,t58,t59,q,E',Q8,Nd.cells,TB,Ul,MY,cv,sv];refine bj λi86 Z86 s86 a86 f86=>?_;have UP:=hJ.mono s86;obtain⟨PU,QV,Wp⟩:=yz UP.sub UP.no UP.row UP.oh;have Su:(F.map aZ).length<=1000000:=by rw[cL];omega
    generalize Zt:F.map aZ=rows at*;have Qp:(rows.length+1)*57<=140737488355328:=by omega
    simp only[go_sem,seval,QV,cW a86,Qp];refine jx λi87 Z87 s87 a87 f87=>?_;obtain⟨b1,hg⟩:=Wp Z87 i87 _ s87 a87 f87;rw[dj]at b1;obtain⟨g1,g2,g3⟩:=hg (dj b ⟨hv,high,body,s,0,F++[⟨n,-1,0,0,y,b.w,nd.st.head⟩],[],[],0⟩ (.own i87 0 (rows.length+1)) .aL .aL);simp only[go_sem,seval,b1,t0,t5,t7,t57,t58,t59,cv,sv,q1,q2];refine⟨_,?_,j+1,.own i87 0 (rows.length+1),by omega,rfl,?_,rfl,?_,rfl⟩
    .omega
    .rw[SY];rw[fB]at g2;refine⟨af,?_,aN.start,aN.start,(dN.aL _).symm,(dN.aL _).symm,dN.aL _,g1,hJ.no⟩;show aN _ _ _ _ _ ((F++[_]).map aZ);rw[eo,Zt];exact g2
    .rw[SY]
   .have q:((j:Int)<L.length)=False:=PG;have Rw:j=L.length:=by omega
    rw[Rw,hU]at hJ;apply sR;simp only[go_sem,seval,t0,t5,t7,t57,t58,t59,q];exact⟨_,_,aa.refl _,Wk.refl (aa.refl _) _,i19,vh,hv,rfl,hJ⟩
 by_cases he:b.atoms=[]
 .have q:((b.atoms.length:Int)>0)=False:=by rw[he];simp
  have hre:bG b s=⟨[],0,b.h⟩:=aE he;simp only[go_sem,seval,TB,a3,fq,UE,Ul,q];rw[hre]at fin|-;rw[<-Ul]at TB;refine fin _ _ .aL rfl (λj h=>by simp at h) TB hs ?_ ?_ ?_ ?_ ?_ ?_<;>rfl
 .have hl0:0<b.atoms.length:=rK.2 he;have q:((b.atoms.length:Int)>0)=True:=PK;have r1:PM .i64 ((b.atoms.length:Int)-1):=ak;obtain⟨k,hk⟩:∃k:Nat,min s.atom ((b.atoms.length:Int)-1)=k:=⟨(min s.atom ((b.atoms.length:Int)-1)).toNat,by omega⟩
  have RG:k<b.atoms.length:=by omega
  have E':=λU=>iD (U:=U) RG;have hre:bG b s=rT b.nodes b.atoms[k].node b.h:=by rw[bG,aF he,hk,bn RG]
  have hc:=Mm b.nodes hb.tZ b.atoms[k].node b.h;rw[<-hre]at hc;simp only[go_sem,seval,TB,a3,fq,UE,Ul,q,cd];refine ad.rR (by kernel_rfl) [0,1,2,3,4,5,6,7,8,9,10,11,12,13,14,15,16,17,18,19,20,21,22,23,24,25] [[],[],[1],[1,2],[1,2,3],[],[5],[5,6],[5,6,7],[5,6,7,8],[],[10],[],[12],[10,11,12,13],[5,6,7,8,9,10,11,12,13,14],[5,6,7,8,9,10,11,12,13,14,15],[5,6,7,8,9,10,11,12,13,14,15,16],[],[18],[18,19],[18,19,20],[1,2,3,4,5,6,7,8,9,10,11,12,13,14,15,16,17,18,19,20,21],[0,1,2,3,4,5,6,7,8,9,10,11,12,13,14,15,16,17,18,19,20,21,22],[0,1,2,3,4,5,6,7,8,9,10,11,12,13,14,15,16,17,18,19,20,21,22,23],[0,1,2,3,4,5,6,7,8,9,10,11,12,13,14,15,16,17,18,19,20,21,22,23,24]] [0,2,4,6,8,10,12,14,16,18,20,22,24,26,28,30,32,34,36,38,40,42,44,46,48,50] (by kernel_rfl) (by kernel_rfl) ?_;refine RE.QS (n:=0) [44,46,48,50] [0,2,4,6,8,10,12,14,16,18,20,22,24,26,28,30,32,34,36,38,40,42] [⟨(.some 28),(.Qo (.t 5)),.none⟩,⟨(.some 29),(.Qo (.t 0)),.none⟩,⟨(.some 30),(.nilCheck (.t 29)),.none⟩,⟨(.some 31),(.PN .false 0 1 (.t 30)),.none⟩,⟨(.some 32),(.load .false 1 (.t 31)),.none⟩,⟨(.some 33),(.Qo (.t 0)),.none⟩,⟨(.some 34),(.nilCheck (.t 33)),.none⟩,⟨(.some 35),(.PN .true 3 3 (.t 34)),.none⟩,⟨(.some 36),(.PN .false 0 1 (.t 35)),.none⟩,⟨(.some 37),(.load .false 1 (.t 36)),.none⟩,⟨(.some 38),(.PN .false 0 1 (.t 3)),.none⟩,⟨(.some 39),(.load .false 1 (.t 38)),.none⟩,⟨(.some 40),(.Qo (.t 6)),.none⟩,⟨(.some 41),(.bin .sub (.t 40) (.c (.int .i64 1))),.none⟩,⟨(.some 42),(.TM .false (.t 39) (.t 41)),.none⟩,⟨(.some 43),(.UT 8 (.t 37) (.t 42)),.none⟩,⟨(.some 44),(.PN .false 1 1 (.t 43)),.none⟩,⟨(.some 45),(.load .false 1 (.t 44)),.none⟩,⟨(.some 46),(.Qo (.t 0)),.none⟩,⟨(.some 47),(.nilCheck (.t 46)),.none⟩,⟨(.some 48),(.PN .false 2 1 (.t 47)),.none⟩,⟨(.some 49),(.load .false 1 (.t 48)),.none⟩] rfl rfl ?_;apply sG;simp only[go_sem,seval,TB,a3,Ul,fq,MY,r1,eW,hk,E',dx];rw[ud]at hc;refine RE.ay rfl rfl rfl rfl rfl (hc _) ?_;refine RE.QS (n:=0) [] [46,48,50] [⟨(.some 51),(.nilCheck (.t 28)),.none⟩,⟨(.some 52),(.PN .true 0 3 (.t 51)),.none⟩,⟨.none,(.store 3 (.t 52) (.t 50)),.none⟩] rfl rfl ?_;apply sG;simp only[go_sem,seval,TB,aj,al];have hlL:=eO (bG b s).P6;apply sR;simp only[go_sem,seval,hlL];rw[<-Ul];refine fin _ _ (encI (bG b s).P6) hlL (λj h U=>gG h) af (hs.az z19) ?_ ?_ ?_ ?_ ?_ ?_<;>rfl
open Go.Proofs
def VM(b:Bk):bN b=.agg [aM b.nodes,vI b.w,vI b.h,bC b.atoms,aJ b.PX,vI b.PJ,bR b.Qi]:=rfl
def rZ(b:Bk)(hb:1<=b.h):aP prog 42 [.rp (bN b)] (.bool false):=λU=>by
 refine e42.r (by simp[c42]) ?_;have q:(b.h=0)=False:=PG;refine ad.mix 3 ?_;apply sR;simp only[go_sem,seval,c42,VM,q,Fb];exact au.same rfl
def D7(b:Bk)(hb:BkFull b)(U:ag):aC prog 36 [.rp (bN b)] U λr Z'=>aa U Z'/\aN U Z' 165 3 r (b.Qi.map ga):=by
 refine e36.r (by simp[c36]) ?_;have h1:=hb.brk;have h2:=hb.len;refine ad.mix 3 ?_;apply sR;simp only[go_sem,seval,c36];refine ad.ay rfl rfl rfl (rZ b hb.h1 _) ?_;apply sR;simp only[go_sem,seval,VM,EY];refine ad.call rfl rfl rfl (sQ func70 (e70.b.trans rfl) e70.c (b.Qi.map ga) (by simp;omega) _) ?_;rintro r Z' ⟨hs,ho⟩;apply sR;simp only[go_sem,seval];exact⟨_,_,aa.refl _,Wk.refl (aa.refl _) _,hs,ho⟩
def jv(b:Bk):V:=.agg [bC b.atoms,aJ b.PX,vI b.PJ]
def D5(b:Bk)(hb:BkFull b):aP prog 16 [.rp (bN b)] (jv b):=λU=>by
 refine YM.r (by simp[c16]) ?_;have hs:=aa.refl U;have h2:=hb.len;have h3:=hb.TH;refine ad.mix 4 ?_;apply sR;simp only[go_sem,seval,c16];refine ae λi2 Z2 s2 a2 f2=>?_;have z2:=hs.none f2;replace hs:=hs.trans s2;simp only[go_sem,seval];refine ad.ay rfl rfl rfl (rZ b hb.h1 _) ?_;apply sR;simp only[go_sem,seval,VM];refine ae λi3 Z3 s3 a3 f3=>?_;have n23:=ao a2 f3;replace a2:=s3 _ _ a2;have z3:=hs.none f3;replace hs:=hs.trans s3;simp only[go_sem,seval,a3,aA,aT,aD,aV];generalize X8:u' _ i3 _=X3;replace a3:=(congrFun X8 i3).symm.trans af;replace a2:=((congrFun X8 i2).symm.trans (ab n23)).trans a2;replace hs:=Eq.subst (motive:=aa _) X8 (hs.az z3);clear X8;refine Go.cN rfl rfl rfl (GM b.atoms (by omega)) ?_;apply sG;simp only[go_sem,seval,a3];refine Go.cN rfl rfl rfl (za b.PX (by omega)) ?_;apply sG;simp only[go_sem,seval,a3,a2,aA,aT,aD,aV,ab n23,ab n23];exact au.pure ((hs.az z3).az z2) rfl
def DU(b:Bk)(hb:BkFull b):aP prog 38 [.rp (bN b)] (df ⟨⟨0,0,true⟩,[]⟩):=λU=>by
 refine e38.r (by simp[c38]) ?_;have hs:=aa.refl U;refine ad.mix 4 ?_;apply sR;simp only[go_sem,seval,c38];refine ae λi2 Z2 s2 a2 f2=>?_;have z2:=hs.none f2;replace hs:=hs.trans s2;simp only[go_sem,seval];refine ad.ay rfl rfl rfl (rZ b hb.h1 _) ?_;apply sR;simp only[go_sem,seval,a2];refine⟨_,U,hs.az z2,Wk.agg (vs':=[vI 0,vI 0,.bool true,aJ []]) ⟨Wk.refl (hs.az z2) _,Wk.refl (hs.az z2) _,Wk.refl (hs.az z2) _,Wk.aL 7,trivial⟩,rfl,rfl⟩
def oR(a:O'):∀(p:List O') (i:Nat),kZ a p i=-1\/∃k:Nat,kZ a p i=((i+k:Nat):Int)/\k<p.length
 |[],_=>.inl rfl
 |q::r,i=>by
  rw[kZ];split
  .exact .inr ⟨0,rfl,by simp⟩
  .rcases oR a r (i+1)with h|⟨k,h1,h2⟩
   .exact .inl h
   .exact .inr ⟨k+1,by rw[h1];congr 1;omega,by simp;omega⟩
def lP(PX:List O'):List O'->Nat->Bool
 |[],_=>true
 |x::r,at'=>if kZ x (PX.drop at') 0<0 then false else lP PX r (at'+(kZ x (PX.drop at') 0).toNat+1)
def iT(b:Bk)(s:RH):Prop:=lP b.PX s.bV 0=true/\(dS b.atoms s.s\/s.s.atom=b.atoms.length/\s.s.done=0)
instance (b:Bk) (s:RH):Decidable (iT b s):=by unfold iT;infer_instance
def H6(b:Bk)(hb:BkFull b)(s:RH)(hp:s.bV.length<=1000000):aP prog 71 [.rp (bN b),df s] (.bool (decide (iT b s))):=λU=>by
 refine e71.r (by simp[c71]) ?_;have hs:=aa.refl U;have h2:=hb.len;have h3:=hb.TH;have Wz:=gy s.bV;have Tq:=iV b.atoms;refine ad.mix 13 ?_;apply sR;simp only[go_sem,seval,c71,df,aT,aV];refine ae λi3 Z3 s3 a3 f3=>?_;have z3:=hs.none f3;replace hs:=hs.trans s3;simp only[go_sem,seval,a3,Wz];refine ad.loop (λm st=>∃(j at':Nat),j<=s.bV.length/\m=s.bV.length-j/\at'<=b.PX.length/\lP b.PX s.bV 0=lP b.PX (s.bV.drop j) at'/\aa U st.U/\st.U i3=some ⟨114,4,[.agg [vI s.s.atom,vI s.s.done,.bool s.s.free,aJ s.bV]]⟩/\st.s 0=.rp (bN b)/\st.s 3=.ptr i3 0 0/\st.s 5=vI at'/\st.s 10=aJ s.bV/\st.s 11=vI s.bV.length/\st.s 12=vI j) s.bV.length ?_ ?_
 .exact⟨0,0,by omega,rfl,by omega,rfl,hs,a3,rfl,rfl,rfl,rfl,rfl,rfl⟩
 .clear hs a3;rintro m ⟨S,J⟩ ⟨j,at',hj,rfl,RF,heq,hs,a3,t0,t3,t5,t10,t11,t12⟩;simp only at hs a3 t0 t3 t5 t10 t11 t12;refine ad.mix 13 ?_;by_cases C':j<s.bV.length
  .have q:((j:Int)<s.bV.length)=True:=PK;have E':=λU=>jX (U:=U) C';have Su:aS s.bV[j]=.agg [vI s.bV[j].node,vI s.bV[j].side,vI s.bV[j].anchor,vI s.bV[j].x,vI s.bV[j].y,vI s.bV[j].w,vI s.bV[j].h]:=rfl;have hd:s.bV.drop j=s.bV[j]::s.bV.drop (j+1):=gT C';rw[hd,lP]at heq;have Ty:=pO RF;generalize s.bV[j]=f at*;have hic:=GN (b.PX.drop at') (by rw[vD];omega) f;rw[Su]at hic;have r1:PM .i64 ((j:Int)+1):=ak;apply sR;simp only[go_sem,seval,t0,t3,t5,t10,t11,t12,q,E',Su];refine ae λi7 Z7 s7 a7 f7=>?_;have n37:=ao a3 f7;replace a3:=s7 _ _ a3;have z7:=hs.none f7;replace hs:=hs.trans s7;simp only[BB,seval,<-decide_not,bp,eT,aH,dF,dG,dB,dE,dH,bO,jm,dZ,bx,fa,cQ,fb,cy,bI,gI,ct,bH,bM,QW,jg,cP,bJ,iy,di,bY,cO,cF,ji,binBV,bD,cX,V.cells,V.stays,a7,VM,CG,t0,t3,t5,t10,t11,t12,Ty];generalize Th:u' _ i7 _=Y7;replace a7:=(congrFun Th i7).symm.trans af;replace a3:=((congrFun Th i3).symm.trans (ab n37)).trans a3;replace hs:=Eq.subst (motive:=aa _) Th (hs.az z7);clear Th;refine Go.cN rfl rfl rfl hic ?_;have UE:(b.PX.drop at').length=b.PX.length-at':=vD;rcases oR f (b.PX.drop at') 0 with h|⟨k,h,hk⟩
   .rw[h]at heq|-;rw[aE (by omega)]at heq;have hf:decide (iT b s)=false:=Sz λhm=>by rw[iT,heq]at hm;cases hm.1
    apply sG;simp only[go_sem,seval,t0,t3,t5,t10,t11,t12];rw[hf];exact au.pure hs rfl
   .rw[h,gY]at heq|-;rw[aF (by omega),eL]at heq;have q1:((k:Int)<0)=False:=PG;have r2:PM .i64 ((k:Int)+1):=ak;have r3:PM .i64 ((at':Int)+(k+1)):=ak;apply sG;simp only[go_sem,seval,t0,t3,t5,t10,t11,t12,q1,r1,r2,r3];refine⟨_,?_,j+1,at'+k+1,by omega,rfl,by omega,heq,hs,a3,rfl,?_,rfl⟩
    .omega
    .show V.int _ _=V.int _ _;congr 1
  .have q:((j:Int)<s.bV.length)=False:=PG;have Rw:j=s.bV.length:=by omega
   rw[Rw,yQ,lP]at heq;have hmc:=pR b.atoms s.s;rw[br]at hmc;apply sR;simp only[go_sem,seval,t0,t3,t5,t10,t11,t12,q,a3,VM,fq];refine Go.cN rfl rfl rfl hmc ?_;have fin:∀v:Bool,decide (iT b s)=v->au (.bool v) J λr Z'=>r=.bool (decide (iT b s))/\Z'=U:=λv h=>by rw[h];exact au.pure hs rfl
   by_cases hm:dS b.atoms s.s
   .have f:=fin true (SP ⟨heq,.inl hm⟩);rw[SP hm];generalize decide (iT b s)=B at*;apply sG;simp only[go_sem,seval];exact f
   rw[Sz hm];by_cases ha:s.s.atom=b.atoms.length
   .by_cases hd:s.s.done=0
    .have f:=fin true (SP ⟨heq,.inr ⟨ha,hd⟩⟩);generalize decide (iT b s)=B at*;have q1:(s.s.atom=(b.atoms.length:Int))=True:=PK ha;have q2:(s.s.done=0)=True:=PK hd;apply sG;simp only[go_sem,seval,t0,t3,a3,VM,fq,Tq,q1,q2];exact f
    .have f:=fin false (Sz λh=>by rcases h.2 with h|h;exact hm h;exact hd h.2)
     generalize decide (iT b s)=B at*;have q1:(s.s.atom=(b.atoms.length:Int))=True:=PK ha;have q2:(s.s.done=0)=False:=PG hd;apply sG;simp only[go_sem,seval,t0,t3,a3,VM,fq,Tq,q1,q2];exact f
   .have f:=fin false (Sz λh=>by rcases h.2 with h|h;exact hm h;exact ha h.1)
    generalize decide (iT b s)=B at*;have q1:(s.s.atom=(b.atoms.length:Int))=False:=PG ha;apply sG;simp only[go_sem,seval,t0,t3,a3,VM,fq,Tq,q1];exact f
def fC(b:Bk)(s:RH):Prop:=¬iT b s\/s.s.atom=b.atoms.length/\s.s.free=false/\s.bV=[]
instance (b:Bk) (s:RH):Decidable (fC b s):=by unfold fC;infer_instance
def CJ(b:Bk)(hb:BkFull b)(s:RH)(hp:s.bV.length<=1000000):aP prog 39 [.rp (bN b),df s] (.bool (decide (fC b s))):=λU=>by
 refine e39.r (by simp[c39]) ?_;have hs:=aa.refl U;have h2:=hb.len;have Wz:=gy s.bV;have Tq:=iV b.atoms;have hmc:=H6 b hb s hp;rw[df]at hmc;refine ad.mix 5 ?_;apply sR;simp only[go_sem,seval,c39,df,aT,aV];refine ae λi3 Z3 s3 a3 f3=>?_;have z3:=hs.none f3;replace hs:=hs.trans s3;simp only[go_sem,seval];refine ad.ay rfl rfl rfl (rZ b hb.h1 _) ?_;apply sR;simp only[go_sem,seval,a3];refine ad.ay rfl rfl rfl (hmc _) ?_;have fin:∀v:Bool,decide (fC b s)=v->au (.bool v) Z3 λr Z'=>r=.bool (decide (fC b s))/\Z'=U:=λv h=>by rw[h];exact au.pure hs rfl
 by_cases hm:iT b s
 .rw[SP hm];by_cases ha:s.s.atom=b.atoms.length
  .have q1:(s.s.atom=(b.atoms.length:Int))=True:=PK ha;by_cases hf:s.s.free=true
   .have f:=fin false (Sz λh=>by rcases h with h|h;exact h hm;rw[hf]at h;cases h.2.1)
    generalize decide (fC b s)=B at*;rw[hf]at a3;apply sR;simp only[go_sem,seval,a3,VM,fq,Tq,q1];exact f
   .have Ts:s.s.free=false:=by simpa using hf
    by_cases hn:s.bV=[]
    .have f:=fin true (SP (.inr ⟨ha,Ts,hn⟩));generalize decide (fC b s)=B at*;have q2:((s.bV.length:Int)=0)=True:=PK (by rw[hn];rfl);rw[Ts]at a3;apply sR;simp only[go_sem,seval,a3,VM,fq,Tq,q1,Wz,q2];exact f
    .have f:=fin false (Sz λh=>by rcases h with h|h;exact h hm;exact hn h.2.2)
     generalize decide (fC b s)=B at*;have q2:((s.bV.length:Int)=0)=False:=PG (by have:=rK.2 hn;omega);rw[Ts]at a3;apply sR;simp only[go_sem,seval,a3,VM,fq,Tq,q1,Wz,q2];exact f
  .have f:=fin false (Sz λh=>by rcases h with h|h;exact h hm;exact ha h.1)
   generalize decide (fC b s)=B at*;have q1:(s.s.atom=(b.atoms.length:Int))=False:=PG ha;apply sR;simp only[go_sem,seval,a3,VM,fq,Tq,q1];exact f
 .rw[Sz hm];have f:=fin true (SP (.inl hm));generalize decide (fC b s)=B at*;apply sR;simp only[go_sem,seval];exact f
open Go.Proofs
structure Q7 where
 (no kind:Int)
 (hs fs ls:List Qk)
def aO(l:List Qk):V:=.sl 7 (l.map aZ)
def bw(p:Q7):V:=.agg [vI p.no,vI p.kind,aO p.hs,aO p.fs,aO p.ls]
def su{s:Nat->V}{U:ag}{a1 a2:Bool}{n1 n2 d e t:Nat}{Post:V->ag->Prop}:
 UK [.cell a1 n1 (.t d),.cell a2 n2 (.t e),.tmp (.t t)] ⟨s,U⟩ Post=dP (bT U a1 n1 (s d)) λv=>dP (bT U a2 n2 (s e)) λw=>au (.PI [v,w,s t]) U Post:=by
 unfold UK au tu;simp only[gQ,iW,VX.ev];cases bT U a1 n1 (s d)<;>cases bT U a2 n2 (s e)<;>simp[dP]
def so{body:Int}:∀(l:List O') (sh:Int),0<=sh->sh<=body->(∀f∈l,0<=f.h)->(eg body l sh).1.length<=l.length/\(∀m∈(eg body l sh).1,0<=m.y/\m.y<=body)/\0<=(eg body l sh).2.2/\(eg body l sh).2.2<=body
 |[],sh,h0,h1,_=>by simp[eg];omega
 |f::r,sh,h0,h1,hh=>by
  rw[eg];have hf:=hh f (by simp);split
  .simp;omega
  .rename_i hc;obtain⟨g1,g2,g3,g4⟩:=so (body:=body) r (sh+min f.h body) (by omega) (by omega) (λg hg=>hh g (by simp[hg]));refine⟨by simp;omega,λm hm=>?_,g3,g4⟩;rcases cD.1 hm with rfl|hm
   .simp only;omega
   .exact g2 m hm
def Bv{l:List Nd}{x:Kp}{a:Int}(h:1<=x.body):1<=(je l x a).body:=by
 unfold je;split
 .exact h
 .simp only;omega
def qx{l:List Nd}{L:List Int}{h:Int}(hh:1<=h):∀m,1<=(gr l L h m).body
 |0=>hh
 |m+1=>Bv (qx hh m)
def iu{b:Bk}(hb:BkFull b)(s:Q6)(h0:0<=s.atom):1<=(bG b s).body:=by
 have h1:=hb.h1;unfold bG;split
 .exact h1
 .rename_i he;have hl0:0<b.atoms.length:=rK.2 he;obtain⟨k,hk⟩:∃k:Nat,min s.atom ((b.atoms.length:Int)-1)=k:=⟨(min s.atom ((b.atoms.length:Int)-1)).toNat,by omega⟩
  have RG:k<b.atoms.length:=by omega
  have hn:=hb.nod _ (QF RG);rw[hk,bn RG];have hm:ja b.nodes b.h=true:=by simp[ja,hb.Wy,hb.h1,hb.h2]
  unfold rT;rw[aE ⟨hm,hn⟩];exact qx h1 _
def mY{PX:List O'}:∀(p:List O') (at':Nat),lP PX p at'=true->∀f∈p,f∈PX
 |[],_,_,f,hf=>by cases hf
 |x::r,at',h,f,hf=>by
  rw[lP]at h;split at h
  .cases h
  .rename_i hk;rcases cD.1 hf with rfl|hf
   .have key:∀(l:List O') (i:Nat),¬kZ f l i<0->f∈l:=by
     intro l
     induction l with
     |nil=>intro i h;simp[kZ]at h
     |cons q l ih=>
      intro i h;rw[kZ]at h;split at h
      .rename_i e;simp[e]
      .exact List.mem_cons_of_mem _ (ih _ h)
    exact List.mem_of_mem_drop (key _ _ hk)
   .exact mY r _ h f hf
def mB(x:Wx):Q7:=⟨0,x.kind,x.hs,x.fs,x.ls⟩
def dr(b:Bk)(s:RH):Wx:={ (({ cb b s.s .aL with shift:=(eg (bG b s.s).body s.bV 0).2.2 }:Wx).put (eg (bG b s.s).body s.bV 0).1)with kind:=0 }
def pG(b:Bk)(s:RH):Prop:=s.s.atom=b.atoms.length\/(eg (bG b s.s).body s.bV 0).2.1≠[]\/(eg (bG b s.s).body s.bV 0).2.2>0/\iP b.atoms s.s>(bG b s.s).body-(eg (bG b s.s).body s.bV 0).2.2
instance (b:Bk) (s:RH):Decidable (pG b s):=by unfold pG;infer_instance
def bP(b:Bk)(s:RH):Q7×RH:=
 if b.atoms=[]/\s.s.free=true then(mB (wm b (cb b s.s .aL)),nX b (cb b s.s .aL))
 else if pG b s then(mB { dr b s with kind:=2 },⟨⟨s.s.atom,s.s.done,s.s.free&&decide (s.s.atom<b.atoms.length)⟩,(eg (bG b s.s).body s.bV 0).2.1⟩)
 else(mB (eD b (dr b s)),fv b (dr b s))
def rC(b:Bk)(x:Wx)(h:V):mB (eD b { x with P6:=h })=mB (eD b x)/\fv b { x with P6:=h }=fv b x:=by
 unfold eD fv;by_cases hc:fQ b.Qi x.s.atom (ez b x)
 .rw[aE (show fQ b.Qi ({ x with P6:=h }:Wx).s.atom (ez b { x with P6:=h })from hc),aE (show fQ b.Qi ({ x with P6:=h }:Wx).s.atom (ez b { x with P6:=h })from hc),aE hc,aE hc];exact⟨rfl,rfl⟩
 .rw[aF (show¬fQ b.Qi ({ x with P6:=h }:Wx).s.atom (ez b { x with P6:=h })from hc),aF (show¬fQ b.Qi ({ x with P6:=h }:Wx).s.atom (ez b { x with P6:=h })from hc),aF hc,aF hc];exact⟨rfl,rfl⟩
def RS.az{b:Bk}{K:ag}{ix:Nat}{x:Wx}{U:ag}{vh vf vl:V}(h:RS b K ix x U vh vf vl){i:Nat}{o:Ob}(hi:K i=some o)(o':Ob):RS b (u' K i o') ix x (u' U i o') vh vf vl:=by
 have hn:ix≠i:=λe=>by have:=h.no;subst e;rw[this]at hi;cases hi
 have key:∀{v rows},aN (bg K ix) U 47 7 v rows->aN (bg (u' K i o') ix) (u' U i o') 47 7 v rows:=λhv=>by
  rcases hv with h|⟨a,e,h3,h4⟩
  .exact .inl h
  .have hk:=(aI.1 h4).2;have ha:a≠i:=λe=>by subst e;rw[hk]at hi;cases hi
   exact .inr ⟨a,e,(Vc.ab ha).trans h3,aI.2 ⟨(aI.1 h4).1,(Vc.ab ha).trans hk⟩⟩
 refine⟨(Vc.ab hn).trans h.row,key h.oh,key h.of,key h.ol,h.hf,h.hl,h.fl,λa q ha=>?_,(Vc.ab hn).trans h.no⟩;by_cases e:a=i
 .subst e;rw[Vc.af]at ha|-;exact ha
 .rw[Vc.ab e]at ha|-;exact h.sub _ _ ha
def RS.ret{b:Bk}{K Z0:ag}{ix:Nat}{x:Wx}{U:ag}{vh vf vl:V}(h:RS b K ix x U vh vf vl)(h0:aa Z0 K)(S:V)(e:Int):
 au (.PI [.agg [vI 0,vI x.kind,vh,vf,vl],S,vI e]) U λr Z'=>r=.PI [bw (mB x),S,vI e]/\Z'=Z0:=by
 have hs:=h0.trans h.sub;have hK:aa Z0 (bg K ix):=λi o hh=>by
  rw[bg,aF (λe=>by rw[e]at hh;have:=h0 _ _ hh;rw[h.no]at this;cases this)];exact h0 _ _ hh
 exact⟨_,Z0,hs,Wk.PI (vs':=[bw (mB x),S,vI e]) ⟨Wk.agg (vs':=[vI 0,vI x.kind,aO x.hs,aO x.fs,aO x.ls]) ⟨Wk.refl hs _,Wk.refl hs _,h.oh.wk hK hs,h.of.wk hK hs,h.ol.wk hK hs,trivial⟩,Wk.refl hs _,Wk.refl hs _,trivial⟩,rfl,rfl⟩
def IZ(b:Bk)(hb:BkFull b)(hfh:∀f∈b.PX,0<=f.h)(s:RH)(hp:s.bV.length<=1000000):
 aP prog 40 [.rp (bN b),df s] (if fC b s then .PI [bw ⟨0,0,[],[],[]⟩,df ⟨⟨0,0,false⟩,[]⟩,vI 4]else .PI [bw (bP b s).1,df (bP b s).2,vI 0]):=λU=>by
 refine e40.r (by simp[c40]) ?_;have hs:=aa.refl U;have h2:=hb.len;have Wz:=gy s.bV;have Tq:=iV b.atoms;have XK:=CJ b hb s hp;rw[df]at XK;refine ad.mix 12 ?_;apply sR;simp only[go_sem,seval,c40,df,aT,aV];refine ae λi3 Z3 s3 a3 f3=>?_;have z3:=hs.none f3;replace hs:=hs.trans s3;simp only[go_sem,seval];refine ae λi4 Z4 s4 a4 f4=>?_;have YN:=ao a3 f4;replace a3:=s4 _ _ a3;have z4:=hs.none f4;replace hs:=hs.trans s4;simp only[go_sem,seval];refine ae λi5 Z5 s5 a5 f5=>?_;have Xp:=ao a3 f5;replace a3:=s5 _ _ a3;have R0:=ao a4 f5;replace a4:=s5 _ _ a4;have z5:=hs.none f5;replace hs:=hs.trans s5;simp only[go_sem,seval,a3];refine ad.ay rfl rfl rfl (XK _) ?_;by_cases hm:fC b s
 .rw[aE hm,SP hm];have UM:=R0.symm;apply sR;simp only[go_sem,seval,a4,a5,ab R0,ab UM,su];have PW:=(hs.az (o:=⟨45,5,[.agg [vI 0,vI 0,.aL,.aL,.aL]]⟩) z4).az (o:=⟨114,4,[.agg [vI 0,vI 0,.bool false,.aL]]⟩) z5;exact⟨_,U,PW,Wk.PI (vs':=[bw ⟨0,0,[],[],[]⟩,df ⟨⟨0,0,false⟩,[]⟩,vI 4]) ⟨Wk.agg (vs':=[vI 0,vI 0,aO [],aO [],aO []]) ⟨Wk.refl PW _,Wk.refl PW _,Wk.aL 7,Wk.aL 7,Wk.aL 7,trivial⟩,Wk.agg (vs':=[vI 0,vI 0,.bool false,aJ []]) ⟨Wk.refl PW _,Wk.refl PW _,Wk.refl PW _,Wk.aL 7,trivial⟩,Wk.refl PW _,trivial⟩,rfl,rfl⟩
 .rw[aF hm,Sz hm];have Qu:iT b s:=Decidable.byContradiction λh=>hm (.inl h);have WM:¬(s.s.atom=b.atoms.length/\s.s.free=false/\s.bV=[]):=λh=>hm (.inr h);have RF:0<=s.s.atom:=by rcases Qu.2 with h|h;exact h.1.1;omega
  have hph:∀f∈s.bV,0<=f.h:=λf hf=>hfh f (mY _ _ Qu.1 f hf);have UA:=sk hb s.s;have YL:=iu hb s.s RF;have hbc:=Hl b hb s.s RF Z5;rw[br]at hbc;apply sR;simp only[go_sem,seval,a3,VM,fq];refine ad.call rfl rfl rfl hbc ?_;rintro r Z6 ⟨i1,vh,hv,rfl,hJ⟩;have c3:=hJ.sub _ _ a3;have xs:(cb b s.s hv).s=s.s:=rfl;have xb:(cb b s.s hv).body=(bG b s.s).body:=rfl;have xh:(cb b s.s hv).high=(bG b s.s).high:=rfl;have xl:(cb b s.s hv).ls=[]:=rfl;have xf:(cb b s.s hv).fs=[]:=rfl;have xk:(cb b s.s hv).kind=0:=rfl;have Un:aa U Z5:=hs;by_cases h0:b.atoms=[]/\s.s.free=true
  .obtain⟨h01,h02⟩:=h0;have q1:((b.atoms.length:Int)=0)=True:=PK (by rw[h01];rfl);rw[bP,aE ⟨h01,h02⟩];have hlc:=FU b hb.toBkOk (cb b s.s hv) (by rw[xl];simp) (by rw[xh];have:=UA.high;omega) hJ;have e1:mB (wm b (cb b s.s .aL))=mB (wm b (cb b s.s hv)):=rfl;have e2:nX b (cb b s.s .aL)=nX b (cb b s.s hv):=rfl;rw[e1,e2];generalize wm b (cb b s.s hv)=X at*;generalize nX b (cb b s.s hv)=Z at*;rw[h02]at c3;apply sR;simp only[go_sem,seval,q1,Tq,c3,VM,fq];refine ad.call rfl rfl rfl hlc ?_;rintro r Z7 ⟨Ta,rfl,Yo⟩;have d5:=Yo.sub _ _ a5;apply sR;simp only[go_sem,seval,d5,df,aT,aV,cd];have Rf:=Yo.az a5 ⟨114,4,[.agg [vI Z.s.atom,vI Z.s.done,.bool Z.s.free,aJ Z.bV]]⟩;generalize RA:u' Z7 i5 _=Y8 at*;have b1:=Rf.row;rw[dj]at b1;have b5:=Rf.sub _ _ af;have b4:=Rf.sub i4 _ ((ab R0).trans a4);obtain⟨ch,sh⟩:=Rf.oh.vc;obtain⟨cf,sf⟩:=Rf.of.vc;obtain⟨cl,sl⟩:=Rf.ol.vc;have UM:=R0.symm;refine ad.rR (by kernel_rfl) [0,1,2,3,4,5,6,7] [[],[0],[0,1],[0,1,2],[],[0,1,2,3],[0,1,2,3,4,5],[0,1,2,3,4,5,6]] [0,2,4,6,8,10,9,12,14] (by kernel_rfl) (by kernel_rfl) ?_;refine RE.QS (n:=0) [9,12,14] [0,2,4,6,8,10] [⟨(.some 36),(.Qo (.t 8)),.none⟩,⟨(.some 37),(.nilCheck (.t 36)),.none⟩,⟨(.some 38),(.PN .true 7 5 (.t 37)),.none⟩,⟨(.some 39),(.load .true 5 (.t 38)),.none⟩,⟨(.some 40),(.load .true 4 (.t 5)),.none⟩,⟨.none,(.store 5 (.t 4) (.t 39)),.none⟩] rfl rfl ?_;apply sG;simp only[go_sem,seval,b1,b4,b5,ch,sh,cf,sf,cl,sl,aT,aV,ab UM,ab R0];refine RE.Rl rfl rfl rfl rfl rfl trivial (by simp only[go_sem,seval,b1,b4,b5,ab UM,ab R0]) ?_;refine RE.QS (n:=0) [] [12,14] [⟨.none,(.store 4 (.t 5) (.t 40)),.none⟩,⟨(.some 6),(.Qo (.c (.int .i64 0))),.none⟩] rfl rfl ?_;apply sG;simp only[go_sem,seval,b1,b4,b5,ch,sh,cf,sf,cl,sl,aT,aV,ab UM,ab R0];apply sR;simp only[go_sem,seval,b1,b4,b5,su,ab UM,ab R0];exact((Rf.az ((ab R0).trans a4) _).az ((ab UM).trans af) _).ret (((Un.az z5).az z4).az z5) _ _
  .have Zg:bP b s=if pG b s then(mB { dr b s with kind:=2 },⟨⟨s.s.atom,s.s.done,s.s.free&&decide (s.s.atom<b.atoms.length)⟩,(eg (bG b s.s).body s.bV 0).2.1⟩)else(mB (eD b (dr b s)),fv b (dr b s)):=by rw[bP,aF h0]
   have htc:=Kh s.bV hp (bG b s.s).body YL (by have:=UA.body;omega) hph;obtain⟨g1,g2,g3,g4⟩:=so (body:=(bG b s.s).body) s.bV 0 (Int.le_refl _) (by omega) hph;have hlc:=Ib b.atoms hb.at' s.s (by
    rcases Qu.2 with h|h
    .have:=wO hb.toBkOk h;omega
    .omega)
   rw[br]at hlc;have b1:=hJ.row;simp only[dj,cb]at b1;have hfw:=IN b hb.toBkOk;have hX:∀x:Wx,x=({ cb b s.s hv with shift:=(eg (bG b s.s).body s.bV 0).2.2 }:Wx).put (eg (bG b s.s).body s.bV 0).1->mB { x with kind:=2 }=mB { dr b s with kind:=2 }/\mB (eD b x)=mB (eD b (dr b s))/\fv b x=fv b (dr b s):=λx hx=>by
    subst hx;exact⟨rfl,(rC b (dr b s) hv).1,(rC b (dr b s) hv).2⟩
   have hp1:pG b s->bP b s=_:=λh=>Zg.trans (aE h);have hp2:¬pG b s->bP b s=_:=λh=>Zg.trans (aF h);clear Zg;unfold pG at hp1 hp2;generalize dr b s=TX at*;generalize eg (bG b s.s).body s.bV 0=T at*;obtain⟨put,left,Vx⟩:=T;simp only at htc g1 g2 g3 g4 hX hp1 hp2;have Tu:=gy left;have hq:(((b.atoms.length:Int)=0)=True/\s.s.free=false)\/(((b.atoms.length:Int)=0)=False/\True):=by
    by_cases he:b.atoms=[]
    .exact .inl ⟨PK (by rw[he];rfl),by
      cases SC:s.s.free
      .rfl
      .exact absurd ⟨he,SC⟩ h0⟩
    .exact .inr ⟨PG (by have:=rK.2 he;omega),trivial⟩
   rcases hq with⟨q,hf⟩|⟨q,hf⟩
   all_goals
    apply sR;simp only[go_sem,seval,q,hf,Tq,c3,b1,VM,fq];refine Go.cN rfl rfl rfl htc ?_;apply sG;simp only[go_sem,seval,b1];generalize Th:u' Z6 i1 _=Y7;have Yo:RS b Z5 i1 { cb b s.s hv with shift:=Vx } Y7 vh .aL .aL:=by
     rw[<-Th];exact hJ.set _ rfl rfl rfl
    refine ad.call rfl rfl rfl (nz b put (by omega) { cb b s.s hv with shift:=Vx } (by simp[cb]) (λf hf=>by
     have:=g2 f hf;have:=UA.high;have:=UA.body;exact ak (by show _<=f.y+(bG b s.s).high;omega) (by show f.y+(bG b s.s).high<=_;omega)) Yo) ?_
    rintro-Z8 ⟨Ta,Rf⟩;obtain⟨x1,x2,x3⟩:=hX _ rfl;have c3:=Rf.sub _ _ a3;have d5:=Rf.sub _ _ a5;have b1:=Rf.row;have ys:(Wx.put { cb b s.s hv with shift:=Vx } put).s=s.s:=rfl;have yb:(Wx.put { cb b s.s hv with shift:=Vx } put).body=(bG b s.s).body:=rfl;have yh:(Wx.put { cb b s.s hv with shift:=Vx } put).high=(bG b s.s).high:=rfl;have yw:(Wx.put { cb b s.s hv with shift:=Vx } put).shift=Vx:=rfl;have yf:(Wx.put { cb b s.s hv with shift:=Vx } put).fs.length<=1000000:=by simp[Wx.put,cb]
    have yl:(Wx.put { cb b s.s hv with shift:=Vx } put).ls.length<=1000000:=by simp[Wx.put,cb];omega
    generalize Wx.put { cb b s.s hv with shift:=Vx } put=Y at*;rw[dj]at b1;have Yq:i1≠i5:=λe=>by have:=Rf.no;rw[e,a5]at this;cases this
    have n51:=Yq.symm;have UM:=R0.symm;have r1:PM .i64 ((bG b s.s).body-Vx):=ak (by omega) (by have:=UA.body;omega);rw[<-yb]at r1 hp1 hp2;by_cases Vd:s.s.atom=b.atoms.length\/left≠[]\/Vx>0/\iP b.atoms s.s>Y.body-Vx
    .rw[hp1 Vd,<-x1];have hw:((s.s.atom=(b.atoms.length:Int))=True/\True/\True/\True)\/((s.s.atom=(b.atoms.length:Int))=False/\((left.length:Int)>0)=True/\True/\True)\/
      ((s.s.atom=(b.atoms.length:Int))=False/\((left.length:Int)>0)=False/\(Vx>0)=True/\(iP b.atoms s.s>Y.body-Vx)=True):=by
      by_cases hA:s.s.atom=b.atoms.length
      .exact .inl ⟨PK hA,trivial,trivial,trivial⟩
      by_cases hB:left=[]
      .obtain⟨hC,hD⟩:=(Vd.resolve_left hA).resolve_left (λh=>h hB);exact .inr (.inr ⟨PG hA,PG (by rw[hB];simp),PK hC,PK hD⟩)
      .exact .inr (.inl ⟨PG hA,PK (by have:=rK.2 hB;omega),trivial,trivial⟩)
     obtain⟨VAL,hV⟩:∃VAL:Bool,VAL=(s.s.free&&decide (s.s.atom<b.atoms.length)):=⟨_,rfl⟩
     have UL:i3≠i1:=λe=>by have:=Rf.no;rw[<-e,a3]at this;cases this
     cases SC:s.s.free
     all_goals
      simp only[SC,Bool.false_and,Bool.true_and]at hV;rw[SC]at hlc;rcases hw with⟨qA,qB,qC,qD⟩|⟨qA,qB,qC,qD⟩|⟨qA,qB,qC,qD⟩
      all_goals
       apply sR;simp only[go_sem,seval,c3,d5,b1,Tq,Tu,qA,qB,qC,VM,fq,SC,ab Yq,ab n51,ab UL,ab Xp,cd,aT,aV]
       try
        refine Go.cN rfl rfl rfl hlc ?_;apply sG;simp only[go_sem,seval,c3,d5,b1,r1,qD,Tq,Tu,VM,fq,SC,ab Yq,ab n51,ab UL,ab Xp,cd,aT,aV]
       generalize RA:u' (u' Z8 i1 _) i5 _=Y8;have Rf:RS b (u' Z5 i5 ⟨114,4,[.agg [vI s.s.atom,vI s.s.done,.bool VAL,aJ left]]⟩) i1 { Y with kind:=2 } Y8 vh .aL Ta:=by
        rw[<-RA,hV];exact(Rf.set { Y with kind:=2 } rfl rfl rfl).az a5 _
       clear RA;have b1:=Rf.row;rw[dj]at b1;have b5:=Rf.sub _ _ af;rw[hV]at b5;have b4:=Rf.sub i4 _ ((ab R0).trans a4);obtain⟨ch,sh⟩:=Rf.oh.vc;obtain⟨cf,sf⟩:=Rf.of.vc;obtain⟨cl,sl⟩:=Rf.ol.vc;refine ad.rR (by kernel_rfl) [0,1,2,3,4,5,6,7] [[],[0],[0,1],[0,1,2],[],[0,1,2,3],[0,1,2,3,4,5],[0,1,2,3,4,5,6]] [0,2,4,6,8,10,9,12,14] (by kernel_rfl) (by kernel_rfl) ?_;refine RE.QS (n:=0) [9,12,14] [0,2,4,6,8,10] [⟨(.some 110),(.Qo (.t 8)),.none⟩,⟨(.some 111),(.nilCheck (.t 110)),.none⟩,⟨(.some 112),(.PN .true 7 5 (.t 111)),.none⟩,⟨(.some 113),(.load .true 5 (.t 112)),.none⟩,⟨(.some 114),(.load .true 4 (.t 5)),.none⟩,⟨.none,(.store 5 (.t 4) (.t 113)),.none⟩] rfl rfl ?_;apply sG;simp only[go_sem,seval,b1,b4,b5,ch,sh,cf,sf,cl,sl,aT,aV,ab UM,ab R0];refine RE.Rl rfl rfl rfl rfl rfl trivial (by simp only[go_sem,seval,b1,b4,b5,ab UM,ab R0]) ?_;refine RE.QS (n:=0) [] [12,14] [⟨.none,(.store 4 (.t 5) (.t 114)),.none⟩,⟨(.some 6),(.Qo (.c (.int .i64 0))),.none⟩] rfl rfl ?_;apply sG;simp only[go_sem,seval,b1,b4,b5,ch,sh,cf,sf,cl,sl,aT,aV,ab UM,ab R0];apply sR;simp only[go_sem,seval,b1,b4,b5,su,ab UM,ab R0];exact((Rf.az ((ab R0).trans a4) _).az ((ab UM).trans af) _).ret (((Un.az z5).az z4).az z5) _ _
    .rw[hp2 Vd,<-x2,<-x3];have hA:¬s.s.atom=b.atoms.length:=λh=>Vd (.inl h);have Xg:dS b.atoms s.s:=Qu.2.resolve_right λh=>hA h.1;have hw:((s.s.atom=(b.atoms.length:Int))=False/\((left.length:Int)>0)=False/\(Vx>0)=False/\True)\/((s.s.atom=(b.atoms.length:Int))=False/\((left.length:Int)>0)=False/\(Vx>0)=True/\(iP b.atoms s.s>Y.body-Vx)=False):=by
      have hB:left=[]:=Decidable.byContradiction λh=>Vd (.inr (.inl h));have hB':((left.length:Int)>0)=False:=PG (by rw[hB];simp);by_cases hC:Vx>0
      .exact .inr ⟨PG hA,hB',PK hC,PG λh=>Vd (.inr (.inr ⟨hC,h⟩))⟩
      .exact .inl ⟨PG hA,hB',PG hC,trivial⟩
     have hwf:=hfw Y (by rw[ys];exact Xg) yf yl (by rw[yh];have:=UA.high;omega) (by rw[yb];have:=UA.body;omega) (by rw[yw];have:=UA.body;omega) Rf;generalize eD b Y=X at*;generalize fv b Y=Z at*;rcases hw with⟨qA,qB,qC,qD⟩|⟨qA,qB,qC,qD⟩
     all_goals
      apply sR;simp only[go_sem,seval,c3,Tq,qA,Tu,qB,qC,VM,fq]
      try
       refine Go.cN rfl rfl rfl hlc ?_;apply sG;simp only[go_sem,seval,b1,r1,qD]
      refine ad.call rfl rfl rfl hwf ?_;rintro-Z9 ⟨T1,vl'',rfl,Rz⟩;have e5:=Rz.sub _ _ a5;apply sR;simp only[go_sem,seval,e5,df,aT,aV,cd];have Rf:=Rz.az a5 ⟨114,4,[.agg [vI Z.s.atom,vI Z.s.done,.bool Z.s.free,aJ Z.bV]]⟩;generalize RA:u' Z9 i5 _=Y8 at*;have b1:=Rf.row;rw[dj]at b1;have b5:=Rf.sub _ _ af;have b4:=Rf.sub i4 _ ((ab R0).trans a4);obtain⟨ch,sh⟩:=Rf.oh.vc;obtain⟨cf,sf⟩:=Rf.of.vc;obtain⟨cl,sl⟩:=Rf.ol.vc;refine ad.rR (by kernel_rfl) [0,1,2,3,4,5,6,7] [[],[0],[0,1],[0,1,2],[],[0,1,2,3],[0,1,2,3,4,5],[0,1,2,3,4,5,6]] [0,2,4,6,8,10,9,12,14] (by kernel_rfl) (by kernel_rfl) ?_;refine RE.QS (n:=0) [9,12,14] [0,2,4,6,8,10] [⟨(.some 117),(.Qo (.t 8)),.none⟩,⟨(.some 118),(.nilCheck (.t 117)),.none⟩,⟨(.some 119),(.PN .true 7 5 (.t 118)),.none⟩,⟨(.some 120),(.load .true 5 (.t 119)),.none⟩,⟨(.some 121),(.load .true 4 (.t 5)),.none⟩,⟨.none,(.store 5 (.t 4) (.t 120)),.none⟩] rfl rfl ?_;apply sG;simp only[go_sem,seval,b1,b4,b5,ch,sh,cf,sf,cl,sl,aT,aV,ab UM,ab R0];refine RE.Rl rfl rfl rfl rfl rfl trivial (by simp only[go_sem,seval,b1,b4,b5,ab UM,ab R0]) ?_;refine RE.QS (n:=0) [] [12,14] [⟨.none,(.store 4 (.t 5) (.t 121)),.none⟩,⟨(.some 6),(.Qo (.c (.int .i64 0))),.none⟩] rfl rfl ?_;apply sG;simp only[go_sem,seval,b1,b4,b5,ch,sh,cf,sf,cl,sl,aT,aV,ab UM,ab R0];apply sR;simp only[go_sem,seval,b1,b4,b5,su,ab UM,ab R0];exact((Rf.az ((ab R0).trans a4) _).az ((ab UM).trans af) _).ret (((Un.az z5).az z4).az z5) _ _
def VN(cnt:Nat->Nat)(a n:Nat):List Int:=(List.range' a n).flatMap λi=>List.replicate (cnt i) (i:Int)
def jF(cnt:Nat->Nat)(a:Nat):VN cnt a 0=[]:=rfl
def gM(cnt:Nat->Nat)(a n:Nat):VN cnt a (n+1)=List.replicate (cnt a) (a:Int)++VN cnt (a+1) n:=by
 simp[VN,List.range'_succ]
def mW{f g:Nat->Nat}:∀(n a:Nat),(∀i,a<=i->i<a+n->f i=g i)->VN f a n=VN g a n
 |0,_,_=>rfl
 |n+1,a,h=>by
  rw[gM,gM,h a (Qh a) (by omega),mW n (a+1) (λi h1 h2=>h i (by omega) (by omega))]
def AK(cnt:Nat->Nat):∀(n a m:Nat),VN cnt a (n+m)=VN cnt a n++VN cnt (a+n) m
 |0,a,m=>by simp[jF]
 |n+1,a,m=>by
  rw[show n+1+m=(n+m)+1 by omega,gM,gM,AK cnt n (a+1) m,gw,show a+1+n=a+(n+1) by omega]
def HN(f g:Nat->Nat)(a n m:Nat):VN f a n++VN g (a+n) m=VN (λi=>if i<a+n then f i else g i) a (n+m):=by
 rw[AK];congr 1
 .exact mW n a λi h1 h2=>by simp[h2]
 .exact mW m (a+n) λi h1 h2=>by simp[show¬i<a+n by omega]
structure AtI(C:Int)(x:Qy):Prop where
 y0:0<=x.y
 y1:x.y<=C
 h0:1<=x.h
 h1:x.h<=1099511627776
def AtI.mono{B C:Int}{x:Qy}(h:AtI B x)(hB:B<=C):AtI C x:=⟨h.y0,Int.le_trans h.y1 hB,h.h0,h.h1⟩
def l9(a:Nat)(h:Int):∀(L:List Ln) (s:WS),(gV a h s L).atoms=s.atoms++L.map (eV a h)
 |[],s=>by simp[gV]
 |x::L,s=>by
  have:=l9 a h L (s.put (eV a h x));simp only[gV,iY]at this|-;rw[this];simp[WS.put]
def Io(a:Nat)(h:Int)(L:List Ln):(L.map (eV a h)).map (·.node)=List.replicate L.length (a:Int):=by
 rw[List.map_map]
 induction L with
 |nil=>rfl
 |cons x L ih=>rw[dO,ih];rfl
def Dm{l:List Nd}{a e:Nat}(he:e<=l.length)(h:cj l a e=true)(Vm:a<e)(hk:(Qb l a).kind≠1):Qg l a<=1:=by
 have ha:a<l.length:=by omega
 rw[iU ha]at hk;rw[cj,dif_pos Vm]at h;simp only[SQ ha]at h;split at h
 .simp only[Ba,ki,SX]at h;have:=h.1.1.resolve_left hk;simp only[Qg,SQ ha,Option.map_some,Option.getD_some];omega
 .cases h
structure yI(l:List Nd)(s t:WS)(a e C:Nat):Prop where
 at':∀x∈t.atoms,AtI (1099511627776*(C:Int)) x
 nodes:∃cnt,t.atoms.map (·.node)=s.atoms.map (·.node)++VN cnt a (e-a)/\∀i,a<=i->i<e->okN (Qb l i) (cnt i)=true
def yI.join{l:List Nd}{s t u:WS}{a m e C D:Nat}(h1:a<=m)(h2:m<=e)(hA:yI l s t a m C)(hB:yI l t u m e D):yI l s u a e D:=by
 obtain⟨_,f,hf,Uv⟩:=hA;obtain⟨RF,g,hg,RJ⟩:=hB;refine⟨RF,λi=>if i<m then f i else g i,?_,λi h3 h4=>?_⟩
 .rw[hg,hf,gw];congr 1;obtain⟨n,rfl⟩:∃n,m=a+n:=⟨m-a,by omega⟩
  obtain⟨k,rfl⟩:∃k,e=a+n+k:=⟨e-(a+n),by omega⟩
  rw[show a+n-a=n by omega,show a+n+k-(a+n)=k by omega,show a+n+k-a=n+k by omega,HN]
 .simp only;split
  .exact Uv i h3 (by omega)
  .exact RJ i (by omega) h4
def sx{l:List Nd}{rs:List Rm}(hD:W3 l rs):∀(k a e:Nat) (s:WS) (C:Nat),e-a<=k->a<=e->e<=l.length->cj l a e=true->fG s C->(∀x∈s.atoms,AtI (1099511627776*(C:Int)) x)->yI l s (ee l rs k a e s) a e (C+Rg l a e)
 |0,a,e,s,C,hk,Vm,_,_,h,hx=>by
  obtain rfl:a=e:=by omega
  refine⟨λx P7=>(hx x P7).mono (by omega),λ_=>0,by simp[ee,jF],λi h1 h2=>by omega⟩
 |k+1,a,e,s,C,hk,Vm,he,hr,h,hx=>by
  rw[ee];by_cases C':a<e
  .rw[aE C'];obtain⟨h1,h2⟩:=de he hr (Qh a) C';obtain⟨h3,h4⟩:=dW he hr C';have Qf:Xx (Qb l a):=by rw[iU (by omega)];exact gi hD.Wy (by omega)
   have XI:Rg l a e=Rg l a (a+(Qg l a).toNat)+Rg l (a+(Qg l a).toNat) e:=lf (by omega) (by omega) he;have Yu:Rg l a (a+(Qg l a).toNat)=4+(Qb l a).words.length+Rg l (a+1) (a+(Qg l a).toNat):=uu (by omega) (by omega);have step:∀t,fG t (C+Rg l a (a+(Qg l a).toNat))->yI l s t a (a+(Qg l a).toNat) (C+Rg l a (a+(Qg l a).toNat))->yI l s (ee l rs k (a+(Qg l a).toNat) e t) a e (C+Rg l a e):=λt ht hA=>by
    rw[XI,<-Nat.add_assoc];exact hA.join (by omega) (by omega) (sx hD k _ e t _ (by omega) (by omega) he h3 ht hA.at')
   have one:∀(t:WS) (n:Nat),okN (Qb l a) n=true->(Qg l a).toNat=1->t.atoms.map (·.node)=s.atoms.map (·.node)++List.replicate n (a:Int)->(∀x∈t.atoms,AtI (1099511627776*((C+Rg l a (a+(Qg l a).toNat):Nat):Int)) x)->yI l s t a (a+(Qg l a).toNat) (C+Rg l a (a+(Qg l a).toNat)):=λt n hn R6 hm RF=>by
    refine⟨RF,λ_=>n,?_,λi h5 h6=>?_⟩
    .rw[hm,R6,show a+1-a=1 by omega,gM,jF,kj]
    .obtain rfl:i=a:=by omega
     exact hn
   obtain⟨⟨hf,p1,p2,p3,p4⟩,p5,p6⟩:=h;have hI:fG s C:=⟨⟨hf,p1,p2,p3,p4⟩,p5,p6⟩
   by_cases k1:(Qb l a).kind=1
   .rw[aE k1];have hI2:=gn hD k (a+1) (a+(Qg l a).toNat) _ _ (by omega) (by omega) (by omega) h4 (eS hI Qf.st);have hA2:=sx hD k (a+1) (a+(Qg l a).toNat) (s.enter (Qb l a).st) (C+2) (by omega) (by omega) (by omega) h4 (eS hI Qf.st) (λx P7=>(hx x P7).mono (by omega));refine step _ ((jS hI2 Qf.st).more (by omega)) ?_;obtain⟨RF,cnt,hc,hco⟩:=hA2;refine⟨λx P7=>(RF x P7).mono (by omega),λi=>if i=a then 0 else cnt i,?_,λi h5 h6=>?_⟩
    .have e1:(s.enter (Qb l a).st).atoms=s.atoms:=rfl;rw[e1]at hc;show(ee l rs k (a+1) (a+(Qg l a).toNat) (s.enter (Qb l a).st)).atoms.map (·.node)=_;rw[hc];congr 1;obtain⟨m,hm⟩:∃m,(Qg l a).toNat=m+1:=⟨(Qg l a).toNat-1,by omega⟩
     rw[hm,show a+(m+1)-(a+1)=m by omega,show a+(m+1)-a=m+1 by omega,gM];simp only[if_true,List.replicate_zero,jU];exact mW m (a+1) λi h5 h6=>by simp[show i≠a by omega]
    .simp only;split
     .rename_i e;subst e;simp[okN,k1]
     .exact hco i (by omega) h6
   .rw[aF k1];have R6:(Qg l a).toNat=1:=by
     have:=Dm he hr C' k1;omega
    by_cases k2:(Qb l a).kind=2
    .rw[aE k2];refine step _ ((kY hI Qf a).more (by omega)) ?_;have hl:=Qf.line;obtain⟨hw0,ZP⟩:=Qf.text k2;have hLl:=ju s.g' (Qb l a).words (Qb l a).space (Qb l a).line (eB rs a) (Qb l a).words.length 0 (s.PS.y+s.PS.m);have hLb:=jn (ws:=(Qb l a).words) (space:=(Qb l a).space) (s:=eB rs a) (λf Ts=>(hf f Ts).yB) hl.1 (Qb l a).words.length 0 (s.PS.y+s.PS.m);have hLn:dz s.g' (Qb l a).words (Qb l a).space (Qb l a).line (eB rs a) (Qb l a).words.length 0 (s.PS.y+s.PS.m)≠[]:=by
      obtain⟨m,hm⟩:∃m,(Qb l a).words.length=m+1:=⟨(Qb l a).words.length-1,by omega⟩
      rw[hm,dz,aE (by omega)];simp
     have hte:(s.text rs a (Qb l a)).atoms=s.atoms++(dz s.g' (Qb l a).words (Qb l a).space (Qb l a).line (eB rs a) (Qb l a).words.length 0 (s.PS.y+s.PS.m)).map (eV a (Qb l a).line):=l9 a _ _ s;generalize dz s.g' (Qb l a).words (Qb l a).space (Qb l a).line (eB rs a) (Qb l a).words.length 0 (s.PS.y+s.PS.m)=L at*;have hL0:=rK.2 hLn;have hmul:(Qb l a).line*((Qb l a).words.length:Int)<=1099511627776*((Qb l a).words.length:Int):=Int.mul_le_mul_of_nonneg_right hl.2 (by omega);refine one _ L.length (by simp only[okN,k2,if_true,SX];omega) R6 (by rw[hte,eo,Io]) (λx P7=>?_);rw[hte]at P7;rcases dM.1 P7 with P7|P7
     .exact(hx x P7).mono (by omega)
     .obtain⟨y,hy,rfl⟩:=eI.1 P7;have:=hLb y hy;refine⟨?_,?_,ZP,hl.2⟩<;>simp only[eV]<;>omega
    .rw[aF k2];by_cases k3:(Qb l a).kind=3
     .rw[aE k3];refine step _ ((kP hI Qf a).more (by omega)) ?_;have hyr:=fV (w:=(Qb l a).w) (high:=(Qb l a).h) (y:=s.PS.y+s.PS.m) (s:=eB rs a) (λf Ts=>(hf f Ts).yB);have hbx:=Qf.box (.inl k3);have hh:=Qf.h;refine one _ 1 (by simp[okN,k3]) R6 (by simp[WS.mono,WS.put]) (λx P7=>?_);simp only[WS.mono,WS.put]at P7;rcases dM.1 P7 with P7|P7
      .exact(hx x P7).mono (by omega)
      .simp only[iM]at P7;subst P7;refine⟨?_,?_,?_,?_⟩<;>simp only<;>omega
     .rw[aF k3];have k4:(Qb l a).kind=4:=by rcases Qf.kind with h|h|h|h;exact absurd h k1;exact absurd h k2;exact absurd h k3;exact h
      refine step _ ((jM hD hI (by omega) Qf k4).more (by omega)) ?_;exact one _ 0 (by simp[okN,k4]) R6 (by simp[WS.float]) (λx P7=>(hx x P7).mono (by omega))
  .rw[aF C'];obtain rfl:a=e:=by omega
   exact⟨λx P7=>(hx x P7).mono (by omega),λ_=>0,by simp[jF],λi h1 h2=>by omega⟩
def G9(i:Int)(L:List Int)(h:∀x∈L,x≠i):∀k,tG i (List.replicate k i++L)=k
 |0=>by
  cases L with
  |nil=>rfl
  |cons x L=>rw[List.replicate_zero,jU,tG,aF (h x (by simp))]
 |k+1=>by rw[List.replicate_succ,List.cons_append,tG,aE rfl,G9 i L h k]
def x5{cnt:Nat->Nat}:∀{n a:Nat} {x:Int},x∈VN cnt a n->∃i:Nat,x=i/\a<=i/\i<a+n
 |0,_,_,h=>by simp[jF]at h
 |n+1,a,x,h=>by
  rw[gM]at h;rcases dM.1 h with h|h
  .exact⟨a,(List.mem_replicate.1 h).2,by omega,by omega⟩
  .obtain⟨i,h1,h2,h3⟩:=x5 h;exact⟨i,h1,by omega,by omega⟩
def zh{cnt:Nat->Nat}{of:List Int}:∀(r:List Nd) (i at':Nat),of.drop at'=VN cnt i r.length->at'<=of.length->(∀j (h:j<r.length),okN r[j] (cnt (i+j))=true)->AQ of r i at'=true
 |[],i,at',h,hl,_=>by
  have:of.length<=at':=by
   have:=congrArg List.length h;simp[jF]at this;omega
  simp[AQ];omega
 |x::r,i,at',h,hl,ho=>by
  rw[Rc,gM]at h;have ht:lA of at' i=cnt i:=by
   rw[lA,h];exact G9 _ _ (λy hy=>by obtain⟨j,h1,h2,_⟩:=x5 hy;omega) _
  rw[AQ,ht];have h0:=ho 0 (by simp);simp only[List.getElem_cons_zero,Nat.add_zero]at h0;rw[h0,Bool.true_and];have hd:of.drop (at'+cnt i)=VN cnt (i+1) r.length:=by
   rw[<-List.drop_drop,h,Iq (by simp)];simp
  refine zh r (i+1) _ hd ?_ (λj hj=>?_)
  .have:=congrArg List.length h;simp at this;omega
  .have:=ho (j+1) (by simpa using hj);simp only[List.getElem_cons_succ]at this
   rwa [show i+1+j=i+(j+1) by omega]
structure Mn(l:List Nd)(w:Int):Prop where
 may:pN l ((cZ l w).atoms.map (·.node))=true
 nod:∀a∈(cZ l w).atoms,0<=a.node/\a.node<l.length
 at':∀x∈(cZ l w).atoms,AtI (1099511627776*((Rg l 0 l.length:Nat):Int)) x
 len:(cZ l w).atoms.length<=Rg l 0 l.length
 TH:(cZ l w).g'.length<=Rg l 0 l.length
 W4:∀f∈(cZ l w).g',X2 (1099511627776*((Rg l 0 l.length:Nat):Int)) f
def xF{l:List Nd}(hb:Qs l=true)(hn:l.length<=2000){w:Int}(h1:1<=w)(h2:w<=1099511627776):Mn l w:=by
 have hD:=uM hb hn h1 h2;have hr:cj l 0 l.length=true:=by simp only[Qs,Ba]at hb;exact hb.2
 have hI:fG ⟨[],[],0,⟨0,0⟩⟩ 0:=⟨⟨by simp,by simp,by simp,by simp,by simp⟩,by simp,by simp⟩
 have hA:=sx hD l.length 0 l.length ⟨[],[],0,⟨0,0⟩⟩ 0 (by omega) (by omega) (Qh _) hr hI (by simp);have hJ:=gn hD l.length 0 l.length ⟨[],[],0,⟨0,0⟩⟩ 0 (by omega) (by omega) (Qh _) hr hI;rw[gY]at hA hJ;have ha:(cZ l w).atoms=(ee l (kW l w) l.length 0 l.length ⟨[],[],0,⟨0,0⟩⟩).atoms:=rfl;have hf:(cZ l w).g'=(ee l (kW l w) l.length 0 l.length ⟨[],[],0,⟨0,0⟩⟩).g'.map (ta (ee l (kW l w) l.length 0 l.length ⟨[],[],0,⟨0,0⟩⟩).atoms.length):=rfl;obtain⟨RF,cnt,hc,hco⟩:=hA;rw[List.map_nil,jU,Nat.sub_zero]at hc;refine⟨?_,λa hm=>?_,by rw[ha];exact RF,by rw[ha];exact hJ.at',by rw[hf,cL];exact hJ.fl,λf hm=>?_⟩
 .rw[ha,hc];refine zh (cnt:=cnt) l 0 0 (by simpa using hc) (Nat.zero_le _) (λj hj=>?_);have:=hco j (Nat.zero_le _) hj;rw[iU hj]at this
  rwa [gY]
 .have Xg:a.node∈VN cnt 0 l.length:=by rw[<-hc,<-ha];exact List.mem_map_of_mem hm
  obtain⟨i,e,_,hi⟩:=x5 Xg;omega
 .rw[hf]at hm;obtain⟨g,hg,rfl⟩:=eI.1 hm;have:=hJ.bd.fl g hg;exact⟨this.1,this.2,this.3,this.4,this.5,this.6,this.7,this.8⟩
def sZ:∀(l:List Nd),(∀x∈l,Xx x)->((l.map λn=>4+n.words.length).sum:Nat)<=4*(l.length:Int)+kH l/\∀x∈l,(x.words.length:Int)<=kH l
 |[],_=>by simp[kH]
 |x::l,h=>by
  obtain⟨h1,h2⟩:=sZ l (λy hy=>h y (by simp[hy]));have hx:=h x (by simp);have hp:(x.words.length:Int)<=pof x/\0<=pof x:=by
   unfold pof;by_cases k1:x.kind=1
   .have:=hx.Xy (by omega);simp[k1,this]
   .by_cases k2:x.kind=2
    .simp[k2]
    .have:=hx.Xy k2;simp[k1,k2,this]
  have hp0:0<=kH l:=by
   have:∀l:List Nd,0<=kH l:=by
    intro l
    induction l with
    |nil=>simp[kH]
    |cons y l ih=>
     have:0<=pof y:=by unfold pof;split;omega;split;omega;omega
     simp only[kH];omega
   exact this l
  refine⟨by simp only[dO,List.sum_cons,Rc,kH];omega,λy hy=>?_⟩;rcases cD.1 hy with rfl|hy
  .simp only[kH];omega
  .have:=h2 y hy;simp only[kH];omega
structure Nh(l:List Nd):Prop where
 Wy:Qs l=true
 len:l.length<=2000
 words:∀x∈l,x.words.length<=2000
 Rg:Rg l 0 l.length<=10000
def qd{l:List Nd}(h:fj l=0):Nh l:=by
 unfold fj at h;split at h
 .rename_i hb;split at h
  .cases h
  .rename_i hc;have Qa:l.all Nd.ok=true:=by simp only[Qs,Ba]at hb;exact hb.1
   rw[iR,aE hb,uv l Qa l.length (Qh _),hU]at hc;simp only[not_or]at hc;obtain⟨h1,h2⟩:=sZ l (λx hx=>by obtain⟨i,hi,rfl⟩:=List.getElem_of_mem hx;exact gi hb hi);refine⟨hb,by omega,λx hx=>by have:=h2 x hx;omega,?_⟩;have:Vc.Rg l 0 l.length=(l.map λn=>4+n.words.length).sum:=by unfold Vc.Rg;rw[hU,Aj]
   omega
 .cases h
open Go.Proofs
def ad.ID{P:Program}{n:Nat}{Q:St->Prop}{s:Nat->V}{U K:ag}{todo:List It}(l ds:List Nat){e sz:Nat}{v:V}{rows:List V}(hK:aa K U)(ho:aN K U e sz v rows)
 (hs:∀d∈ds,s d=v)(hr:ad P n todo ⟨λi=>if ds.contains i then .sl sz rows else CV l s i,K⟩ Q):ad P n todo ⟨s,U⟩ Q:=by
 refine ad.weaken ⟨hK,λi=>?_⟩ hr;show Wk U K (s i) _;by_cases hi:ds.contains i=true
 .simp only[aE hi];rw[hs i (by simpa using hi)];exact ho.wk (aa.refl K) hK
 .simp only[aF hi];unfold CV;split
  .exact Wk.refl hK _
  .exact Wk.undef _
def Zv(l:List Nd)(w:Int):List Int:=(cZ l w).atoms.map (·.node)
def gv(l:List Nd)(w h:Int):Bk:=⟨l,w,h,(cZ l w).atoms,(cZ l w).g',(cZ l w).PJ,rQ l (Zv l w)⟩
def xM(n:Int):Prop:=1<=n/\n<=1099511627776
instance (n:Int):Decidable (xM n):=by unfold xM;infer_instance
def jJ(l:List Nd)(w h:Int):Int:=if¬(xM w/\xM h)then 3 else if fj l≠0 then fj l else if(iR l).1.G'>mulR (gS l h) 32768 then 2 else 0
def D8(l:List Nd)(w h:Int):V:=if jJ l w h=0 then .rp (bN (gv l w h))else .US
def fF.Hc{K U:ag}{id:Nat}{o:Ob}(hK:K id≠none):∀{l:List Nd} {rows:List V},fF K U l rows->fF K (u' U id o) l rows
 |[],[],_=>trivial
 |_::_,_::_,⟨⟨w,h1,h2⟩,h⟩=>⟨⟨w,h1,h2.ab hK⟩,fF.Hc hK h⟩
 |[],_::_,h=>h.elim
 |_::_,[],h=>h.elim
def Aw.Hc{K U:ag}{id:Nat}{o:Ob}(hK:K id≠none){v:V}{l:List Nd}(h:Aw K U v l):Aw K (u' U id o) v l:=by
 obtain⟨rows,ho,hr⟩:=h;exact⟨rows,ho.ab hK,hr.Hc hK⟩
def l5{α:Type}{f:α->V}(h:∀a,(f a).vm=true):∀l:List α,jc (l.map f)=true
 |[]=>rfl
 |a::l=>by simp only[dO,jc,h a,l5 h l,Bool.and_self]
def OV(l:List Int)(U:ag):bT U false 1 (.rp (encI l))=some (encI l):=rfl
def tM(vn:V)(w h:Int)(va vf:V)(ht:Int)(vb:V):Ob:=⟨105,7,[.agg [vn,vI w,vI h,va,vf,vI ht,vb]]⟩
def E1{U J:ag}{ib:Nat}{b:Bk}{vn:V}(hs:aa U J)(z:U ib=none)(hr:J ib=some (tM vn b.w b.h (bC b.atoms) (aJ b.PX) b.PJ (bR b.Qi)))(ho:Aw (bg U ib) J vn b.nodes):
 au (.PI [.ptr ib 0 0,vI 0]) J λr Z'=>r=.PI [.rp (bN b),vI 0]/\Z'=U:=by
 have hN:∀id,bg U ib id=none->U id=none:=λid h=>(aI.1 h).2;have n1:jc [bC b.atoms,aJ b.PX,vI b.PJ,bR b.Qi]=true:=by
  have a1:(bC b.atoms).vm=true:=l5 (f:=dx) (λ_=>rfl) b.atoms;have a2:(aJ b.PX).vm=true:=l5 (f:=aS) (λ_=>rfl) b.PX;have a3:(bR b.Qi).vm=true:=l5 (f:=ga) (λ_=>rfl) b.Qi;simp only[jc,a1,a2,a3];rfl
 have hf:Fz J (λid=>U id=none) (.PI [.ptr ib 0 0,vI 0]) (.PI [.rp (bN b),vI 0]):=by
  refine .PI _ _ (.cons _ _ _ _ (.ptr ib 0 _ _ _ hr z rfl (.agg _ _ ?_)) (RQ.same [vI 0] rfl));exact .cons _ _ _ _ (ho.fz hN) (.cons _ _ _ _ (.same _ rfl) (.cons _ _ _ _ (.same _ rfl) (RQ.same _ n1)))
 exact⟨_,U,hs,hf.wk hs (λ_ h=>h),rfl,rfl⟩
def Nb(l:List Nd)(hl:eY l)(w h:Int):aP prog 14 [aM l,vI w,vI h] (.PI [D8 l w h,vI (jJ l w h)]):=λU=>by
 refine e14.r (by simp[c14]) ?_;have hs:=aa.refl U;have bad:∀n:Int,jJ l w h=n->n≠0->(D8 l w h=.US/\jJ l w h=n):=λn hn h0=>⟨by rw[D8,aF (by rw[hn];exact h0)],hn⟩
 refine ad.mix 16 ?_;by_cases hw:xM w
 .have mw:=mF w;rw[show decide (1<=w/\w<=1099511627776)=true from SP hw]at mw;apply sR;simp only[go_sem,seval,c14];refine ad.ay rfl rfl rfl (mw _) ?_;apply sR;simp only[go_sem,seval];by_cases hh:xM h
  .have mh:=mF h;rw[show decide (1<=h/\h<=1099511627776)=true from SP hh]at mh;refine ad.ay rfl rfl rfl (mh _) ?_;apply sR;simp only[go_sem,seval];refine ad.ay rfl rfl rfl (lV l hl _) ?_;by_cases hc:fj l=0
   .have q:(fj l≠0)=False:=PG (λh=>h hc);have Xt:=lV l hl;rw[hc]at Xt q|-;apply sR;simp only[go_sem,seval,q];refine ad.ay rfl rfl rfl (Ak l hl _) ?_;apply sR;simp only[go_sem,seval,Sm.cells];refine ae λi9 Z9 s9 a9 f9=>?_;have z9:=hs.none f9;replace hs:=hs.trans s9;simp only[go_sem,seval,a9];generalize QX:u' _ i9 _=Y9;replace a9:=(congrFun QX i9).symm.trans af;replace hs:=Eq.subst (motive:=aa _) QX (hs.az z9);clear QX;refine Go.cN rfl rfl rfl (Fi l hl h) ?_;apply sG;simp only[go_sem,seval];refine Go.cN rfl rfl rfl (Nf (gS l h) 32768) ?_;have hE:jJ l w h=if(iR l).1.G'>mulR (gS l h) 32768 then 2 else 0:=by rw[jJ,aF (λh=>h ⟨hw,hh⟩),aF (λh=>h hc)]
    by_cases hlim:(iR l).1.G'>mulR (gS l h) 32768
    .have q1:((iR l).1.G'>mulR (gS l h) 32768)=True:=PK hlim;obtain⟨e1,e2⟩:=bad 2 (by rw[hE,aE hlim]) (by decide);rw[e1,e2];apply sG;simp only[go_sem,seval,a9,q1];exact au.pure hs rfl
    have q1:((iR l).1.G'>mulR (gS l h) 32768)=False:=PG hlim;have e2:jJ l w h=0:=by rw[hE,aF hlim]
    have e1:D8 l w h=.rp (bN (gv l w h)):=by rw[D8,aE e2]
    rw[e1,e2];obtain⟨RZ,WR,hwo,ZI⟩:=qd hc;have hG:=xF RZ WR hw.1 hw.2;have Su:=BQ l hl RZ WR (λx hx=>by have:=hwo x hx;omega) (by omega) Xt w hw.1 hw.2;apply sG;simp only[go_sem,seval,a9,q1];refine ad.call rfl rfl rfl (HS l hl.1 _) ?_;rintro vn V7 ⟨hs10,Xb⟩;replace Xb:=Xb.Np hs;replace hs:=hs.trans hs10;obtain⟨cn,sn⟩:=Xb.vc;have TA:=Xb.len;rw[cL]at TA;apply sR;simp only[go_sem,seval,cn,sn];refine ae λi46 Z46 s46 a46 f46=>?_;have z46:=hs.none f46;replace hs:=hs.trans s46;have ho46:aN (bg U i46) Z46 27 20 vn (l.map iE):=by
     rcases Xb with h|⟨id,h3,h4,h5⟩
     .exact .inl h
     .exact .inr ⟨id,h3,s46 _ _ h4,aI.2 ⟨λe=>(by rw[e,f46]at h4;cases h4),h5⟩⟩
    have k46:bg U i46 i46≠none:=λh=>(aI.1 h).1 rfl;simp only[go_sem,seval,a46,TA];refine ad.eh (λst=>aa U st.U/\Aw (bg U i46) st.U vn l/\st.U i46=some (tM vn w h .aL .aL 0 .aL)/\st.s 0=aM l/\st.s 1=vI w/\st.s 11=.ptr i46 0 0)
     (λm st=>∃(i:Nat) (rows:List V),i<=l.length/\m=l.length-i/\aa U st.U/\aN (bg U i46) st.U 27 20 vn rows/\rows.length=l.length/\fF (bg U i46) st.U (l.take i) (rows.take i)/\rows.drop i=(l.drop i).map iE/\st.U i46=some (tM vn w h .aL .aL 0 .aL)/\
       st.s 0=aM l/\st.s 1=vI w/\st.s 11=.ptr i46 0 0/\st.s 51=vI l.length/\st.s 52=vI i) l.length ?_ ?_ ?_
    .exact⟨0,l.map iE,by omega,rfl,hs,ho46,by simp,trivial,by simp,a46,rfl,rfl,rfl,rfl,rfl⟩
    .clear hs ho46 a46 Xb a9;rintro m ⟨S,J⟩ ⟨i,rows,hi,rfl,hs,ho,hn,hr,hd,hb,t0,t1,t11,t51,t52⟩;simp only at hs ho hr hb t0 t1 t11 t51 t52;refine ad.mix 60 ?_;by_cases C':i<l.length
     .have q:((i:Int)<l.length)=True:=PK;obtain⟨id,rfl,hid,UZ⟩:∃id,vn=.own id 0 rows.length/\J id=some ⟨27,20,rows⟩/\bg U i46 id=none:=by
       rcases ho with⟨_,h0⟩|h
       .rw[h0]at hn;simp at hn;omega
       .exact h
      have hdc:(l.drop i)=l[i]::l.drop (i+1):=gT C';have hw':=hwo _ (QF C');have Qn:l.take (i+1)=l.take i++[l[i]]:=SO C';have Q8:=λU=>jl l C' U;generalize Yk:l[i]=x at*;have hrow':rows[i]?=some (.agg x.cells):=by
       have:(rows.drop i)[0]?=some (iE x):=by rw[hd,hdc];rfl
       rw[Mb]at this;exact this
      have PZ:id≠i46:=(aI.1 UZ).1;have hio:∀X':ag,X' id=some ⟨27,20,rows⟩->bL X' 20 (.own id 0 rows.length) (.int .i64 i)=some (.ptr id i 0):=λX' h=>j8 h (by omega);have r1:PM .i64 ((i:Int)+1):=ak;rw[tM]at hb;apply sR;simp only[go_sem,seval,t0,t1,t11,t51,t52,q,cd];refine ad.rR (by kernel_rfl) [0,1,2,3,4,5,6,7,8,9,10,11,12,13] [[],[0],[0,1],[0,1,2],[],[],[],[5,6],[5,6,7],[5,6,7,8],[5,6,7,8,9],[0,1,2,3,4,5,6,7,8,9,10],[0,1,2,3,4,5,6,7,8,9,10,11],[0,1,2,3,4,5,6,7,8,9,10,11,12]] [0,2,4,6,8,10,12,14,16,18,20,7,22,24,26] (by kernel_rfl) (by kernel_rfl) ?_;refine RE.QS (n:=0) [20,7,22,24,26] [0,2,4,6,8,10,12,14,16,18] [⟨(.some 55),(.Qo (.t 11)),.none⟩,⟨(.some 56),(.nilCheck (.t 55)),.none⟩,⟨(.some 57),(.PN .false 0 1 (.t 56)),.none⟩,⟨(.some 58),(.load .false 1 (.t 57)),.none⟩,⟨(.some 59),(.Qo (.t 12)),.none⟩,⟨(.some 60),(.Qo (.t 0)),.none⟩,⟨(.some 61),(.Qo (.t 12)),.none⟩,⟨(.some 62),(.UT 20 (.t 60) (.t 61)),.none⟩,⟨(.some 63),(.PN .false 16 1 (.t 62)),.none⟩,⟨(.some 64),(.load .false 1 (.t 63)),.none⟩] rfl rfl ?_;apply sG;simp only[go_sem,seval,t0,t11,hb,Q8,Nd.cells,OV];refine RE.call rfl rfl rfl rfl rfl (Fe x.words (by omega) _) ?_;rintro wv Z2 ⟨Tl,Ug⟩;simp only at Tl Ug;have WT:=Tl _ _ hid;have Qp:=Tl _ _ hb;obtain⟨cw,sw⟩:=Ug.vc;have hio2:=hio _ WT;refine RE.Rl rfl rfl rfl rfl rfl trivial (by simp only[go_sem,seval,t0,t11,Qp]) ?_;refine RE.QS (n:=0) [] [22,24,26] [⟨(.some 66),(.UT 20 (.t 58) (.t 59)),.none⟩,⟨(.some 67),(.PN .false 16 1 (.t 66)),.none⟩,⟨.none,(.store 1 (.t 67) (.t 65)),.none⟩] rfl rfl ?_;apply sG;simp only[go_sem,seval,t0,t11,Qp,hio2,WT,hrow',Nd.cells,cw,sw];have hk46:bg U i46 id=none:=UZ;have hsf:aa U (u' Z2 id ⟨27,20,rows.set i (ndW x wv)⟩):=(hs.trans Tl).az (aI.1 UZ).2;have SN:∀j,j≠id->∀o,Z2 j=some o->u' Z2 id ⟨27,20,rows.set i (ndW x wv)⟩ j=some o:=λj hj o hjo=>by rw[ab hj];exact hjo
      have h1:=(hr.mono Tl).kept WT SN;have RG:aa (bg U i46) (bg J i46):=λj o hj=>by
       unfold bg at hj|-;split
       .rename_i e;rw[aE e]at hj;exact hj
       .rename_i e;rw[aF e]at hj;exact hs _ _ hj
      have h2:aN (bg U i46) (u' Z2 id ⟨27,20,rows.set i (ndW x wv)⟩) 3 1 wv (x.words.map vI):=by
       rcases Ug with h|⟨iw,e1,e2,e3⟩
       .exact .inl h
       .have n1:iw≠id:=λe=>by rw[e,WT]at e2;simp at e2
        refine .inr ⟨iw,e1,by rw[ab n1];exact e2,aI.2 ⟨λe=>(by rw[e,hb]at e3;cases e3),hs.none e3⟩⟩
      have h3:(rows.set i (ndW x wv)).take (i+1)=rows.take i++[ndW x wv]:=by
       rw[SO (by simp;omega),List.take_set_of_le (by omega)];simp
      apply sR;simp only[go_sem,seval,t0,t1,t11,t51,t52,r1];refine⟨_,?_,i+1,rows.set i (ndW x wv),by omega,rfl,hsf,.inr ⟨id,by rw[List.length_set],af,UZ⟩,by simp[hn],?_,?_,?_,rfl⟩
      .omega
      .rw[h3,Qn];exact h1.app ⟨⟨wv,rfl,h2⟩,trivial⟩
      .rw[List.drop_set_of_lt (by omega)];have:rows.drop (i+1)=(rows.drop i).drop 1:=by simp
       rw[this,hd,hdc];rfl
      .exact(ab PZ.symm).trans Qp
     .have q:((i:Int)<l.length)=False:=PG;have Sh:i=l.length:=by omega
      subst Sh;rw[hU,kT (by omega)]at hr;apply sR;simp only[go_sem,seval,t0,t1,t11,t51,t52,q];exact⟨hs,⟨rows,ho,hr⟩,hb⟩
    .clear hs ho46 a46 Xb a9;rintro⟨S,J⟩ ⟨hs,how,hb,t0,t1,t11⟩;simp only at hs how hb t0 t1 t11;have Tq:=iV (cZ l w).atoms;have R8:=hG.len;have hbr:=LZ l hl RZ (Zv l w) (by rw[Zv,cL];omega) (λx hx=>by
      obtain⟨a,ha,rfl⟩:=eI.1 hx;exact hG.nod a ha) hG.may
     have hofe:Zv l w=(cZ l w).atoms.map (·.node):=rfl;rw[tM]at hb;rw[qU]at Su;refine ad.mix 16 ?_;apply sR;simp only[go_sem,seval,t0,t1,t11];refine ad.ay rfl rfl rfl (Su _) ?_;apply sR;simp only[go_sem,seval,t11,hb,Tq,aA,aD,aT,aV];generalize hq:u' J i46 _=Y0;have hb0:Y0 i46=some (tM vn w h (bC (cZ l w).atoms) (aJ (cZ l w).g') (cZ l w).PJ .aL):=by rw[<-hq];exact af
     have QJ:aa U Y0:=hq▸hs.az z46;have how0:Aw (bg U i46) Y0 vn l:=hq▸how.Hc k46;clear hq hs how hb;refine ad.eh (λst=>aa Y0 st.U/\aN Y0 st.U 3 1 (st.s 13) ((Zv l w).map vI)/\st.s 0=aM l/\st.s 11=.ptr i46 0 0)
      (λm st=>∃j:Nat,j<=(cZ l w).atoms.length/\m=(cZ l w).atoms.length-j/\aa Y0 st.U/\aN Y0 st.U 3 1 (st.s 13) ((((cZ l w).atoms.take j).map (·.node)).map vI)/\st.s 0=aM l/\st.s 11=.ptr i46 0 0/\st.s 82=bC (cZ l w).atoms/\st.s 83=vI (cZ l w).atoms.length/\st.s 84=vI j) (cZ l w).atoms.length ?_ ?_ ?_
     .exact⟨0,by omega,rfl,aa.refl _,aN.start,t0,t11,rfl,rfl,rfl⟩
     .clear t0 t1 t11;rintro m ⟨S,J⟩ ⟨j,hj,rfl,T',ho,t0,t11,t82,t83,t84⟩;simp only at T' ho t0 t11 t82 t83 t84;generalize Wg:S 13=TU at ho;refine ad.mix 85 ?_;by_cases C':j<(cZ l w).atoms.length
      .have q:((j:Int)<(cZ l w).atoms.length)=True:=PK;have E':=λU=>iD (U:=U) C';have Qj:(((cZ l w).atoms.take (j+1)).map (·.node)).map vI=(((cZ l w).atoms.take j).map (·.node)).map vI++[vI (cZ l w).atoms[j].node]:=by
        rw[SO C',eo,eo];rfl
       have UN:((((cZ l w).atoms.take j).map (·.node)).map vI).length=j:=by rw[cL,cL,jt];omega
       have RF:dx (cZ l w).atoms[j]=.agg [vI (cZ l w).atoms[j].kind,vI (cZ l w).atoms[j].node,vI (cZ l w).atoms[j].fr,vI (cZ l w).atoms[j].to,vI (cZ l w).atoms[j].x,vI (cZ l w).atoms[j].y,vI (cZ l w).atoms[j].w,vI (cZ l w).atoms[j].h]:=rfl;generalize (((cZ l w).atoms.take j).map (·.node)).map vI=rows at*;generalize (cZ l w).atoms[j]=x at*;have r1:PM .i64 ((j:Int)+1):=ak;have hs:=aa.refl J;apply sR;simp only[go_sem,seval,t0,t11,t82,t83,t84,Wg,q,E',RF];refine ae λi15 Y15 s15 VB f15=>?_;have z15:=hs.none f15;replace hs:=hs.trans s15;simp only[go_sem,seval,VB,t0,t11,t82,t83,t84,Wg];generalize Sw:u' _ i15 _=Z15;replace VB:=(congrFun Sw i15).symm.trans af;replace hs:=Eq.subst (motive:=aa _) Sw (hs.az z15);clear Sw;refine ae λi91 Z91 s91 a91 f91=>?_;obtain⟨PU,QV,Qx⟩:=ho.dst (hs.trans s91);have Qp:(rows.length+1)*9<=140737488355328:=by omega
       simp only[go_sem,seval,QV,cW a91,Qp];refine dI λi92 Z92 s92 a92 f92=>?_;have k92:=(Qx Y0 (aa.refl _) Z91 (T'.trans (hs.trans s91))).trans s92;have n92:Y0 i92=none:=(T'.trans (hs.trans s91)).none f92;simp only[go_sem,seval,t0,t11,t82,t83,t84,r1];refine⟨_,?_,j+1,by omega,rfl,k92,?_,rfl⟩
       .omega
       .rw[Qj];exact aN.new (by simp) a92 n92
      .have q:((j:Int)<(cZ l w).atoms.length)=False:=PG;have Rw:j=(cZ l w).atoms.length:=by omega
       rw[Rw,hU,<-hofe]at ho;apply sR;simp only[go_sem,seval,t0,t11,t82,t83,t84,Wg,q];exact⟨T',ho⟩
     .clear t0 t1 t11;rintro⟨S,J⟩ ⟨T',ho,t0,t11⟩;simp only at T' ho t0 t11;refine ad.ID [0,11] [13] T' ho (by simp) ?_;generalize hS:(λi=>if[13].contains i then V.sl 1 ((Zv l w).map vI)else CV [0,11] S i)=S';have u0:S' 0=aM l:=by rw[<-hS];exact t0
      have Sa:S' 11=.ptr i46 0 0:=by rw[<-hS];exact t11
      have U3:S' 13=encI (Zv l w):=by rw[<-hS];rfl
      clear hS t0 t11;refine ad.mix 16 ?_;rw[tM]at hb0;apply sR;simp only[go_sem,seval,u0,Sa,U3];refine ad.ay rfl rfl rfl (hbr _) ?_;apply sR;simp only[go_sem,seval,Sa,hb0,gN,gJ];exact E1 (b:=gv l w h) (QJ.az z46) z46 af (how0.Hc k46)
   .have q:(fj l≠0)=True:=PK hc;obtain⟨e1,e2⟩:=bad (fj l) (by rw[jJ,aF (λh=>h ⟨hw,hh⟩),aE hc]) hc;rw[e1,e2];apply sR;simp only[go_sem,seval,q];exact au.pure hs rfl
  .have mh:=mF h;rw[show decide (1<=h/\h<=1099511627776)=false from Sz hh]at mh;obtain⟨e1,e2⟩:=bad 3 (by rw[jJ,aE (λh=>hh h.2)]) (by decide);rw[e1,e2];refine ad.ay rfl rfl rfl (mh _) ?_;apply sR;simp only[go_sem,seval];exact au.pure hs rfl
 .have mw:=mF w;rw[show decide (1<=w/\w<=1099511627776)=false from Sz hw]at mw;obtain⟨e1,e2⟩:=bad 3 (by rw[jJ,aE (λh=>hw h.1)]) (by decide);rw[e1,e2];apply sR;simp only[go_sem,seval,c14];refine ad.ay rfl rfl rfl (mw _) ?_;apply sR;simp only[go_sem,seval];exact au.pure hs rfl
def kU{l:List Nd}{w h:Int}(he:jJ l w h=0):xM w/\xM h/\fj l=0:=by
 unfold jJ at he;split at he
 .cases he
 .rename_i h1;split at he
  .rename_i h2;exact absurd he h2
  .rename_i h2;exact⟨Decidable.byContradiction λh=>h1 (λg=>h g.1),Decidable.byContradiction λh=>h1 (λg=>h g.2),Decidable.byContradiction h2⟩
def DM{l:List Nd}(hl:eY l){w h:Int}(he:jJ l w h=0):BkFull (gv l w h)/\∀f∈(gv l w h).PX,0<=f.h:=by
 obtain⟨hw,hh,hc⟩:=kU he;obtain⟨RZ,hn,hwo,ZI⟩:=qd hc;have hG:=xF RZ hn hw.1 hw.2;have ZP:=hG.len;have hl2:=hG.TH;have hb:(1099511627776:Int)*((Rg l 0 l.length:Nat):Int)<=10995116277760000:=by omega
 have ht:∀a∈(cZ l w).atoms,-18014398509481984<=a.y/\a.y<=18014398509481984/\0<=a.h/\a.h<=18014398509481984:=λa ha=>by
  have:=hG.at' a ha;have h0:=this.y0;have h1:=this.y1;have h2:=this.h0;have h3:=this.h1;omega
 refine⟨⟨⟨⟨?_,λa ha=>?_⟩,ht,?_,?_,λf hf=>(hG.W4 f hf).ok (by omega),?_⟩,hl,RZ,hh.1,hh.2,hG.nod⟩,λf hf=>(hG.W4 f hf).h0⟩
 .show(cZ l w).atoms.length<=_;omega
 .have:=ht a ha;omega
 .show(cZ l w).atoms.length<=_;omega
 .show(cZ l w).g'.length<=_;omega
 .show(rQ l (Zv l w)).length=(cZ l w).atoms.length+1;unfold rQ Zv;simp
def eM(b:Bk)(a:Nat):Int:=((b.atoms.drop a).map (·.h)).sum
def sO{b:Bk}{a:Nat}(h:a<b.atoms.length):eM b a=(b.atoms[a]).h+eM b (a+1):=by
 unfold eM;rw[gT h,dO,List.sum_cons]
def pJ{b:Bk}(hp:∀a∈b.atoms,1<=a.h)(a:Nat):0<=eM b a:=by
 have key:∀l:List Qy,(∀a∈l,1<=a.h)->0<=(l.map (·.h)).sum:=by
  intro l
  induction l with
  |nil=>intro _;simp
  |cons x l ih=>
   intro h;have h1:=h x (by simp);have h2:=ih (λy hy=>h y (by simp[hy]));simp only[dO,List.sum_cons];omega
 exact key _ λx hx=>hp x (List.mem_of_mem_drop hx)
def yL{b:Bk}(hp:∀a∈b.atoms,1<=a.h)(a:Nat):∀n,eM b (a+n)<=eM b a
 |0=>Int.le_refl _
 |n+1=>by
  have ih:=yL hp a n;by_cases h:a+n<b.atoms.length
  .have h1:=sO h;have h2:=hp _ (QF h);rw[<-Nat.add_assoc];omega
  .have:eM b (a+(n+1))=eM b (a+n):=by
    unfold eM;rw[List.drop_of_length_le (by omega),List.drop_of_length_le (by omega)]
   omega
def qh{body:Int}(f:O')(r:List O'):(eg body (f::r) 0).2.1.length<(f::r).length:=by
 have key:∀(l:List O') (sh:Int),(eg body l sh).2.1.length<=l.length:=by
  intro l
  induction l with
  |nil=>intro sh;simp[eg]
  |cons g l ih=>
   intro sh;rw[eg];split
   .simp
   .have:=ih (sh+min g.h body);simp only[Rc];omega
 rw[eg,aF (by omega)];have:=key r (0+min f.h body);simp only[Rc];omega
def mN{b:Bk}{s:Q6}{to kept shift body:Int}:(eF b.atoms b.PX s to kept shift body).2.length<=b.PX.length:=by
 unfold eF;split
 .have h1:=ni (uk b.atoms s kept) shift body (fX b.PX s to);have h2:(fX b.PX s to).length<=b.PX.length:=nu _ _ _;omega
 .simp
inductive jA(b:Bk)(x:Wx):RH->Prop
 |whole (c:Nat) (fr:Bool) (p:List O') (h1:x.s.atom<c) (h2:c<=b.atoms.length) (h3:p.length<=b.PX.length):jA b x ⟨⟨c,0,fr⟩,p⟩
 |more (d:Int) (p:List O') (h1:x.s.done<d) (h2:d<(Rx b.atoms x.s.atom).h) (h3:p.length<=b.PX.length):jA b x ⟨⟨x.s.atom,d,false⟩,p⟩
def pZ{b:Bk}(hb:BkOk b){x:Wx}(hm:dS b.atoms x.s)(QQ:∀a∈b.atoms,1<=a.h)(UC:1<=x.body):jA b x (fv b x):=by
 have Ux:ez b x<=b.atoms.length:=qF;have Q0:=hb.brk;unfold fv;split
 .rename_i P4;obtain⟨c,h1,h2,h3⟩:=uh P4 (by omega);rw[show ye b x=c from h1,eL];exact .whole c _ _ h2 (by omega) mN
 .unfold wo eX;have Zi:qj b.atoms x.s x.body:=⟨hm,UC⟩
  rw[aE (show qj b.atoms ({ x with kind:=1 }:Wx).s ({ x with kind:=1 }:Wx).body from Zi)];obtain⟨⟨h0,h1⟩,h2,h3⟩:=hm;obtain⟨k,hk⟩:∃k:Nat,x.s.atom=k:=⟨x.s.atom.toNat,by omega⟩
  have RG:k<b.atoms.length:=by omega
  have hp:=QQ _ (QF RG);have ha:Rx b.atoms x.s.atom=b.atoms[k]:=by rw[hk,bn RG]
  rw[ha]at h3;have hph:(gb b.atoms x.s.atom).h=b.atoms[k].h:=by rw[gb,ha]
  unfold jZ;have e1:(fE b.atoms x.s x.body).fr=x.s.done:=rfl;have e2:(fE b.atoms x.s x.body).atom=x.s.atom:=rfl;have e3:(fE b.atoms x.s x.body).h=min (b.atoms[k].h-x.s.done) x.body:=by rw[<-hph];rfl
  split
  .rename_i C';have P':x.s.done+min (b.atoms[k].h-x.s.done) x.body<(Rx b.atoms x.s.atom).h:=by rw[<-e3];exact C'
   have:=jA.more (b:=b) (x:=x) (x.s.done+min (b.atoms[k].h-x.s.done) x.body) (eF b.atoms b.PX x.s (x.s.atom+1) 0 0 x.body).2 (by omega) P' mN;rw[<-e3]at this;exact this
  .have:=jA.whole (b:=b) (x:=x) (k+1) false (eF b.atoms b.PX x.s (x.s.atom+1) 0 0 x.body).2 (by omega) (by omega) mN;have e4:((k+1:Nat):Int)=x.s.atom+1:=by omega
   rw[e4]at this;exact this
structure UR(s:WS):Prop where
 pw:s.atoms.Pairwise λa b=>a.y+a.h<=b.y
 q:∀a∈s.atoms,a.y+a.h<=s.PS.y
def UR.put{s:WS}(h:UR s){a:Qy}(h1:s.PS.y<=a.y)(h2:0<=a.h):UR (s.put a):=by
 refine⟨?_,λx hx=>?_⟩
 .simp only[WS.put];rw[List.pairwise_append];refine⟨h.pw,by simp,λx hx y hy=>?_⟩;simp only[iM]at hy;subst hy;have:=h.q x hx;omega
 .simp only[WS.put]at hx|-;rcases dM.1 hx with hx|hx
  .have:=h.q x hx;omega
  .simp only[iM]at hx;subst hx;omega
def UR.PS{s:WS}(h:UR s){p:Pn}(hp:s.PS.y<=p.y):UR { s with PS:=p }:=⟨h.pw,λa ha=>by have:=h.q a ha;simp only;omega⟩
def Ck{p:Pn}{m d:Int}(h0:0<=p.m)(hd:0<=d):p.y<=(ek p m d).y:=by
 simp only[ek,uQ];(repeat' split)<;>omega
def HP{p:Pn}{m d:Int}(h0:0<=p.m)(hd:0<=d):p.y<=(lF p m d).y:=by
 simp only[lF,uQ];(repeat' split)<;>(try simp only)<;>omega
def UR.enter{s:WS}(h:UR s)(h0:0<=s.PS.m){t:Rn}(ht:SOk t):UR (s.enter t):=by
 have hp:=ht.PQ.1;unfold WS.enter;simp only;refine h.PS ?_;split
 .have hc:s.PS.y<=(jh s.PS (dV (lU t.clear) s.g').1).y/\0<=(jh s.PS (dV (lU t.clear) s.g').1).m:=by
   unfold jh;split<;>(try simp only)<;>omega
  exact Int.le_trans hc.1 (Ck hc.2 hp)
 .exact Ck h0 hp
def UR.leave{s:WS}(h:UR s)(h0:0<=s.PS.m){t:Rn}(ht:SOk t):UR (s.leave t):=h.PS (HP h0 ht.H'.1)
def UR.text{rs:List Rm}{s:WS}{C:Nat}(h:fG s C)(hk:UR s){n:Nd}(hn:Xx n)(a:Nat):UR (s.text rs a n):=by
 obtain⟨⟨hf,h1,h2,h3,h4⟩,h5,h6⟩:=h;have hl:=hn.line;have key:∀(k i:Nat) (y:Int) (t:WS),t.PS.y<=y->UR t->UR ((dz s.g' n.words n.space n.line (eB rs a) k i y).foldl (λs x=>s.put (eV a n.line x)) t):=by
  intro k
  induction k with
  |zero=>intro i y t _ ht;exact ht
  |succ k ih=>
   intro i y t hy ht;rw[dz];split
   .rw[iY];have hyr:y<=(nR s.g' n.words n.space n.line i y (eB rs a)).y:=(fV (λf Ts=>(hf f Ts).yB)).1;refine ih _ _ _ ?_ (ht.put (by simp only[eV];omega) hl.1);simp only[WS.put,eV];omega
   .exact ht
 exact key _ _ _ s (by omega) hk
def uS{l:List Nd}{rs:List Rm}(hD:W3 l rs):∀(k a e:Nat) (s:WS) (C:Nat),e-a<=k->a<=e->e<=l.length->cj l a e=true->fG s C->UR s->UR (ee l rs k a e s)
 |0,a,e,s,C,_,Vm,_,_,_,h=>h
 |k+1,a,e,s,C,hk,Vm,he,hr,h,hs=>by
  rw[ee];by_cases C':a<e
  .rw[aE C'];obtain⟨h1,h2⟩:=de he hr (Qh a) C';obtain⟨h3,h4⟩:=dW he hr C';have Qf:Xx (Qb l a):=by rw[iU (by omega)];exact gi hD.Wy (by omega)
   have step:∀t,(∃D,fG t D)->UR t->UR (ee l rs k (a+(Qg l a).toNat) e t):=λt ⟨D,ht⟩ hA=>
    uS hD k _ e t D (by omega) (by omega) he h3 ht hA
   have hm:=h.bd.m0;split
   .have hI2:=gn hD k (a+1) (a+(Qg l a).toNat) _ _ (by omega) (by omega) (by omega) h4 (eS h Qf.st);have hS2:=uS hD k (a+1) (a+(Qg l a).toNat) _ _ (by omega) (by omega) (by omega) h4 (eS h Qf.st) (hs.enter hm Qf.st);exact step _ ⟨_,jS hI2 Qf.st⟩ (hS2.leave hI2.bd.m0 Qf.st)
   .split
    .exact step _ ⟨_,kY h Qf a⟩ (UR.text h hs Qf a)
    .split
     .refine step _ ⟨_,kP h Qf a⟩ ?_;have hyr:=fV (w:=(Qb l a).w) (high:=(Qb l a).h) (y:=s.PS.y+s.PS.m) (s:=eB rs a) (λf Ts=>(h.bd.fl f Ts).yB);exact hs.put (by simp only;omega) Qf.h.1
     .have k4:(Qb l a).kind=4:=by rename_i g1 g2 g3;rcases Qf.kind with h|h|h|h;exact absurd h g1;exact absurd h g2;exact absurd h g3;exact h
      exact step _ ⟨_,jM hD h (by omega) Qf k4⟩ ⟨hs.pw,hs.q⟩
  .rw[aF C'];exact hs
def HU{l:List Nd}(hb:Qs l=true)(hn:l.length<=2000){w:Int}(h1:1<=w)(h2:w<=1099511627776):(cZ l w).atoms.Pairwise λa b=>a.y+a.h<=b.y:=by
 have hD:=uM hb hn h1 h2;have hr:cj l 0 l.length=true:=by simp only[Qs,Ba]at hb;exact hb.2
 have hI:fG ⟨[],[],0,⟨0,0⟩⟩ 0:=⟨⟨by simp,by simp,by simp,by simp,by simp⟩,by simp,by simp⟩
 exact(uS hD l.length 0 l.length ⟨[],[],0,⟨0,0⟩⟩ 0 (by omega) (by omega) (Qh _) hr hI ⟨by simp,by simp⟩).pw
def xQ{l:List Qy}(h:l.Pairwise λa b=>a.y+a.h<=b.y){i j:Nat}(hij:i<j)(hj:j<l.length):l[i].y+l[i].h<=l[j].y:=List.pairwise_iff_getElem.1 h i j (by omega) hj hij
def pX{p:Nat->Bool}{n:Nat}(hm:∀i j,i<=j->j<n->p i=true->p j=true):∀(f i j:Nat),j-i<=f->i<=j->j<=n->(∀x,x<i->p x=false)->(j<n->p j=true)->
 (∀x,x<kz p f i j->p x=false)/\(kz p f i j<n->p (kz p f i j)=true)/\kz p f i j<=j
 |0,i,j,hf,hij,_,h1,h2=>by
  obtain rfl:i=j:=by omega
  exact⟨h1,h2,Qh _⟩
 |f+1,i,j,hf,hij,hjn,h1,h2=>by
  rw[kz];split
  .rename_i C';split
   .rename_i hp;obtain⟨g1,g2,g3⟩:=pX hm f i ((i+j)/2) (by omega) (by omega) (by omega) h1 (λ_=>hp);exact⟨g1,g2,by omega⟩
   .rename_i hp;have ZQ:p ((i+j)/2)=false:=by simpa using hp
    refine pX hm f ((i+j)/2+1) j (by omega) (by omega) hjn (λx hx=>?_) h2;cases P7:p x with
    |false=>rfl
    |true=>rw[hm x ((i+j)/2) (by omega) (by omega) P7]at ZQ;cases ZQ
  .obtain rfl:i=j:=by omega
   exact⟨h1,h2,Qh _⟩
def BF{b:Bk}(hk:b.atoms.Pairwise λx y=>x.y+x.h<=y.y)(QQ:∀a∈b.atoms,1<=a.h){s:Q6}(hm:dS b.atoms s)(kept shift body:Int):
 ∃r:Nat,lX b.atoms s kept shift body=r/\s.atom<=r/\r<=b.atoms.length/\(∀k (h:k<b.atoms.length),s.atom<=k->k<r->dK b.atoms s kept shift k+b.atoms[k].h<=body)/\∀h:r<b.atoms.length,dK b.atoms s kept shift r+b.atoms[r].h>body:=by
 have U1:=hm;obtain⟨⟨h0,h1⟩,h2,h3⟩:=hm;obtain⟨a,ha⟩:∃a:Nat,s.atom=a:=⟨s.atom.toNat,by omega⟩
 have R8:a<b.atoms.length:=by omega
 have Uc:∀k (h:k<b.atoms.length),a<=k->dK b.atoms s kept shift k=b.atoms[k].y-b.atoms[a].y-s.done+kept+shift:=λk h hak=>by
  rw[dK,aE ⟨U1,by omega,by omega⟩,gx,aE ⟨⟨h0,h1⟩,by omega,by omega⟩,ha,bn h,bn R8]
 have hby:∀n (h:a+n<b.atoms.length),fo b.atoms s kept shift body n=decide (b.atoms[a+n].y-b.atoms[a].y-s.done+kept+shift+b.atoms[a+n].h>body):=λn h=>by
  have e:s.atom+(n:Int)=((a+n:Nat):Int):=by omega
  rw[fo,e,Uc _ h (by omega),bn h]
 have hmono:∀i j,i<=j->j<b.atoms.length-a->fo b.atoms s kept shift body i=true->fo b.atoms s kept shift body j=true:=λi j hij hj hb=>by
  rcases Nat.eq_or_lt_of_le hij with rfl|C'
  .exact hb
  .have hi2:a+i<b.atoms.length:=by omega
   have hj2:a+j<b.atoms.length:=by omega
   rw[hby i hi2]at hb;rw[hby j hj2];have h5:=xQ hk (show a+i<a+j by omega) hj2;have h6:=QQ _ (QF hj2);have Sf:=of_decide_eq_true hb;exact SP (by omega)
 have hs:=pX hmono (b.atoms.length-a) 0 (b.atoms.length-a) (by omega) (by omega) (Qh _) (λx hx=>by omega) (λh=>by omega);have hsr:kz (fo b.atoms s kept shift body) (b.atoms.length-a) 0 (b.atoms.length-a)=BY (fo b.atoms s kept shift body) (b.atoms.length-a):=rfl;rw[hsr]at hs;obtain⟨g1,g2,g3⟩:=hs;refine⟨a+BY (fo b.atoms s kept shift body) (b.atoms.length-a),?_,by omega,by omega,λk h hak hkr=>?_,λh=>?_⟩
 .rw[lX,aE U1,ha,eL];rfl
 .have hka:a<=k:=by omega
  have:=g1 (k-a) (by omega);rw[hby (k-a) (by omega)]at this;have h5:=of_decide_eq_false this;rw[Uc k h hka];have e:a+(k-a)=k:=by omega
  simp only[e]at h5;omega
 .have:=g2 (by omega);rw[hby _ h]at this;have h5:=of_decide_eq_true this;rw[Uc _ h (by omega)];omega
def lq{l:List Nd}{a:Nat}:∀(k:Nat) (x:Int),x∈gB l a k->gO l x a=true
 |0,_,h=>by simp[gB]at h
 |k+1,x,h=>by
  rw[gB]at h;split at h
  .rename_i hk;rcases cD.1 h with rfl|h
   .exact hk
   .exact lq k x h
  .exact lq k x h
def Gm(l:List Nd)(of:List Int)(k:Nat):0<=dt l of k 3/\dt l of k 3<=7:=by
 simp only[dt,G7];cases j4 l of k 0<;>cases j4 l of k 1<;>cases j4 l of k 2<;>simp
def xr:∀(all:List Int),dp all=0\/2<=dp all/\dp all<=4:=by
 have key:∀(all:List Int) (o:Int),(o=0\/2<=o/\o<=4)->(all.foldl j1 o=0\/2<=all.foldl j1 o/\all.foldl j1 o<=4):=by
  intro all
  induction all with
  |nil=>intro o h;exact h
  |cons x all ih=>
   intro o h;rw[iY];refine ih _ ?_;unfold j1 mO
   (repeat' split)<;>omega
 exact λall=>key all 0 (.inl rfl)
def HE{l:List Nd}(hb:Qs l=true){of:List Int}(Ra:∀x∈of,0<=x/\x<l.length):vd (rQ l of)=true:=by
 have hlen:(rQ l of).length=of.length+1:=by simp[rQ]
 simp only[vd,Ba,eQ,List.mem_range,SX];refine⟨λk hk=>?_,by omega⟩;rw[hlen]at hk;have hg:Tj (rQ l of) k=XB l of k:=by simp[Tj,rQ,hk]
 unfold gL;rw[hg,hlen];refine SP ?_;have Rb:0<k->k<of.length->of.getD k 0=of.getD (k-1) 0->jf l of k=0:=λh0 h1 he=>by
  have Sc:of.getD k 0=of[k]:=by simp[h1]
  have hr:=Ra _ (QF h1);have hh:∀x∈T0 l (of.getD k 0).toNat,VK l of x k=true/\VK l of x ((k:Int)-1)=true:=λx hx=>by
   rw[Sc]at hx;have C':of[k].toNat<l.length:=by omega
   rw[Ky hb C']at hx;have P7:=lq _ _ hx;rw[lH]at P7;have e1:((k:Int)-1).toNat=k-1:=by omega
   have e2:((k:Int)).toNat=k:=by omega
   have e3:(of[k].toNat:Int)=of[k]:=by omega
   rw[e3]at P7;unfold VK xO;rw[aE (by omega),aE (by omega),e1,e2,<-he,Sc];exact⟨SP ⟨P7.2.2.1,P7.2.2.2⟩,SP ⟨P7.2.2.1,P7.2.2.2⟩⟩
  have e1:((k:Int)-1).toNat=k-1:=by omega
  have e2:((k:Int)).toNat=k:=by omega
  have he1:UG l of ((k:Int)-1) (λb=>!VK l of b k)=[]:=by
   unfold UG;rw[aE (by omega),e1,<-he,List.filter_eq_nil_iff];intro x hx;rw[(hh x hx).1];simp
  have he2:UG l of k (λb=>!VK l of b ((k:Int)-1))=[]:=by
   unfold UG;rw[aE (by omega),e2,List.filter_eq_nil_iff];intro x hx;rw[(hh x hx).2];simp
  unfold jf jK;rw[aF (by omega),ep,he1,he2];rfl
 have hend:k=of.length->jf l of k=0:=λh=>by
  unfold jf jK;rw[aE h];rfl
 have hfv:=xr (jK l of k);have hbr:=Gm l of k;change jf l of k=0\/2<=jf l of k/\jf l of k<=4 at hfv;unfold oJ XB;simp only[SX,decide_eq_false_iff_not];unfold pP pW;by_cases h0:k=0
 .rw[aE h0,aE (show k=0\/k=of.length from .inl h0)];refine⟨λ_=>rfl,λh=>absurd (by omega) h,λh=>absurd (by omega) h,?_,.inl (by split<;>rfl)⟩;rcases hfv with h|h
  .exact .inl h
  .exact .inr ⟨h.1,h.2,by omega,by omega⟩
 .rw[aF h0];by_cases h1:k=of.length
  .rw[aE h1,aE (show k=0\/k=of.length from .inr h1)];exact⟨λh=>absurd h (by omega),λ_ _=>rfl,λ_ h=>absurd (by omega) h,.inl (hend h1),.inl (by split<;>rfl)⟩
  .rw[aF h1,aF (show¬(k=0\/k=of.length) by omega)];by_cases h2:of.getD k 0=of.getD (k-1) 0
   .rw[aE h2];have hf:=Rb (by omega) (by omega) h2;refine⟨λh=>absurd h (by omega),λ_ h=>absurd h (by omega),λ_ _=>.inr rfl,.inl hf,?_⟩;rw[aE hf];rcases Int.lt_or_le 0 (dt l of k 3)with h|h
    .exact .inr ⟨.inr rfl,hf,h,by omega⟩
    .exact .inl (by omega)
   .rw[aF h2];refine⟨λh=>absurd h (by omega),λ_ h=>absurd h (by omega),λ_ _=>.inl rfl,?_,?_⟩
    .rcases hfv with h|h
     .exact .inl h
     .exact .inr ⟨h.1,h.2,by omega,by omega⟩
    .by_cases hf:jf l of k=0
     .rw[aE hf];rcases Int.lt_or_le 0 (dt l of k 3)with h|h
      .exact .inr ⟨.inl rfl,hf,h,by omega⟩
      .exact .inl (by omega)
     .rw[aF hf];exact .inl rfl
def Ve(top e:Int)(l:List Qk):Prop:=∀f∈l,top<=f.y/\0<=f.h/\f.y+f.h<=e
def xq{top e:Int}{l m:List Qk}(h1:Ve top e l)(h2:Ve top e m):Ve top e (l++m):=λf hf=>(dM.1 hf).elim (h1 f) (h2 f)
def ze{l:List Nd}{x:Kp}{a:Int}(h:∀n∈x.P6,1<=(SV l n).head):∀n∈(je l x a).P6,1<=(SV l n).head:=λn hn=>by
 unfold je at hn;split at hn
 .exact h n hn
 .rename_i hc;rcases dM.1 hn with hn|hn
  .exact h n hn
  .rw[iM.1 hn];omega
def sS{l:List Nd}{L:List Int}{h:Int}:∀m,∀n∈(gr l L h m).P6,1<=(SV l n).head
 |0=>λn hn=>by simp[gr]at hn
 |m+1=>by rw[gr];exact ze (sS m)
def KE{l:List Nd}{w:Int}:∀(L:List Int),(∀n∈L,1<=(SV l n).head)->0<=(TI l w L).2/\(∀f∈(TI l w L).1,0<=f.y/\0<=f.h/\f.y+f.h<=(TI l w L).2)/\((TI l w L).1.map (·.h)).sum=(TI l w L).2:=λL=>by
 suffices key:∀(L:List Int) (p:List Qk×Int),(∀n∈L,1<=(SV l n).head)->0<=p.2->(∀f∈p.1,0<=f.y/\0<=f.h/\f.y+f.h<=p.2)->(p.1.map (·.h)).sum=p.2->
  0<=(L.foldl (Vw l w) p).2/\(∀f∈(L.foldl (Vw l w) p).1,0<=f.y/\0<=f.h/\f.y+f.h<=(L.foldl (Vw l w) p).2)/\((L.foldl (Vw l w) p).1.map (·.h)).sum=(L.foldl (Vw l w) p).2 from
  λh=>key L ([],0) h (Int.le_refl _) (λf hf=>by cases hf) rfl
 intro L
 induction L with
 |nil=>intro p _ h1 h2 h3;exact⟨h1,h2,h3⟩
 |cons a L ih=>
  intro p h h1 h2 h3;have ha:=h a (by simp);refine ih _ (λn hn=>h n (by simp[hn])) ?_ (λf hf=>?_) ?_
  .simp only[Vw];omega
  .simp only[Vw]at hf|-;rcases dM.1 hf with hf|hf
   .have:=h2 f hf;omega
   .rw[iM.1 hf];simp only;omega
  .simp only[Vw,eo,List.sum_append,h3,dO,List.map_nil,List.sum_cons,List.sum_nil];omega
def tU{b:Bk}(hb:BkFull b)(s:Q6)(h0:0<=s.atom):0<=(bG b s).high/\1<=(bG b s).body/\(bG b s).high+(bG b s).body=b.h/\Ve 0 (bG b s).high (TI b.nodes b.w (bG b s).P6).1/\((TI b.nodes b.w (bG b s).P6).1.map (·.h)).sum=(bG b s).high:=by
 have hk:=sk hb s;have hbd:=iu hb s h0;have hh:∀n∈(bG b s).P6,1<=(SV b.nodes n).head:=by
  unfold bG;split
  .intro n hn;cases hn
  .unfold rT;split
   .exact sS _
   .intro n hn;cases hn
 obtain⟨g1,g2,g3⟩:=KE (l:=b.nodes) (w:=b.w) _ hh;rw[hk.sum]at g2 g3;refine⟨hk.high.1,hbd,?_,g2,g3⟩;have h1:=hb.h1;revert hbd;unfold bG;split
 .intro _;simp
 .unfold rT;split
  .rename_i hc;intro _;obtain⟨_,h3,h4⟩:=hc;generalize (Rx b.atoms (min s.atom ((b.atoms.length:Int)-1))).node=a at*;have ha:a.toNat<b.nodes.length:=by omega
   have U7:∀x∈T0 b.nodes a.toNat,∃n:Nat,x=n/\n<b.nodes.length:=λx hx=>by
    obtain⟨n,h1,h2⟩:=pz ha x hx;exact⟨n,h1,by omega⟩
   exact(pB hb.Wy U7 (by omega:0<=b.h) (T0 b.nodes a.toNat).length (Qh _)).2.2.2
  .intro h;exact absurd h (by simp)
def Cw{body:Int}(hb:0<=body):∀(l:List O') (sh:Int),0<=sh->sh<=body->(∀f∈l,0<=f.h)->∀m∈(eg body l sh).1,0<=m.y/\0<=m.h/\m.y+m.h<=body
 |[],sh,_,_,_=>λm hm=>by simp[eg]at hm
 |f::r,sh,h0,h1,hf=>λm hm=>by
  rw[eg]at hm;have:=hf f (by simp);split at hm
  .cases hm
  .rename_i hc;rcases cD.1 hm with rfl|hm
   .simp only;omega
   .exact Cw hb r _ (by omega) (by omega) (λg hg=>hf g (by simp[hg])) m hm
def GI{top shift body:Int}(Tp:0<=shift):∀{L:List O'},(∀f∈L,0<=f.h)->∀m∈(jH top shift body L).1,0<=m.y/\0<=m.h/\m.y+m.h<=body:=by
 suffices key:∀(L:List O') (x:List O'×List O'),(∀f∈L,0<=f.h)->(∀m∈x.1,0<=m.y/\0<=m.h/\m.y+m.h<=body)->
  ∀m∈(L.foldl (λx f=>mG body x f (fM top shift f)) x).1,0<=m.y/\0<=m.h/\m.y+m.h<=body from
  λ{L} h=>key L ([],[]) h (λm hm=>by cases hm)
 intro L
 induction L with
 |nil=>intro x _ h m hm;exact h m hm
 |cons f L ih=>
  intro x hL h;refine ih _ (λg hg=>hL g (by simp[hg])) λm hm=>?_;have hf:=hL f (by simp);simp only[mG]at hm;split at hm
  .exact h m hm
  .rename_i hl;rcases dM.1 hm with hm|hm
   .exact h m hm
   .rw[iM.1 hm];unfold rb at hl;have hl':¬(x.2≠[]\/(fM top shift f).y+(fM top shift f).h>body):=λh=>hl (SP h);simp only[fM]at hl'|-;omega
def DV:∀{l:List O'} {a b:Int} {f:O'},f∈CW l a b->f∈l:=λh=>(nI.1 h).1
def AU{b:Bk}(hfh:∀f∈b.PX,0<=f.h){s:Q6}{to kept shift body:Int}(Tp:0<=shift):∀m∈(eF b.atoms b.PX s to kept shift body).1,0<=m.y/\0<=m.h/\m.y+m.h<=body:=by
 unfold eF;split
 .exact GI Tp λf hf=>hfh f (DV hf)
 .intro m hm;cases hm
def xp{high body:Int}{l:List O'}(h:∀m∈l,0<=m.y/\0<=m.h/\m.y+m.h<=body):Ve high (high+body) (l.map (pn high)):=λf hf=>by
 obtain⟨m,hm,rfl⟩:=eI.1 hf;have:=h m hm;simp only[pn];omega
def uO:∀(xs:List Fd) (d:Fd),(fp gW xs d=(d,false)/\∀x∈xs,x.b.forced=0)\/∃L x R,xs=L++x::R/\(∀y∈L,y.b.forced=0)/\x.b.forced≠0/\fp gW xs d=(x,true)
 |[],d=>.inl ⟨rfl,λx h=>(by cases h)⟩
 |a::xs,d=>by
  have stay:∀(l:List Fd) (x:Fd),l.foldl (gd gW) (x,true)=(x,true):=by
   intro l
   induction l with
   |nil=>intro x;rfl
   |cons y l ih=>intro x;rw[iY];exact ih x
  by_cases h:a.b.forced=0
  .have e:fp gW (a::xs) d=fp gW xs d:=by
    unfold fp;rw[iY,gd,gW];simp[h]
   rw[e];rcases uO xs d with⟨h1,h2⟩|⟨L,x,R,h1,h2,h3,h4⟩
   .exact .inl ⟨h1,λx hx=>(cD.1 hx).elim (λe=>e▸h) (h2 x)⟩
   .exact .inr ⟨a::L,x,R,by rw[h1];rfl,λy hy=>(cD.1 hy).elim (λe=>e▸h) (h2 y),h3,h4⟩
  .refine .inr ⟨[],a,xs,rfl,λy hy=>(by cases hy),h,?_⟩;unfold fp;rw[iY,gd,gW];simp only[h,Bool.not_false,ne_eq,not_false_eq_true,decide_true,Bool.and_self,if_true];exact stay xs a
def DA(d:Fd):∀(xs:List Fd) (a:Fd),∃L x R,xs++[a]=L++x::R/\fp jb (xs++[a]) d=(x,true)/\(∀y∈L,x.b.QI<=y.b.QI)/\∀y∈R,x.b.QI<y.b.QI:=by
 suffices key:∀n (xs:List Fd) (a:Fd),xs.length=n->∃L x R,xs++[a]=L++x::R/\fp jb (xs++[a]) d=(x,true)/\(∀y∈L,x.b.QI<=y.b.QI)/\∀y∈R,x.b.QI<y.b.QI from
  λxs a=>key _ xs a rfl
 intro n
 induction n with
 |zero=>
  intro xs a h;obtain rfl:=MT.1 h;exact⟨[],a,[],rfl,by simp[fp,gd,jb],λy h=>(by cases h),λy h=>by cases h⟩
 |succ n ih=>
  intro xs a h;rcases List.eq_nil_or_concat xs with rfl|⟨ys,z,rfl⟩
  .cases h
  .rw[List.concat_eq_append]at h|-;obtain⟨L,x,R,h1,h2,h3,h4⟩:=ih ys z (by simpa using h);rw[sD,h2];unfold gd jb;by_cases hr:a.b.QI<=x.b.QI
   .refine⟨ys++[z],a,[],rfl,by simp[hr],λy hy=>?_,λy hy=>by cases hy⟩;rw[h1]at hy;rcases dM.1 hy with hy|hy
    .have:=h3 y hy;omega
    .rcases cD.1 hy with rfl|hy
     .exact hr
     .have:=h4 y hy;omega
   .refine⟨L,x,R++[a],by rw[h1];simp,by simp[hr],h3,λy hy=>?_⟩;rcases dM.1 hy with hy|hy
    .exact h4 y hy
    .rw[iM.1 hy];omega
def wM{b:List Sb}{fr to:Int}{L R:List Fd}{x:Fd}(h:(Wo b fr to).map (mf b)=L++x::R):
 ∃c:Nat,x=mf b c/\max fr 0<=c/\c<max fr 0+vg b fr to/\(∀k:Nat,max fr 0<=k->k<c->mf b k∈L)/\∀k:Nat,c<k->k<max fr 0+vg b fr to->mf b k∈R:=by
 have hlen:=congrArg List.length h;simp only[Wo,cL,List.length_range',fB,Rc]at hlen;have QG:∀k:Nat,max fr 0<=k->k<max fr 0+vg b fr to->(L++x::R)[k-(max fr 0).toNat]?=some (mf b k):=λk h1 h2=>by
  rw[<-h,Wo,l3,List.getElem?_range' (by omega)];simp only[Option.map_some,Nat.one_mul];rw[show(max fr 0).toNat+(k-(max fr 0).toNat)=k by omega]
 refine⟨(max fr 0).toNat+L.length,?_,by omega,by omega,λk h1 h2=>?_,λk h1 h2=>?_⟩
 .have:=QG ((max fr 0).toNat+L.length) (by omega) (by omega);rw[show(max fr 0).toNat+L.length-(max fr 0).toNat=L.length by omega]at this;simpa using this
 .have:=QG k h1 (by omega);rw[E7 (by omega)]at this;exact oe this
 .have:=QG k (by omega) (by omega);rw[Er (by omega),show k-(max fr 0).toNat-L.length=(k-((max fr 0).toNat+L.length)-1)+1 by omega,Du]at this;exact oe this
def GZ{b:List Sb}{i fit:Int}(h:fQ b i fit)(hf:fit<=(b.length:Int)-1):
 ∃c:Nat,vx b i fit=c/\i<c/\(c:Int)<=fit/\∀k:Nat,i<k->(k:Int)<=fit->(k<c->(Tj b k).forced=0)/\((Tj b c).forced=0->k≠c->(Tj b k).forced=0/\(Tj b c).QI<=(Tj b k).QI/\(c<k->(Tj b k).QI≠(Tj b c).QI)):=by
 obtain⟨_,h1,h2,h3⟩:=h;have hn:max (i+1) 0=i+1:=by omega
 have hb:vg b (i+1) fit=(fit-i).toNat:=by unfold vg;omega
 unfold vx lC ET;rcases uO ((Wo b (i+1) fit).map (mf b)) AZ with⟨e,hz⟩|⟨L,x,R,e1,e2,e3,e4⟩
 .rw[e,aE (show AZ.i<0 by decide)];have hz':∀k:Nat,i<k->(k:Int)<=fit->(Tj b k).forced=0:=λk g1 g2=>by
   refine hz (mf b k) (eI.2 ⟨k,?_,rfl⟩);rw[Wo,List.mem_range'_1];omega
  have PZ:(Wo b (i+1) fit).map (mf b)≠[]:=λe=>by
   have:=congrArg List.length e;simp[Wo,hb]at this;omega
  rcases List.eq_nil_or_concat ((Wo b (i+1) fit).map (mf b))with e|⟨ys,z,e⟩
  .exact absurd e PZ
  .rw[List.concat_eq_append]at e;obtain⟨L,x,R,f1,f2,f3,f4⟩:=DA AZ ys z;rw[<-e]at f1 f2;obtain⟨c,rfl,g1,g2,g3,g4⟩:=wM f1;rw[f2];refine⟨c,rfl,by omega,by omega,λk k1 k2=>⟨λ_=>hz' k k1 k2,λ_ hk=>⟨hz' k k1 k2,?_,λC'=>?_⟩⟩⟩
   .rcases Nat.lt_or_gt_of_ne hk with hk|hk
    .exact f3 _ (g3 k (by omega) hk)
    .exact Int.le_of_lt (f4 _ (g4 k hk (by omega)))
   .have:=f4 _ (g4 k C' (by omega));exact λe=>by simp only[mf]at this;omega
 .obtain⟨c,rfl,g1,g2,g3,g4⟩:=wM e1;rw[e4,aF (show¬(mf b c).i<0 from λh=>by simp only[mf]at h;omega)];exact⟨c,rfl,by omega,by omega,λk k1 k2=>⟨λhk=>e2 _ (g3 k (by omega) hk),λhc=>absurd hc e3⟩⟩
inductive sc(b:Bk)(s t:Q6)(fs:List Qk)(top body:Int):Prop
 |more (h1:t.atom=s.atom) (h2:fs.length=1) (h3:iP b.atoms s>body) (h4:∀f,fs[0]?=some f->f.h=body) (h5:t.done=s.done+body)
 |whole (c r:Nat) (y:Int) (h1:t=⟨c,0,decide ((Tj b.Qi c).forced≠0)⟩) (h2:s.atom<c) (h3:c<=r) (h4:r<=b.atoms.length) (h5:fs.length+s.atom=c) (h6:∀f,fs[0]?=some f->f.y=top+y)
    (h7:∀k (h:k<b.atoms.length),s.atom<=k->k<r->(if s.atom<k then y+(b.atoms[k].y-(Rx b.atoms s.atom).y-s.done)else y)+(if k=s.atom then iP b.atoms s else b.atoms[k].h)<=body)
    (h8:∀(h:r<b.atoms.length),(if s.atom<r then y+(b.atoms[r].y-(Rx b.atoms s.atom).y-s.done)else y)+(if r=s.atom then iP b.atoms s else b.atoms[r].h)>body)
    (h9:∀k:Nat,s.atom<k->k<=r->(k<c->(Tj b.Qi k).forced=0)/\((Tj b.Qi c).forced=0->k≠c->(Tj b.Qi k).forced=0/\(Tj b.Qi c).QI<=(Tj b.Qi k).QI/\(c<k->(Tj b.Qi k).QI≠(Tj b.Qi c).QI)))
structure Ez(b:Bk)(x:Wx)(fs:List Qk)(t:Q6):Prop where
 ne:0<fs.length
 fin:Ve x.high (x.high+x.body) fs
 fst:∀f,fs[0]?=some f->f.atom=x.s.atom/\f.fr=x.s.done
 cut:sc b x.s t fs x.high x.body
structure ei(b:Bk):Prop extends BkFull b where
 Sg:b.atoms.Pairwise λx y=>x.y+x.h<=y.y
 pos:∀a∈b.atoms,1<=a.h
 top:∀a∈b.atoms,0<=a.y
 mayb:vd b.Qi=true
 fh:∀f∈b.PX,0<=f.h
 fy:∀f∈b.PX,0<=f.y
def Bg{b:Bk}(hb:ei b)(k:Int):0<=nH b.atoms k:=by
 unfold nH;split
 .rename_i h;obtain⟨n,rfl⟩:∃n:Nat,k=n:=⟨k.toNat,by omega⟩
  have hn:n<b.atoms.length:=by omega
  rw[bn hn];unfold gK;split
  .rename_i h2;have e:(n:Int)-1=((n-1:Nat):Int):=by omega
   rw[e,bn (by omega)];have:=xQ hb.Sg (show n-1<n by omega) hn;omega
  .have:=hb.top _ (QF hn);omega
 .exact Int.le_refl _
def C4{b:Bk}(hb:ei b){x:Wx}(hm:dS b.atoms x.s)(hx:x.fs=[])
 (UC:1<=x.body)(Tp:0<=x.shift)(VS:¬(x.shift>0/\iP b.atoms x.s>x.body-x.shift)):Ez b x (eD b x).fs (fv b x).s:=by
 have hk:=hb.Sg;have QQ:=hb.pos;have Ul:=hb.mayb;obtain⟨r,hr,YL,VA,Yi,hr4⟩:=BF hk QQ hm (ec b x) x.shift x.body;have U1:=hm;obtain⟨⟨h0,h1⟩,h2,h3⟩:=hm;obtain⟨a,ha⟩:∃a:Nat,x.s.atom=a:=⟨x.s.atom.toNat,by omega⟩
 have R8:a<b.atoms.length:=by omega
 have XZ:Rx b.atoms x.s.atom=b.atoms[a]:=by rw[ha,bn R8]
 have hpa:=QQ _ (QF R8);have Q0:=hb.brk;have Vf:iP b.atoms x.s=b.atoms[a].h-x.s.done:=by rw[iP,aE U1,XZ]
 rw[XZ]at h3;have hl0:1<=iP b.atoms x.s:=by rw[Vf];omega
 have Uc:∀kept sh k (h:k<b.atoms.length),a<=k->dK b.atoms x.s kept sh k=b.atoms[k].y-b.atoms[a].y-x.s.done+kept+sh:=λkept sh k h hak=>by
  rw[dK,aE ⟨U1,by omega,by omega⟩,gx,aE ⟨⟨h0,h1⟩,by omega,by omega⟩,XZ,bn h]
 have Zw:ec b x=0\/0<=ec b x/\x.s.done=0/\ec b x+iP b.atoms x.s<=x.body-x.shift:=by
  unfold ec pE;split
  .rename_i hc;obtain⟨_,_,hd,hg⟩:=hc;rw[Vf];rw[XZ]at hg;exact .inr ⟨Bg hb _,hd,hg⟩
  .exact .inl rfl
 have hrX:ez b x=r:=hr;unfold eD fv;by_cases P4:fQ b.Qi x.s.atom (ez b x)
 .rw[aE P4,aE P4];obtain⟨c,c1,c2,c3,c4⟩:=GZ P4 (by rw[hrX];omega);rw[show ye b x=c from c1,eL];rw[hrX]at c3 c4;have hlen:(cu b { x with kind:=1 } (ec b x) (c-x.s.atom.toNat)).length=c-a:=by
   rw[cu,cL,List.length_range,ha,eL]
  have Rr:(sL b { x with kind:=1 } (ec b x) c).fs=cu b { x with kind:=1 } (ec b x) (c-x.s.atom.toNat):=by
   simp only[sL,Wx.put,Wx.add,hx,jU]
  have RF:∀i (h:i<c-a),(cu b { x with kind:=1 } (ec b x) (c-x.s.atom.toNat))[i]?=some (cH x.high (dC b.atoms x.s (ec b x) x.shift ((a+i:Nat):Int))):=λi h=>by
   rw[cu,l3,List.getElem?_range (by rw[ha];omega),Option.map_some,ha];rfl
  have hwh:∀k (h:k<b.atoms.length),a<=k->(dC b.atoms x.s (ec b x) x.shift k).y=dK b.atoms x.s (ec b x) x.shift k+(if k=a then x.s.done else 0)/\(dC b.atoms x.s (ec b x) x.shift k).h=b.atoms[k].h-(if k=a then x.s.done else 0)/\(dC b.atoms x.s (ec b x) x.shift k).atom=k/\(dC b.atoms x.s (ec b x) x.shift k).fr=if k=a then x.s.done else 0:=λk h hak=>by
   rw[dC,aE ⟨U1,by omega,by omega⟩];by_cases e:k=a
   .rw[aE (by omega),aE e];simp only[Qk.bQ,lM,gb,bn h];exact⟨trivial,trivial,trivial,trivial⟩
   .rw[aF (by omega),aF e];simp only[lM,gb,bn h];exact⟨(Int.add_zero _).symm,(Int.sub_zero _).symm,trivial,trivial⟩
  have Vq:(cu b { x with kind:=1 } (ec b x) (c-x.s.atom.toNat))[0]?=some (cH x.high (dC b.atoms x.s (ec b x) x.shift ((a:Nat):Int))):=RF 0 (by omega);obtain⟨w1,w2,w3,w4⟩:=hwh a R8 (Qh _);rw[aE rfl]at w1 w2 w4;have hpa0:=Uc (ec b x) x.shift a R8 (Qh _);have TP:0<=ec b x:=by rcases Zw with h|h<;>omega
  refine⟨by rw[Rr,hlen];omega,λf hf=>?_,λf hf=>?_,?_⟩
  .rw[Rr]at hf;obtain⟨i,hi⟩:=IY hf;have RR:i<c-a:=by
    rw[<-hlen];exact(mL.1 hi).1
   rw[RF i RR]at hi;obtain rfl:=Option.some.inj hi;obtain⟨v1,v2,-,-⟩:=hwh (a+i) (by omega) (by omega);have hpl':=Uc (ec b x) x.shift (a+i) (by omega) (by omega);have Rj:=Yi (a+i) (by omega) (by omega) (by omega);have hph:=QQ _ (QF (show a+i<b.atoms.length by omega));simp only[cH];rw[v1,v2];rw[hpl']at Rj|-;by_cases e:i=0
   .subst e;simp only[Nat.add_zero,if_true]at Rj|-;omega
   .rw[aF (by omega)];have P8:=xQ hk (show a<a+i by omega) (by omega);omega
  .rw[Rr,Vq]at hf;obtain rfl:=Option.some.inj hf;simp only[cH];rw[w3,w4];exact⟨ha.symm,rfl⟩
  .refine .whole c r (ec b x+x.shift) rfl c2 (by omega) VA (by rw[Rr,hlen];omega) (λf hf=>?_) (λk h h1 h2=>?_) (λh=>?_) (λk h1 h2=>c4 k h1 (by omega))
   .rw[Rr,Vq]at hf;obtain rfl:=Option.some.inj hf;simp only[cH];rw[w1,hpa0];omega
   .have:=Yi k h h1 h2;rw[Uc _ _ k h (by omega)]at this;rw[XZ];by_cases e:(k:Int)=x.s.atom
    .obtain rfl:k=a:=by omega
     rw[aF (by omega),aE e,Vf];omega
    .rw[aE (by omega),aF e];omega
   .have:=hr4 h;rw[Uc _ _ r h (by omega)]at this;rw[XZ];by_cases e:(r:Int)=x.s.atom
    .obtain rfl:r=a:=by omega
     rw[aF (by omega),aE e,Vf];omega
    .rw[aE (by omega),aF e];omega
 .rw[aF P4,aF P4];have hra:r=a:=by
   have:¬x.s.atom<ez b x:=λh=>P4 ⟨Ul,h0,by omega,h⟩;omega
  have hgt:=hr4 (by omega);subst hra;rw[Uc _ _ r R8 (Qh _)]at hgt;have TP:ec b x=0/\x.shift=0:=by
   rw[Vf]at Zw VS;rcases Zw with h|h<;>omega
  have Zi:qj b.atoms ({ x with kind:=1 }:Wx).s ({ x with kind:=1 }:Wx).body:=⟨U1,UC⟩
  have Rr:(tW b { x with kind:=1 }).fs=[cH x.high (jD b.atoms x.s x.body)]:=by
   simp only[tW,Wx.put,Wx.add,hx,jU]
  have Ty:jD b.atoms x.s x.body=⟨b.atoms[r].node,x.s.atom,x.s.done,b.atoms[r].x,0,b.atoms[r].w,x.body⟩:=by
   rw[jD,aE (show qj b.atoms x.s x.body from Zi),fE];simp only[Qk.cut,Qk.bQ,gb,XZ];congr 1;omega
  have hnx:eX b.atoms x.s x.body=⟨x.s.atom,x.s.done+x.body,false⟩:=by
   rw[eX,aE (show qj b.atoms x.s x.body from Zi)];rw[jD,aE (show qj b.atoms x.s x.body from Zi)]at Ty;rw[Ty];simp only[jZ,XZ];rw[aE (by omega)]
  rw[Ty]at Rr;refine⟨by rw[Rr];exact Nat.one_pos,λf hf=>?_,λf hf=>?_,.more ?_ (by rw[Rr];rfl) (by rw[Vf];omega) (λf hf=>?_) ?_⟩
  .rw[Rr,iM]at hf;subst hf;simp only[cH];omega
  .rw[Rr]at hf;obtain rfl:=Option.some.inj hf;exact⟨rfl,rfl⟩
  .show(eX b.atoms x.s x.body).atom=_;rw[hnx]
  .rw[Rr]at hf;obtain rfl:=Option.some.inj hf;rfl
  .show(eX b.atoms x.s x.body).done=_;rw[hnx]
def N7(s t:RH)(n:Int):Prop:=t.s.atom>s.s.atom\/t.s.atom=s.s.atom/\t.s.done>s.s.done\/t.s.atom=s.s.atom/\t.s.done=s.s.done/\(t.bV.length<s.bV.length\/t.s.atom=n/\t.s.free=false)
structure Fa(b:Bk)(s:RH)(p:Q7)(t:RH):Prop where
 no:p.no=0
 onw:N7 s t b.atoms.length
 sum:(p.hs.map (·.h)).sum=(bG b s.s).high
 hd:Ve 0 (bG b s.s).high p.hs
 fl:Ve (bG b s.s).high b.h p.fs
 lo:Ve (bG b s.s).high b.h p.ls
 kd:p.kind=1\/p.kind=2
 no':p.kind=2->p.fs=[]
 cut:p.kind=1->dS b.atoms s.s/\0<p.fs.length/\(∀f,p.fs[0]?=some f->f.atom=s.s.atom/\f.fr=s.s.done)/\sc b s.s t.s p.fs (bG b s.s).high (bG b s.s).body
def Gn{α:Type}{p:α->Bool}:∀(l:List α),∀x∈l.takeWhile p,p x=true
 |[],x,h=>by cases h
 |a::l,x,h=>by
  rw[List.takeWhile_cons]at h;split at h
  .rename_i ha;rcases cD.1 h with rfl|h
   .exact ha
   .exact Gn l x h
  .cases h
def Gp{b:Bk}(hb:ei b){x:Wx}(Tp:0<=x.shift)(h:Ve x.high (x.high+x.body) x.ls):Ve x.high (x.high+x.body) (eD b x).ls:=by
 unfold eD;split
 .exact xq h (xp (AU hb.fh Tp))
 .exact xq h (xp (AU hb.fh (Int.le_refl _)))
def kf(b:Bk)(x:Wx):(eD b x).hs=x.hs/\(eD b x).kind=1:=by
 unfold eD;split<;>exact⟨rfl,rfl⟩
def kL{b:Bk}(hb:ei b){s:RH}(he:¬fC b s):Fa b s (bP b s).1 (bP b s).2:=by
 have Qu:iT b s:=Decidable.byContradiction λh=>he (.inl h);have WM:¬(s.s.atom=b.atoms.length/\s.s.free=false/\s.bV=[]):=λh=>he (.inr h);have RF:0<=s.s.atom:=by rcases Qu.2 with h|h;exact h.1.1;omega
 obtain⟨r1,r2,r3,r4,r5⟩:=tU hb.toBkFull s.s RF;have hpf:∀f∈s.bV,0<=f.h:=λf hf=>hb.fh f (mY _ _ Qu.1 f hf);have V3:Ve (bG b s.s).high ((bG b s.s).high+(bG b s.s).body) ((eg (bG b s.s).body s.bV 0).1.map (pn (bG b s.s).high)):=xp (Cw (by omega) _ 0 (Int.le_refl _) (by omega) hpf);have Tp:=(so (body:=(bG b s.s).body) s.bV 0 (Int.le_refl _) (by omega) hpf).2.2;unfold bP;split
 .rename_i h0;obtain⟨h1,h2⟩:=h0;have hn:s.s.atom=0/\s.s.done=0:=by
   rcases Qu.2 with h|h
   .have:=h.1;rw[h1]at this;simp at this;omega
   .rw[h1]at h;simpa using h
  have hrv:bG b s.s=⟨[],0,b.h⟩:=by rw[bG,aE h1]
  refine⟨rfl,.inr (.inr ⟨?_,?_,.inr ⟨?_,rfl⟩⟩),r5,r4,λf hf=>(by cases hf),?_,.inr rfl,λ_=>rfl,λh=>?_⟩
  .simp[nX,hn]
  .simp[nX,hn]
  .simp[nX,h1]
  .rw[<-r3];refine xp (high:=(bG b s.s).high) (body:=(bG b s.s).body) λm hm=>?_;have h4:m.y+m.h<=(bG b s.s).body:=of_decide_eq_true (Gn _ m hm);have h5:m∈b.PX:=(List.takeWhile_sublist _).mem hm;exact⟨hb.fy m h5,hb.fh m h5,h4⟩
  .exact absurd h (show¬((2:Int)=1) by decide)
 .split
  .rename_i hf;refine⟨rfl,?_,r5,r4,λf hf=>(by cases hf),by rw[<-r3];exact V3,.inr rfl,λ_=>rfl,λh=>absurd h (show¬((2:Int)=1) by decide)⟩;refine .inr (.inr ⟨rfl,rfl,?_⟩);cases hp:s.bV with
   |cons f r=>exact .inl (qh f r)
   |nil=>
    unfold pG at hf;rw[hp]at hf;simp only[eg]at hf;have ha:s.s.atom=b.atoms.length:=by
     rcases hf with h|h|h
     .exact h
     .exact absurd rfl h
     .omega
    exact .inr ⟨ha,by simp[ha]⟩
  .rename_i hf;have hm:dS b.atoms s.s:=Qu.2.resolve_right λh=>hf (.inl h.1);have ZV:=pZ (x:=dr b s) hb.toBkOk hm hb.pos r2;have hfg:=C4 hb (x:=dr b s) hm rfl r2 Tp.1 (λh=>hf (.inr (.inr h)));have hls:=Gp hb (x:=dr b s) Tp.1 (xq (l:=[]) (λf hf=>(by cases hf)) V3);have hoth:=kf b (dr b s);have xs:(dr b s).s=s.s:=rfl;have xh:(dr b s).high=(bG b s.s).high:=rfl;have xb:(dr b s).body=(bG b s.s).body:=rfl;rw[xh,xb,r3]at hls;obtain⟨f1,f2,f3,f4⟩:=hfg;rw[xh,xb]at f2 f4;rw[r3]at f2;refine⟨rfl,?_,?_,?_,f2,hls,.inl hoth.2,λh=>?_,λ_=>⟨hm,f1,f3,f4⟩⟩
   .generalize fv b (dr b s)=z at ZV;cases ZV with
    |whole c fr p g1 g2 g3=>exact .inl g1
    |more d p g1 g2 g3=>exact .inr (.inl ⟨rfl,g1⟩)
   .show((eD b (dr b s)).hs.map _).sum=_;rw[hoth.1];exact r5
   .show Ve _ _ (eD b (dr b s)).hs;rw[hoth.1];exact r4
   .have:(eD b (dr b s)).kind=2:=h;rw[hoth.2]at this;cases this
def wC{l:List Nd}(hl:eY l){w h:Int}(he:jJ l w h=0):ei (gv l w h):=by
 obtain⟨hw,hh,hc⟩:=kU he;obtain⟨RZ,hn,hwo,ZI⟩:=qd hc;have hG:=xF RZ hn hw.1 hw.2;obtain⟨h1,h2⟩:=DM hl he;refine⟨h1,HU RZ hn hw.1 hw.2,λa ha=>(hG.at' a ha).h0,λa ha=>(hG.at' a ha).y0,?_,h2,λf hf=>(hG.W4 f hf).y0⟩;show vd (rQ l (Zv l w))=true;refine HE RZ λx hx=>?_;unfold Zv at hx;obtain⟨a,ha,rfl⟩:=eI.1 hx;exact hG.nod a ha
end Go.Vc

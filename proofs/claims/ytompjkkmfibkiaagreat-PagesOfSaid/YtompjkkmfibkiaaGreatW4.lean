import Derived.Test.YtompjkkmfibkiaaGreatW3
import Derived.Attr
import Derived.Laws.RangeString
import Derived.Laws.Runes
set_option linter.all false
set_option maxHeartbeats 8000000
set_option maxRecDepth 100000
open Go.Proofs.Tryz
namespace Go.Vc
variable {P:Program} {n:Nat} {st:St} {Q:St->Prop} {k:List It}
def wq(l:List Nat)(s:Nat->V):Nat->V:=λi=>if l.contains i then s i else .undef
def ag.freeze{s:Nat->V}{U:ad}{todo:List It}(l:List Nat)(d id off len:Nat){ob:Ob}{Z':ad}(h:aa Z' U)(ho:U id=some ob)(M':Z' id=none)
 (hs:s d=.own id off len)(hl:off+len<=ob.rows.length)
 (hr:ag P n todo ⟨λi=>if i=d then .sl ob.sz ((ob.rows.drop off).take len)else wq l s i,Z'⟩ Q):ag P n todo ⟨s,U⟩ Q:=by
 refine ag.weaken ⟨h,λi=>?_⟩ hr;show Wk U Z' (s i) _;by_cases hi:i=d
 .simp only[hi,if_true];rw[hs];exact Wk.own h ho M' hl
 .simp only[hi,if_false];unfold wq;split
  .exact Wk.refl h _
  .exact Wk.undef _
def AQ(l:List Nat)(s:Nat->V)(i:Nat):wq l s i=if l.contains i then s i else .undef:=rfl
def mix(m:Nat)(a b:Nat->V):Nat->V:=λi=>if i<m then a i else b i
def EC(m:Nat)(a b:Nat->V)(i:Nat):mix m a b i=if i<m then a i else b i:=rfl
def JQ(m:Nat)(s:Nat->V):mix m s s=s:=by funext i;simp[mix]
def qw(s:Nat->V)(v:V):aO s none v=s:=rfl
def EH{m d:Nat}(h:d<m)(a b:Nat->V)(v:V):aO (mix m a b) (some d) v=mix m (aO a (some d) v) b:=by
 funext i;simp only[aO,mix];split
 .rename_i e;subst e;simp[h]
 .split<;>rfl
def Fe{m d:Nat}(h:m<=d)(a b:Nat->V)(v:V):aO (mix m a b) (some d) v=mix m a (aO b (some d) v):=by
 funext i;simp only[aO,mix];split
 .rename_i e;subst e;simp[Nat.not_lt.2 h]
 .split<;>rfl
def ag.mix(m:Nat){todo:List It}{s:Nat->V}{U:ad}(h:ag P n todo ⟨Vc.mix m s s,U⟩ Q):ag P n todo ⟨s,U⟩ Q:=by
 rw[JQ]at h;exact h
def qU{s:Nat->V}{U:ad}{agg:Bool}{sz d:Nat}{Post:V->ad->Prop}:
 Ret [.cell agg sz (.t d)] ⟨s,U⟩ Post=ed (bO U agg sz (s d)) λv=>ai v U Post:=by
 unfold Ret ai oT;simp only[fq,iy,VX.ev];cases bO U agg sz (s d)<;>simp[ed]
def rm{s:Nat->V}{U:ad}{agg:Bool}{sz d e:Nat}{Post:V->ad->Prop}:
 Ret [.cell agg sz (.t d),.tmp (.t e)] ⟨s,U⟩ Post=ed (bO U agg sz (s d)) λv=>ai (.WC [v,s e]) U Post:=by
 unfold Ret ai oT;simp only[fq,iy,VX.ev];cases bO U agg sz (s d)<;>simp[ed]
def aa.ao{Z0 U:ad}{id:Nat}{o:Ob}(h:aa Z0 U)(M':Z0 id=none):aa Z0 (Vc.C' U id o):=λi x hx=>by
 have WZ:i≠id:=λe=>by rw[e,M']at hx;cases hx
 rw[ab WZ];exact h i x hx
def aa.none{a b:ad}(h:aa a b){i:Nat}(hi:b i=none):a i=none:=by
 cases ha:a i with
 |none=>rfl
 |some o=>rw[h i o ha]at hi;cases hi
def aQ{U:ad}{i j:Nat}{o:Ob}(h:U i=some o)(hj:U j=none):i≠j:=by rintro rfl;rw[h]at hj;cases hj
def aj{O:Yi P}{f:Nat}{d:Option Nat}{l:List aC}{v:Nat->V}{ob:Ob}{s:Nat->V}{U:ad}
 (h:∀id Z',aa U Z'->Z' id=some ob->U id=none->step P O n f (.r (.ops l::k)) ⟨aO s d (v id),Z'⟩ Q):
 Gq P O n f l k d ⟨s,U⟩ Q (some λid=>(v id,Vc.C' U id ob)):=by
 rw[bh];exact λid M'=>h id _ ((aa.refl U).C' M') af M'
def al{P:Program}{n:Nat}{Q:St->Prop}{k}{O:Yi P}{f:Nat}{d:Option Nat}{l:List aC}{v:Nat->V}{ob:Ob}{s:Nat->V}{U K:ad}(hs:aa K U)(h:∀id Z1,aa U Z1->Z1 id=some ob->U id=none->K id=none->aa K Z1->step P O n f (.r (.ops l::k)) ⟨aO s d (v id),Z1⟩ Q):Gq P O n f l k d ⟨s,U⟩ Q (some λid=>(v id,Vc.C' U id ob)):=aj λid Z1 s1 a1 f1=>h id Z1 s1 a1 f1 (hs.none f1) (hs.trans s1)
def bF{O:Yi P}{f:Nat}{d:Option Nat}{l:List aC}{v:Nat->V}{ob:Ob}{s:Nat->V}{U:ad}
 (h:∀id Z',aa U Z'->Z' id=some ob->U id=none->step P O n f (.d l k) ⟨aO s d (v id),Z'⟩ Q):
 Gt P O n f l k d ⟨s,U⟩ Q (some λid=>(v id,Vc.C' U id ob)):=by
 rw[dM];exact λid M'=>h id _ ((aa.refl U).C' M') af M'
def vS{P:Program}{n:Nat}{Q:St->Prop}{k}{O:Yi P}{f:Nat}{d:Option Nat}{l:List aC}{v:Nat->V}{ob:Ob}{s:Nat->V}{U K:ad}(hs:aa K U)(h:∀id Z1,aa U Z1->Z1 id=some ob->U id=none->K id=none->aa K Z1->step P O n f (.d l k) ⟨aO s d (v id),Z1⟩ Q):Gt P O n f l k d ⟨s,U⟩ Q (some λid=>(v id,Vc.C' U id ob)):=bF λid Z1 s1 a1 f1=>h id Z1 s1 a1 f1 (hs.none f1) (hs.trans s1)
def jY{O:Yi P}{f:Nat}(t:Bool)(a b:bN):cR P O n f (.bool t) a b k st Q=((t=true->step P O n f (.r (.code a::k)) st Q)/\(t=false->step P O n f (.r (.code b::k)) st Q)):=by
 cases t<;>simp[cR,dY,both]
def ag.I5{i:aC}{l:List aC}{fx:VX}{xs:List VX}{s:Nat->V}{U:ad}{f:FuncId}{caps:List V}{v:V}(hw:bg s i.g=some true)(ho:i.op=.call fx xs)
 (hf:fx.ev s=.fn f caps)(hc:av P f (xs.map (·.ev s)++caps) U λr Z'=>r=v/\Z'=U)(h:ag P n (.ops l::k) ⟨aO s i.dst v,U⟩ Q):
 ag P n (.ops (i::l)::k) ⟨s,U⟩ Q:=by
 refine ag.call hw ho hf hc ?_;rintro r Z' ⟨rfl,rfl⟩;exact h
def BE(op:BinOp)(k:IntKind)(a b:Int):xP op (.int k a) (.int k b)=dT op k a b:=by simp[xP]
def AV(op:BinOp)(a b:List UInt8):xP op (.str a) (.str b)=p7 op a b:=rfl
def xq(op:BinOp)(k k':IntKind)(a b:Int):pQ op (.int k a) (.int k' b)=gW op k a b:=rfl
def w8(op:BinOp)(a b:List UInt8):pQ op (.str a) (.str b)=vq op a b:=rfl
def AZ(id off n:Nat):dv false (.own id off n)=some (.int .i64 n):=rfl
def EM(sz:Nat)(rows:List V):dv false (.sl sz rows)=some (.int .i64 rows.length):=rfl
def yd:dv false .aB=some (.int .i64 0):=rfl
def A4(s:List UInt8):dv true (.str s)=some (.int .i64 s.length):=rfl
def yU(U:ad)(YY id off len:Nat)(k:IntKind)(j:Int):bp U YY (.own id off len) (.int k j)=match U id with
 |some ob=>if ob.sz=YY/\0<=j/\j<len then some (.ptr id (off+j.toNat) 0)else none
 |none=>none:=rfl
def x7(U:ad)(agg:Bool)(sz id i k:Nat):bO U agg sz (.ptr id i k)=match U id with
 |some ob=>match ob.rows[i]? with
  |some r=>if agg then(if k=0/\r.cells.length=sz then some (.agg r.cells)else if k+sz<=r.cells.length then some (.agg ((r.cells.drop k).take sz))else none)
     else r.cells[k]?
  |none=>none
 |none=>none:=rfl
def rk(U:ad)(sz:Nat)(vs:List V):bO U true sz (.rp (.agg vs))=if vs.length=sz then some (.agg vs)else none:=rfl
def qR(U:ad)(sz:Nat)(k:IntKind)(j:Int):bO U false sz (.rp (.int k j))=some (.int k j):=rfl
def Reads(U:ad)(sz:Nat)(agg:Bool)(sv:V)(rows:List V):Prop:=
 dv false sv=some (.int .i64 rows.length)/\∀(i:Nat) v,rows[i]?=some v->∃p,bp U sz sv (.int .i64 i)=some p/\bO U agg sz p=some v
def Reads.ints{U:ad}{l:List Int}:Reads U 1 false (.sl 1 (l.map (.int .i64 ·))) (l.map (.int .i64 ·)):=by
 refine⟨rfl,λi v hv=>?_⟩;obtain⟨n,hn,rfl⟩:∃n,l[i]?=some n/\v=.int .i64 n:=by
  rw[xc]at hv;cases h:l[i]? with
  |none=>simp[h]at hv
  |some n=>simp[h]at hv;exact⟨n,rfl,hv.symm⟩
 refine⟨.rp (.int .i64 n),?_,rfl⟩;simp[bp,hn]
def Reads.own{U:ad}{sz id off len:Nat}{ob:Ob}(ho:U id=some ob)(hs:ob.sz=sz)(hl:off+len<=ob.rows.length)(h1:∀r∈ob.rows,r.cells=[r]):
 Reads U sz false (.own id off len) ((ob.rows.drop off).take len):=by
 refine⟨by simp[dv];omega,λi v hv=>?_⟩;have hi:i<len:=by
  have:=(oR.1 hv).1;simp at this;omega
 have hv':ob.rows[off+i]?=some v:=by
  rw[List.getElem?_take,ak hi,M6]at hv;exact hv
 refine⟨.ptr id (off+i) 0,?_,?_⟩
 .simp[bp,ho,hs,hi]
 .simp[bO,ho,hv',h1 v (xB hv')]
def ae{m:Int}(h1:-9223372036854775808<=m:=by omega)(h2:m<=9223372036854775807:=by omega):WI .i64 m:=by
 unfold WI;rw[IntKind.wrap_i64];omega
def rI(i:Int)(h:-9223372036854775809<=i:=by omega)(h2:i<9223372036854775807:=by omega):WI .i64 (i+1):=ae
mutual
/-- no row's number in it -/
def V.fw:V->Bool
 |.own ..|.ptr ..|.yl _=>false
 |.sl _ rows=>gU rows
 |.rp v=>v.fw
 |.fn _ caps=>gU caps
 |.bm _ caps=>gU caps
 |.iface _ v=>v.fw
 |.agg c|.WC c=>gU c
 |_=>true
def gU:List V->Bool
 |[]=>true
 |v::vs=>v.fw&&gU vs
end
def av.GW{P:Program}{f:FuncId}{args:List V}{U:ad}{Post Post':V->ad->Prop}(h:av P f args U Post)
 (hp:∀r Z',Post r Z'->ai r Z' Post'):av P f args U Post':=⟨h.1,λI w WL hs hr=>(h.2 I w WL hs hr).mono λe w' ⟨r,Z',Y',val,h1,h2,h3,h4,h5⟩=>by
 obtain⟨v',Z'',g1,g2,g3⟩:=hp r Z' h2;exact⟨v',Z'',Y',val,h1,g3,h3,h4.drop g1,g2 Y' _ _ _ _ h4 h5⟩⟩
mutual
/-- the same,with each row of its own as one that is only read -/
inductive Fz(U:ad)(N:Nat->Prop):V->V->Prop
 |same (v:V) (h:v.fw=true):Fz U N v v
 |own (id off len:Nat) (ob:Ob) (rows:List V) (h1:U id=some ob) (h2:N id) (h3:off+len<=ob.rows.length) (h4:Za U N ((ob.rows.drop off).take len) rows):
    Fz U N (.own id off len) (.sl ob.sz rows)
 |nil (sz:Nat):Fz U N .aB (.sl sz [])
 |sl (sz:Nat) (rows WH:List V) (h:Za U N rows WH):Fz U N (.sl sz rows) (.sl sz WH)
 |agg (cs ds:List V) (h:Za U N cs ds):Fz U N (.agg cs) (.agg ds)
 |WC (cs ds:List V) (h:Za U N cs ds):Fz U N (.WC cs) (.WC ds)
 |ptr (id i:Nat) (ob:Ob) (r u:V) (h1:U id=some ob) (h2:N id) (h3:ob.rows[i]?=some r) (h4:Fz U N r u):Fz U N (.ptr id i 0) (.rp u)
 |fn (f:FuncId) (cs ds:List V) (h:Za U N cs ds):Fz U N (.fn f cs) (.fn f ds)
 |bm (f:FuncId) (cs ds:List V) (h:Za U N cs ds):Fz U N (.bm f cs) (.bm f ds)
 |iface (t:TypeId) (v u:V) (h:Fz U N v u):Fz U N (.iface t v) (.iface t u)
inductive Za(U:ad)(N:Nat->Prop):List V->List V->Prop
 |nil:Za U N [] []
 |cons (v u:V) (vs us:List V) (h:Fz U N v u) (h':Za U N vs us):Za U N (v::vs) (u::us)
end
section
variable {U K:ad} {N:Nat->Prop} {I:Mu} {w0 w:World} {XQ:Nat->Prop}
def bw.lift{ow Zw:Nat->Prop}{v u:V}{b off:Nat}(hv:∀cs,v≠.agg cs)(hu:∀cs,u≠.agg cs)(h:∀x,G' I ow w v x->G' I Zw w u x)
 (hr:bw I ow w v b off):bw I Zw w u b off:=by
 have e1:∃x,w.cell? ⟨b,off,none⟩=some x/\G' I ow w v x/\x.oneCell'=true:=by
  cases v<;>first|exact absurd rfl (hv _)|simpa only[bw]using hr
 obtain⟨x,h1,h2,h3⟩:=e1;have e2:∃x,w.cell? ⟨b,off,none⟩=some x/\G' I Zw w u x/\x.oneCell'=true:=⟨x,h1,h x h2,h3⟩
 cases u<;>first|exact absurd rfl (hu _)|simpa only[bw]using e2
mutual
def Fz.down(hs:Sat w0 XQ I U w)(hK:aa K U)(hN:∀id,N id->K id=none):∀{v u:V},Fz U N v u->(∀x,G' I (aA I U) w v x->G' I (aA I K) w u x)/\
 (∀b off,bw I (aA I U) w v b off->bw I (aA I K) w u b off)/\u.cells.length=v.cells.length
 |_,_,.same v h=>⟨λx hr=>G'.mono (dx.refl I) (dp.sub w hK) (Xc _) v x hr,λb off hr=>bw.mono (dx.refl I) (dp.sub w hK) (Xc _) v b off rfl hr,rfl⟩
 |_,_,.own id off len ob rows ho h2 hl h4=>by
  have hd:=Za.down hs hK hN h4;have key:∀x,G' I (aA I U) w (.own id off len) x->G' I (aA I K) w (.sl ob.sz rows) x:=by
   intro x hr;simp only[G']at hr|-;have hlen:rows.length=len:=by rw[hd.2.2.2];simp;omega
   have XL:=hs.obj id ob ho;split at hr
   .exact hr.elim
   .obtain⟨rfl,rfl,rfl⟩:=hr;have:rows=[]:=rf hlen;subst this;exact⟨none,0,by simp,by simp,.inl rfl⟩
   .rename_i b sz cap hb;obtain⟨o,c,rfl,h1,h2',h3,hz⟩:=hr;refine⟨_,c,by rw[hlen],by omega,?_⟩;by_cases h0:len=0
    .left;exact rf (by omega)
    .right;rw[hb]at XL;obtain⟨g1,g2,g3,g4,g5⟩:=XL.rows hz;have ho':o=off*sz:=by
      rcases h3 with h3|h3
      .exact h3
      .omega
     subst ho' g1;refine⟨b,_,rfl,?_,g2,?_⟩
     .rintro⟨YT,ob',sz',YD,e1,e2⟩;have:=hs.inj YT id ob' ob _ _ _ _ _ (hK _ _ e1) ho e2 hb;rw[this,hN id h2]at e1;cases e1
     .have:=(g5.drop off).take len;rw[kf]at this;exact hd.2.2.1 _ _ _ this
  exact⟨key,λb off' hr=>bw.lift (λ_=>by simp) (λ_=>by simp) key hr,rfl⟩
 |_,_,.nil sz=>by
  have key:∀x,G' I (aA I U) w .aB x->G' I (aA I K) w (.sl sz []) x:=λx hr=>by
   simp only[G']at hr|-;exact⟨none,0,by simpa using hr,by simp,.inl trivial⟩
  exact⟨key,λb off' hr=>bw.lift (λ_=>by simp) (λ_=>by simp) key hr,rfl⟩
 |_,_,.sl sz rows WH h=>by
  have hd:=Za.down hs hK hN h;have key:∀x,G' I (aA I U) w (.sl sz rows) x->G' I (aA I K) w (.sl sz WH) x:=λx hr=>by
   simp only[G']at hr|-;obtain⟨a,cap,rfl,h1,h2⟩:=hr;refine⟨a,cap,by rw[hd.2.2.2],by rw[hd.2.2.2];exact h1,?_⟩;rcases h2 with h2|⟨b,off,h3,h4,h5,h6⟩
   .left;have:=hd.2.2.2;rw[h2]at this;exact rf this
   .exact .inr ⟨b,off,h3,λho=>h4 (ho.sub hK),h5,hd.2.2.1 _ _ _ h6⟩
  exact⟨key,λb off' hr=>bw.lift (λ_=>by simp) (λ_=>by simp) key hr,rfl⟩
 |_,_,.agg cs ds h=>by
  have hd:=Za.down hs hK hN h;refine⟨λx hr=>?_,λb off hr=>?_,by simp only[V.cells];exact hd.2.2.2⟩
  .simp only[G']at hr|-;obtain⟨WL,rfl,h1,h2⟩:=hr;exact⟨WL,rfl,hd.1 _ h1,h2⟩
  .simp only[bw]at hr|-;exact hd.2.1 _ _ hr
 |_,_,.WC cs ds h=>by
  have hd:=Za.down hs hK hN h;have key:∀x,G' I (aA I U) w (.WC cs) x->G' I (aA I K) w (.WC ds) x:=λx hr=>by
   simp only[G']at hr|-;obtain⟨WL,rfl,h1⟩:=hr;exact⟨WL,rfl,hd.1 _ h1⟩
  exact⟨key,λb off' hr=>bw.lift (λ_=>by simp) (λ_=>by simp) key hr,rfl⟩
 |_,_,.ptr id i ob r u ho h2 hi h4=>by
  have hd:=Fz.down hs hK hN h4;have key:∀x,G' I (aA I U) w (.ptr id i 0) x->G' I (aA I K) w (.rp u) x:=by
   intro x hr;simp only[G']at hr|-;have XL:=hs.obj id ob ho;split at hr
   .rename_i b sz cap hb;obtain⟨rfl,hz⟩:=hr;rw[hb]at XL;obtain⟨g1,g2,g3,g4,g5⟩:=XL.rows hz;obtain⟨e1,e2⟩:=g5.get hi;rw[kf]at e2;have Xa:¬aA I K b:=by
     rintro⟨YT,ob',sz',YD,e1,e2⟩;have:=hs.inj YT id ob' ob _ _ _ _ _ (hK _ _ e1) ho e2 hb;rw[this,hN id h2]at e1;cases e1
    refine⟨b,i*sz,by simp,?_,.inr Xa,hd.2.1 _ _ ((eo _ _ _ _ _ _).2 e2)⟩;cases hc:r.cells with
    |nil=>rw[hc]at e1;simp at e1;omega
    |cons c cs=>
     rw[hc]at e2;simp only[aK]at e2;obtain⟨⟨y,hy,_⟩,_⟩:=e2;exact World.block_lt_of_cell? w _ hy
   .exact hr.elim
  exact⟨key,λb off' hr=>bw.lift (λ_=>by simp) (λ_=>by simp) key hr,rfl⟩
 |_,_,.fn f cs ds h=>by
  have hd:=Za.down hs hK hN h;have key:∀x,G' I (aA I U) w (.fn f cs) x->G' I (aA I K) w (.fn f ds) x:=λx hr=>by
   simp only[G']at hr|-;obtain⟨WL,rfl,h1⟩:=hr;exact⟨WL,rfl,hd.1 _ h1⟩
  exact⟨key,λb off' hr=>bw.lift (λ_=>by simp) (λ_=>by simp) key hr,rfl⟩
 |_,_,.bm f cs ds h=>by
  have hd:=Za.down hs hK hN h;have key:∀x,G' I (aA I U) w (.bm f cs) x->G' I (aA I K) w (.bm f ds) x:=λx hr=>by
   simp only[G']at hr|-;obtain⟨WL,rfl,h1⟩:=hr;exact⟨WL,rfl,hd.1 _ h1⟩
  exact⟨key,λb off' hr=>bw.lift (λ_=>by simp) (λ_=>by simp) key hr,rfl⟩
 |_,_,.iface t v u h=>by
  have hd:=Fz.down hs hK hN h;have key:∀x,G' I (aA I U) w (.iface t v) x->G' I (aA I K) w (.iface t u) x:=λx hr=>by
   simp only[G']at hr|-;obtain⟨y,rfl,h1⟩:=hr;exact⟨y,rfl,hd.1 _ h1⟩
  exact⟨key,λb off' hr=>bw.lift (λ_=>by simp) (λ_=>by simp) key hr,rfl⟩
def Za.down(hs:Sat w0 XQ I U w)(hK:aa K U)(hN:∀id,N id->K id=none):∀{vs us:List V},Za U N vs us->(∀l,ar I (aA I U) w vs l->ar I (aA I K) w us l)/\
 (∀b off,aK I (aA I U) w vs b off->aK I (aA I K) w us b off)/\(∀b off sz,aW I (aA I U) w vs b off sz->aW I (aA I K) w us b off sz)/\us.length=vs.length
 |_,_,.nil=>⟨λl h=>by simpa[ar]using h,λ_ _ _=>by simp[aK],λ_ _ _ _=>by simp[aW],rfl⟩
 |_,_,.cons v u vs us h h'=>by
  have hd:=Fz.down hs hK hN h;have hd':=Za.down hs hK hN h';refine⟨λl hr=>?_,λb off hr=>?_,λb off sz hr=>?_,by simp[hd'.2.2.2]⟩
  .simp only[ar]at hr|-;obtain⟨x,xs,rfl,h1,h2⟩:=hr;exact⟨x,xs,rfl,hd.1 _ h1,hd'.1 _ h2⟩
  .simp only[aK]at hr|-;obtain⟨⟨x,h1,h2,h3⟩,h4⟩:=hr;exact⟨⟨x,h1,hd.1 _ h2,h3⟩,hd'.2.1 _ _ h4⟩
  .simp only[aW]at hr|-;exact⟨by rw[hd.2.2];exact hr.1,hd.2.1 _ _ hr.2.1,hd'.2.2.1 _ _ _ hr.2.2⟩
end
def Fz.wk{v u:V}(h:Fz U N v u)(hK:aa K U)(hN:∀id,N id->K id=none):Wk U K v u:=λ_ _ _ _ x hs hr=>(Fz.down hs hK hN h).1 x hr
end
def BB:(((((((type_of%@D3)/\(type_of%@E6))/\((type_of%@EW)/\(type_of%@xU)))/\(((type_of%@Cw)/\(type_of%@qU))/\((type_of%@rm)/\(type_of%@sW))))/\((((type_of%@BC)/\(type_of%@tz))/\((type_of%@tK)/\(type_of%@CD)))/\(((type_of%@D6)/\(type_of%@yR))/\((type_of%@AT)/\(type_of%@AW)))))/\(((((type_of%@D7)/\(type_of%@BR))/\((type_of%@xA)/\(type_of%@Fh)))/\(((type_of%@AN)/\(type_of%@Am))/\((type_of%@EN)/\(type_of%@Au))))/\((((type_of%@RO)/\(type_of%@RZ))/\((type_of%@IE)/\(type_of%@Eh)))/\(((type_of%@Jm)/\(type_of%@Ix))/\((type_of%@Ja)/\((type_of%@IY)/\(type_of%@IP)))))))/\((((((type_of%@v8)/\(type_of%@vg))/\((type_of%@BS)/\(type_of%@vT)))/\(((type_of%@wY)/\(type_of%@we))/\((type_of%@tI)/\(type_of%@Fi))))/\((((type_of%@HF)/\(type_of%@IS))/\((type_of%@I0)/\(type_of%@H4)))/\(((type_of%@wN)/\(type_of%@tF))/\((type_of%@Cs)/\((type_of%@Is)/\(type_of%@MN))))))/\(((((type_of%@MC)/\(type_of%@My))/\((type_of%@MU)/\(type_of%@As)))/\(((type_of%@Bu)/\(type_of%@AF))/\((type_of%@Ir)/\(type_of%@MR))))/\((((type_of%@MA)/\(type_of%@MY))/\((type_of%@MS)/\(type_of%@A8)))/\(((type_of%@Bm)/\(type_of%@qw))/\((type_of%@EH)/\((type_of%@Fe)/\(type_of%@EC))))))))/\(((((((type_of%@yS)/\(type_of%@yL))/\((type_of%@MP)/\(type_of%@MQ)))/\(((type_of%@Rx)/\(type_of%@Tf))/\((type_of%@BE)/\(type_of%@AV))))/\((((type_of%@xq)/\(type_of%@w8))/\((type_of%@AZ)/\(type_of%@EM)))/\(((type_of%@yd)/\(type_of%@A4))/\((type_of%@yU)/\(type_of%@x7)))))/\(((((type_of%@rk)/\(type_of%@qR))/\((type_of%@af)/\(type_of%@E5)))/\(((type_of%@true_implies)/\(type_of%@false_implies))/\((type_of%@implies_true.{0})/\(type_of%@AQ))))/\((((type_of%@List.getD_cons_zero.{0})/\(type_of%@List.getD_cons_succ.{0}))/\((type_of%@List.getD_nil.{0})/\(type_of%@List.map_cons.{0,0})))/\(((type_of%@List.map_nil.{0,0})/\(type_of%@List.length_cons.{0}))/\((type_of%@List.length_nil.{0})/\((type_of%@List.drop_succ_cons.{0})/\(type_of%@List.drop_zero.{0})))))))/\((((((type_of%@List.take_succ_cons.{0})/\(type_of%@List.take_zero.{0}))/\((type_of%@List.set_cons_zero.{0})/\(type_of%@List.set_cons_succ.{0})))/\(((type_of%@List.append_nil.{0})/\(type_of%@List.nil_append.{0}))/\((type_of%@List.cons_append.{0})/\(type_of%@List.all_cons.{0}))))/\((((type_of%@List.all_nil.{0})/\(type_of%@List.getElem?_cons_zero.{0}))/\((type_of%@List.getElem?_cons_succ.{0})/\(type_of%@List.contains_cons.{0})))/\(((type_of%@List.contains_nil.{0})/\(type_of%@Option.isSome_some.{0}))/\((type_of%@Option.map_some.{0,0})/\((type_of%@Option.map_none.{0,0})/\(type_of%@true_and))))))/\(((((type_of%@and_true)/\(type_of%@and_self))/\((type_of%@Nat.zero_add)/\(type_of%@Nat.add_zero)))/\(((type_of%@Bool.not_true)/\(type_of%@Bool.not_false))/\((type_of%@Bool.false_eq_true)/\(type_of%@Bool.or_true))))/\((((type_of%@Bool.true_or)/\(type_of%@Bool.or_false))/\((type_of%@Bool.false_or)/\(type_of%@Bool.true_and)))/\(((type_of%@Bool.and_true)/\(type_of%@Bool.and_self))/\((type_of%@decide_true)/\((type_of%@decide_false)/\(type_of%@decide_eq_true_eq)))))))):=
 ⟨⟨⟨⟨⟨⟨⟨@D3,@E6⟩,⟨@EW,@xU⟩⟩,⟨⟨@Cw,@qU⟩,⟨@rm,@sW⟩⟩⟩,⟨⟨⟨@BC,@tz⟩,⟨@tK,@CD⟩⟩,⟨⟨@D6,@yR⟩,⟨@AT,@AW⟩⟩⟩⟩,⟨⟨⟨⟨@D7,@BR⟩,⟨@xA,@Fh⟩⟩,⟨⟨@AN,@Am⟩,⟨@EN,@Au⟩⟩⟩,⟨⟨⟨@RO,@RZ⟩,⟨@IE,@Eh⟩⟩,⟨⟨@Jm,@Ix⟩,⟨@Ja,⟨@IY,@IP⟩⟩⟩⟩⟩⟩,⟨⟨⟨⟨⟨@v8,@vg⟩,⟨@BS,@vT⟩⟩,⟨⟨@wY,@we⟩,⟨@tI,@Fi⟩⟩⟩,⟨⟨⟨@HF,@IS⟩,⟨@I0,@H4⟩⟩,⟨⟨@wN,@tF⟩,⟨@Cs,⟨@Is,@MN⟩⟩⟩⟩⟩,⟨⟨⟨⟨@MC,@My⟩,⟨@MU,@As⟩⟩,⟨⟨@Bu,@AF⟩,⟨@Ir,@MR⟩⟩⟩,⟨⟨⟨@MA,@MY⟩,⟨@MS,@A8⟩⟩,⟨⟨@Bm,@qw⟩,⟨@EH,⟨@Fe,@EC⟩⟩⟩⟩⟩⟩⟩,⟨⟨⟨⟨⟨⟨@yS,@yL⟩,⟨@MP,@MQ⟩⟩,⟨⟨@Rx,@Tf⟩,⟨@BE,@AV⟩⟩⟩,⟨⟨⟨@xq,@w8⟩,⟨@AZ,@EM⟩⟩,⟨⟨@yd,@A4⟩,⟨@yU,@x7⟩⟩⟩⟩,⟨⟨⟨⟨@rk,@qR⟩,⟨@af,@E5⟩⟩,⟨⟨@true_implies,@false_implies⟩,⟨@implies_true.{0},@AQ⟩⟩⟩,⟨⟨⟨@List.getD_cons_zero.{0},@List.getD_cons_succ.{0}⟩,⟨@List.getD_nil.{0},@List.map_cons.{0,0}⟩⟩,⟨⟨@List.map_nil.{0,0},@List.length_cons.{0}⟩,⟨@List.length_nil.{0},⟨@List.drop_succ_cons.{0},@List.drop_zero.{0}⟩⟩⟩⟩⟩⟩,⟨⟨⟨⟨⟨@List.take_succ_cons.{0},@List.take_zero.{0}⟩,⟨@List.set_cons_zero.{0},@List.set_cons_succ.{0}⟩⟩,⟨⟨@List.append_nil.{0},@List.nil_append.{0}⟩,⟨@List.cons_append.{0},@List.all_cons.{0}⟩⟩⟩,⟨⟨⟨@List.all_nil.{0},@List.getElem?_cons_zero.{0}⟩,⟨@List.getElem?_cons_succ.{0},@List.contains_cons.{0}⟩⟩,⟨⟨@List.contains_nil.{0},@Option.isSome_some.{0}⟩,⟨@Option.map_some.{0,0},⟨@Option.map_none.{0,0},@true_and⟩⟩⟩⟩⟩,⟨⟨⟨⟨@and_true,@and_self⟩,⟨@Nat.zero_add,@Nat.add_zero⟩⟩,⟨⟨@Bool.not_true,@Bool.not_false⟩,⟨@Bool.false_eq_true,@Bool.or_true⟩⟩⟩,⟨⟨⟨@Bool.true_or,@Bool.or_false⟩,⟨@Bool.false_or,@Bool.true_and⟩⟩,⟨⟨@Bool.and_true,@Bool.and_self⟩,⟨@decide_true,⟨@decide_false,@decide_eq_true_eq⟩⟩⟩⟩⟩⟩⟩⟩
def CC:(∀(l:List V),V.cells (.agg l)=l)/\(V.cells (.undef )=[.undef ])/\(∀(k:IntKind) (i:Int),V.cells (.int k i)=[.int k i])/\(∀(b:Bool),V.cells (.bool b)=[.bool b])/\(∀(s:List UInt8),V.cells (.str s)=[.str s])/\(V.cells (.aB )=[.aB ])/\(∀(a:Nat) (l:List V),V.cells (.sl a l)=[.sl a l])/\(∀(a b c:Nat),V.cells (.own a b c)=[.own a b c])/\(∀(a b c:Nat),V.cells (.ptr a b c)=[.ptr a b c])/\(∀(a:V),V.cells (.rp a)=[.rp a])/\(V.cells (.nilp )=[.nilp ])/\(∀(f:FuncId) (l:List V),V.cells (.fn f l)=[.fn f l])/\(∀(f:FuncId) (l:List V),V.cells (.bm f l)=[.bm f l])/\(V.cells (.Ya )=[.Ya ])/\(∀(t:TypeId) (a:V),V.cells (.iface t a)=[.iface t a])/\(V.cells (.XC )=[.XC ])/\(∀(l:List V),V.cells (.WC l)=[.WC l])/\(∀(x:Value),V.cells (.raw x)=[.raw x])/\(∀(a:Nat),V.cells (.gp a)=[.gp a])/\(∀(a:Nat),V.cells (.yl a)=[.yl a])/\(∀(a:Nat),V.cells (.mp a)=[.mp a])/\(∀(l:List V),V.stays (.agg l)=true)/\(V.stays (.undef )=false)/\(∀(k:IntKind) (i:Int),V.stays (.int k i)=true)/\(∀(b:Bool),V.stays (.bool b)=true)/\(∀(s:List UInt8),V.stays (.str s)=true)/\(V.stays (.aB )=true)/\(∀(a:Nat) (l:List V),V.stays (.sl a l)=true)/\(∀(a b c:Nat),V.stays (.own a b c)=true)/\(∀(a b c:Nat),V.stays (.ptr a b c)=true)/\(∀(a:V),V.stays (.rp a)=true)/\(V.stays (.nilp )=true)/\(∀(f:FuncId) (l:List V),V.stays (.fn f l)=true)/\(∀(f:FuncId) (l:List V),V.stays (.bm f l)=true)/\(V.stays (.Ya )=true)/\(∀(t:TypeId) (a:V),V.stays (.iface t a)=true)/\(V.stays (.XC )=true)/\(∀(l:List V),V.stays (.WC l)=false)/\(∀(a:Nat),V.stays (.gp a)=true)/\(∀(a:Nat),V.stays (.yl a)=true)/\(∀(a:Nat),V.stays (.mp a)=true):=
 ⟨λ_=>rfl,rfl,λ_ _=>rfl,λ_=>rfl,λ_=>rfl,rfl,λ_ _=>rfl,λ_ _ _=>rfl,λ_ _ _=>rfl,λ_=>rfl,rfl,λ_ _=>rfl,λ_ _=>rfl,rfl,λ_ _=>rfl,rfl,λ_=>rfl,λ_=>rfl,λ_=>rfl,λ_=>rfl,λ_=>rfl,λ_=>rfl,rfl,λ_ _=>rfl,λ_=>rfl,λ_=>rfl,rfl,λ_ _=>rfl,λ_ _ _=>rfl,λ_ _ _=>rfl,λ_=>rfl,rfl,λ_ _=>rfl,λ_ _=>rfl,rfl,λ_ _=>rfl,rfl,λ_=>rfl,λ_=>rfl,λ_=>rfl,λ_=>rfl⟩
def Wr{p:Prop}[Decidable p]:(!decide p)=decide (¬p):=decide_not.symm
def sR{P:Program}{n:Nat}{todo:List It}{st:St}{Q:St->Prop}(h:step P Yi.nothing n 300 (.r todo) st Q):ag P n todo st Q:=ag.bn Yi.nothing 300 h
def Xz{K U J:ad}{j:Nat}{o:Ob}(h:C' U j o=J)(s:aa K U)(z:K j=none):aa K J:=by subst h;exact s.ao z
def WG{U Z':ad}{i j:Nat}{o:Ob}(a:U i=some o)(f:U j=none)(s:aa U Z'):i≠j/\Z' i=some o:=⟨aQ a f,s _ _ a⟩
def nwZ{K U Z':ad}{j:Nat}(h:aa K U)(f:U j=none)(s:aa U Z'):K j=none/\aa K Z':=⟨h.none f,h.trans s⟩
def XX{v:V}{U:ad}{P:V->ad->Prop}(h:P v U):ai v U P:=⟨_,_,aa.refl _,Wk.refl (aa.refl _) _,h⟩
def mS{P:Program}{n:Nat}(m:Nat){todo:List It}{s:Nat->V}{U:ad}{Q:St->Prop}(h:step P Yi.nothing n 300 (.r todo) ⟨Vc.mix m s s,U⟩ Q):ag P n todo ⟨s,U⟩ Q:=ag.mix m (sR h)
def Yn{P:Program}{n:Nat}{k:List It}{Q:St->Prop}{i:aC}{l:List aC}{fx:VX}{xs:List VX}{s:Nat->V}{U:ad}{f:FuncId}{caps:List V}{Post:V->ad->Prop}(hw:(bg s i.g,i.op,fx.ev s)=(some true,.call fx xs,.fn f caps))(hc:av P f (xs.map (·.ev s)++caps) U Post)(h:∀r Z',Post r Z'->ag P n (.ops l::k) ⟨aO s i.dst r,Z'⟩ Q):ag P n (.ops (i::l)::k) ⟨s,U⟩ Q:=ag.call (congrArg (·.1) hw) (congrArg (·.2.1) hw) (congrArg (·.2.2) hw) hc h
def pR{P:Program}{n:Nat}{k:List It}{Q:St->Prop}{i:aC}{l:List aC}{fx:VX}{xs:List VX}{s:Nat->V}{U:ad}{f:FuncId}{caps:List V}{v:V}(hw:(bg s i.g,i.op,fx.ev s)=(some true,.call fx xs,.fn f caps))(hc:av P f (xs.map (·.ev s)++caps) U λr Z'=>r=v/\Z'=U)(h:ag P n (.ops l::k) ⟨aO s i.dst v,U⟩ Q):ag P n (.ops (i::l)::k) ⟨s,U⟩ Q:=ag.I5 (congrArg (·.1) hw) (congrArg (·.2.1) hw) (congrArg (·.2.2) hw) hc h
def pS{P:Program}{n:Nat}{k:List It}{Q:St->Prop}{i:aC}{l:List aC}{fx:VX}{xs:List VX}{s:Nat->V}{U:ad}{f:FuncId}{caps:List V}{v:V}(hw:(bg s i.g,i.op,fx.ev s)=(some true,.call fx xs,.fn f caps))(hc:av P f (xs.map (·.ev s)++caps) U λr Z'=>r=v/\Z'=U)(h:step P Yi.nothing n 300 (.r (.ops l::k)) ⟨aO s i.dst v,U⟩ Q):ag P n (.ops (i::l)::k) ⟨s,U⟩ Q:=pR hw hc (sR h)
def sG{P:Program}{n:Nat}{t:Td}{st:St}{Q:St->Prop}(h:step P Yi.nothing n 300 t st Q):Go P n t st Q:=Go.bn Yi.nothing 300 t st h
attribute [go_sem] BB CC Wr Yi.nothing aZ eD aD dT gW p7 vq jj fW Oy jg cP EK zr l7 iE uE fc zV jJ gd fo YV FU j1 eP vG jN ki l8 mz OD binBV lQ kJ
abbrev vI(n:Int):V:=.int .i64 n
structure Ye where
 (top WV WD O' Xl WE WW head before after inside clear:Int)
deriving DecidableEq
def Ye.cells(s:Ye):List V:=[vI s.top,vI s.WV,vI s.WD,vI s.O',vI s.Xl,vI s.WE,vI s.WW,vI s.head,vI s.before,vI s.after,vI s.inside,vI s.clear]
structure Nd where
 (kind size:Int)
 (st:Ye)
 (line space:Int)
 (words:List Int)
 (side w h:Int)
deriving DecidableEq
def aN(l:List Int):V:=.sl 1 (l.map vI)
def Nd.cells(x:Nd):List V:=[vI x.kind,vI x.size,vI x.st.top,vI x.st.WV,vI x.st.WD,vI x.st.O',vI x.st.Xl,vI x.st.WE,vI x.st.WW,vI x.st.head,vI x.st.before,vI x.st.after,vI x.st.inside,vI x.st.clear,
 vI x.line,vI x.space,aN x.words,vI x.side,vI x.w,vI x.h]
def dW(x:Nd):V:=.agg x.cells
def mx:Int:=1099511627776
def aS(n a b:Int):Bool:=decide (n>=a/\n<=b)
def Ye.ok(s:Ye):Bool:=aS s.top 0 mx&&aS s.WV 0 mx&&aS s.WD 0 mx&&aS s.O' 0 mx&&aS s.Xl 0 mx&&aS s.WE 1 mx&&aS s.WW 1 mx&&aS s.head 0 mx&&
 aS s.before 0 4&&aS s.after 0 4&&aS s.inside 0 1&&aS s.clear 0 3
def Ye.zero:Ye:=⟨0,0,0,0,0,0,0,0,0,0,0,0⟩
def ay(l:List Nd):V:=.sl 20 (l.map dW)
def bK(l:List Nd):dv false (ay l)=some (.int .i64 l.length):=by simp[ay,dv]
def cp(l:List Nd):(ay l).cells=[ay l]:=rfl
def eh(l:List Nd):(ay l).stays=true:=rfl
variable {P:Program} {n:Nat} {st:St} {Q:St->Prop} {k:List It} {I:Mu} {w w':World}
abbrev gh(o:Obj)(env:List V:=[]):Ob:=⟨0,0,.obj o::env⟩
def Sat.Rb{w0:World}{XQ:Nat->Prop}{U:ad}(h:Sat w0 XQ I U w)(o:Obj)(env:List V)(he:ar I (aA I U) w env (tmpsOf o)):
 ∃id,U id=none/\∃Y':Mu,Y' id=.XN w.heap.size 0 0/\dx I Y'/\Sat w0 XQ Y' (C' U id (gh o env)) (w.alloc o)/\dp (aA I U) (aA Y' (C' U id (gh o env))) w (w.alloc o):=by
 obtain⟨id,M',WY,XV⟩:=h.dQ;have hle:dx I (λk=>if k=id then .XN w.heap.size 0 0 else I k):=λk hk=>by
  have:k≠id:=λe'=>hk (e'▸M');simp[this]
 refine⟨id,WY,λk=>if k=id then .XN w.heap.size 0 0 else I k,by simp,hle,?_⟩;refine h.put (row:=none) (World.grownBy_alloc w o none) (by simp) hle (XV _) id (gh o env) (λo' ho=>?_) (λi o' hi ho=>?_) (λb' sz' YD ZV=>?_) (λhk=>?_)
 .simp[C']at ho;exact ho.symm
 .simp only[C',au hi]at ho;exact⟨ho,by simp⟩
 .simp only[if_true,Pl.XN.injEq]at ZV;exact .inr (by omega)
 .simp only[if_true];exact .inr ⟨rfl,rfl,o,env,rfl,World.alloc_heap_new w o,ar.mono hle hk (by simp) _ _ he⟩
def Sat.TD{w0:World}{XQ:Nat->Prop}{U:ad}(h:Sat w0 XQ I U w){id b cap:Nat}{o:Ob}(ho:U id=some o)(M':I id=.XN b 0 cap)(o':Obj)(env:List V)(he:ar I (aA I U) w env (tmpsOf o')):
 Sat w0 XQ I (C' U id (gh o' env)) (w.putObj b o')/\dp (aA I U) (aA I (C' U id (gh o' env))) w (w.putObj b o'):=by
 have B':b<w.heap.size:=aA.lt h ⟨id,o,0,cap,ho,M'⟩;refine h.put (grownBy_putObj' w b o') (λb' ZV=>by cases ZV;exact⟨id,o,0,cap,ho,M'⟩) (dx.refl _) h.fin id (gh o' env) (λx Xp=>by simp[C']at Xp;exact Xp.symm)
  (λi x hi Xp=>?_) (λb' sz' YD ZV=>?_) (λhk=>?_)
 .simp only[C',au hi]at Xp;refine⟨Xp,λb' sz' YD h4 h5=>hi ?_⟩;cases h5;exact h.inj i id x o _ _ _ _ _ Xp ho h4 M'
 .rw[M']at ZV;cases ZV;exact .inl rfl
 .rw[M'];exact .inr ⟨rfl,rfl,o',env,rfl,World.putObj_heap_same B',ar.mono (dx.refl _) hk (by simp) _ _ he⟩
def Sat.NN{w0:World}{XQ:Nat->Prop}{U:ad}(h:Sat w0 XQ I U w){id b cap:Nat}{o:Obj}{env:List V}(ho:U id=some (gh o env))(M':I id=.XN b 0 cap):w.heap[b]?=some o/\ar I (aA I U) w env (tmpsOf o):=by
 have:=h.obj id _ ho;rw[M']at this;rcases this with⟨_,_,_,h1,_⟩|⟨_,_,ob,env',h1,h2,h3⟩
 .omega
 .simp only[List.cons.injEq,V.obj.injEq]at h1;obtain⟨rfl,rfl⟩:=h1;exact⟨h2,h3⟩
variable {P:Program} {n:Nat} {st:St} {Q:St->Prop} {k:List It} {I:Mu} {w w':World}
def Sat.compose{w0:World}{XQ:Nat->Prop}{I Y':Mu}{U Z':ad}(h0:Sat w0 XQ I U w)(W2:Sat w (aA I U) Y' Z' w'):
 Sat w0 XQ Y' Z' w'/\dp (aA I U) (aA Y' Z') w w':=by
 have Zk:dp (aA I U) (aA Y' Z') w w':=λb hb hn=>⟨λho=>hn (W2.fresh b ho hb),W2.same b hb hn⟩
 refine⟨⟨jP h0.size W2.size,W2.os.trans h0.os,W2.tape.trans h0.tape,W2.output.trans h0.output,?_,W2.fin,W2.inj,W2.obj,?_,h0.glob⟩,Zk⟩
 .intro b hb hn;have h1:¬aA I U b:=λho=>hn (h0.fresh b ho hb);exact(W2.same b (Nat.lt_of_lt_of_le hb h0.size) h1).trans (h0.same b hb hn)
 .intro b hb B';exact h0.fresh b (W2.fresh b hb (Nat.lt_of_lt_of_le B' h0.size)) B'
def Sat.here{w0:World}{XQ:Nat->Prop}{U:ad}(h:Sat w0 XQ I U w):Sat w (aA I U) I U w:=
 ⟨Xc _,rfl,rfl,rfl,λ_ _ _=>rfl,h.fin,h.inj,h.obj,λb hb _=>hb,h.qI⟩
def YC(P:Program)(Xk:Nat)(x:List V)(U:ad)(Post:Bool->ad->Prop):Prop:=
 ∀I w WL l c,I Xk=.XN l 0 c->Sat w (aA I U) I U w->ar I (aA I U) w x WL->
  YieldAt Fence.wide 0 P l WL.toArray w λe w'=>∃b Z' Y',e=.returned (.bool b)/\Post b Z'/\dx I Y'/\Sat w (aA I U) Y' Z' w'
def xK{F:Fr}{m m':Nat}{l:Nat}{f:FuncId}{tmps:Array Value}{assign body:Code}{R:Ending->World->Prop}
 (h:RoundIn Fence.wide m P l f tmps assign body w R):RoundIn F.fg m' P l f tmps assign body w R:=
 ⟨trivial,λc cs _=>h.2 c cs (room_wide _)⟩
def ag.ny{i:aC}{l:List aC}{fx:VX}{xs:List VX}(hw:bg st.s i.g=some true)(ho:i.op=.call fx xs){Xk:Nat}(hf:fx.ev st.s=.yl Xk)
 {Post:Bool->ad->Prop}(hc:YC P Xk (xs.map (·.ev st.s)) st.U Post)
 (h:∀b Z',Post b Z'->ag P n (.ops l::k) ⟨aO st.s i.dst (.bool b),Z'⟩ Q):ag P n (.ops (i::l)::k) st Q:=by
 refine ag.MW hw λF hn I a w o all hi hs next Q' WN=>?_
 subst hn;obtain⟨WO,hd⟩:=ee hi;rw[ho]at WO;obtain⟨f0,args,argTypes,g1,rfl,rfl⟩:=nI WO;have hfr:=cL hs f0;rw[hf]at hfr;simp only[G']at hfr;split at hfr
 .rename_i lb c M';have XE:=oq hs args.toList;obtain⟨fn,tmps,assign,body,hy,hR⟩:=hc I w _ lb c M' hs.sat.here XE;have Xq:(execOp a.eval o).run P w=.ok (.round lb fn tmps assign body) w:=by
   unfold execOp;rw[g1];simp only[resolve,hfr,Deferred.ofValue,Sem.run_bind,Sem.run_pure,Result.andThen_ok,invoke];rw[<-hy];congr 2;apply Array.ext';simp
  refine⟨λ_ _=>trivial,?_⟩;rw[Oper.semAt_eq _ _ _ (by rw[g1];intro c e;cases e),Xq];refine⟨lv F,xK (hR.mono ?_)⟩;rintro e w' ⟨b,Z',Y',rfl,hp,hle,W2⟩;obtain⟨h1,h2⟩:=hs.sat.compose W2;refine WN _ _ _ ⟨Y',?_⟩ (h b Z' hp);rw[<-hd];exact hs.step h1 hle h2 W2.size (by simp[G'])
 .exact hfr.elim
def bb(ZJ U Xj Z':ad):Prop:=aa Xj Z'/\∀id o,ZJ id=none->U id=some o->Z' id=some o/\Xj id=none
def bb.refl{ZJ U:ad}(h:aa ZJ U):bb ZJ U ZJ U:=⟨h,λ_ _ h1 h2=>⟨h2,h1⟩⟩
def bb.set{ZJ U Xj Z':ad}(h:bb ZJ U Xj Z'){id:Nat}{o o':Ob}(M':Xj id=some o):bb ZJ U (C' Xj id o') (C' Z' id o'):=
 ⟨h.1.Np,λi x h1 h2=>by
  obtain⟨h3,h4⟩:=h.2 i x h1 h2;have:i≠id:=λe=>by rw[e,M']at h4;cases h4
  simp[Vc.C',this,h3,h4]⟩
def bb.new{ZJ U Xj Z':ad}(h:bb ZJ U Xj Z'){id:Nat}{o:Ob}(M':Z' id=none):bb ZJ U (C' Xj id o) (C' Z' id o):=
 ⟨h.1.Np,λi x h1 h2=>by
  obtain⟨h3,h4⟩:=h.2 i x h1 h2;have:i≠id:=λe=>by rw[e,M']at h3;cases h3
  simp[Vc.C',this,h3,h4]⟩
def bb.rY{ZJ U Xj Z':ad}(h:bb ZJ U Xj Z'){id:Nat}{o:Ob}(M':Z' id=none):bb ZJ U Xj (C' Z' id o):=
 ⟨h.1.trans (aa.C' (aa.refl _) M'),λi x h1 h2=>by
  obtain⟨h3,h4⟩:=h.2 i x h1 h2;have:i≠id:=λe=>by rw[e,M']at h3;cases h3
  simp[Vc.C',this,h3,h4]⟩
def Iter(P:Program)(g:FuncId)(caps:List V)(xs:List (List V)):Prop:=
 fE P g=true/\∀(Xk:Nat) (τ Jx:List (List V)->ad->Prop) (Z0:ad),
  (∀pre x post ZJ U,xs=pre++x::post->τ pre ZJ->aa ZJ U->
    YC P Xk x U λb Z'=>∃Xj,bb ZJ U Xj Z'/\((b=true/\τ (pre++[x]) Xj)\/(b=false/\Jx (pre++[x]) Xj)))->
  τ [] Z0->tB P g (.yl Xk::caps) Z0 λ_ Z'=>τ xs Z'\/∃pre,pre <+: xs/\Jx pre Z'
variable {P:Program} {n:Nat} {st:St} {Q:St->Prop} {k:List It} {I:Mu} {w w':World}
def nh(s:Nat->V):List Nat->List V->Nat->V
 |p::ps,x::xs=>nh (λi=>if i=p then x else s i) ps xs
 |_,_=>s
def exK:List (Nat×(St->Prop))->List It
 |[]=>[]
 |(id,μ)::l=>.inBlock id::.stop μ::exK l
def D1{U Z':ad}{id:Nat}(h:aa U Z'):aa (del U id) (del Z' id):=λi o e=>by
 unfold del at e|-;split at e
 .cases e
 .rename_i hi;rw[au hi];exact h i o e
def Sat.more{w0:World}{XQ:Nat->Prop}{U:ad}(h:Sat w0 XQ I U w)(o:Obj):Sat w0 XQ I U (w.alloc o)/\dp (aA I U) (aA I U) w (w.alloc o):=by
 have Zl:∀b,b<w.heap.size->(w.alloc o).heap[b]?=w.heap[b]?:=λb hb=>Go.RowKit.Below.heap_alloc w o b hb;have hk:dp (aA I U) (aA I U) w (w.alloc o):=λb hb hn=>⟨hn,Zl b hb⟩
 refine⟨⟨by have:=h.size;simp;omega,h.os,h.tape,h.output,λb hb hn=>(Zl b (Nat.lt_of_lt_of_le hb h.size)).trans (h.same b hb hn),h.fin,h.inj,λid ob ho=>?_,h.fresh,h.glob⟩,hk⟩;exact(h.obj id ob ho).mono (dx.refl I) hk (by simp) λb sz cap hp=>Zl b (aA.lt h ⟨id,ob,sz,cap,ho,hp⟩)
def dr.enter{F:Fr}{a:Act}(hs:dr F I st a w)(fn:FuncId)(ps:Array Tmp)(assign body:Code):
 ∃mark W0 D,dr F I st { a with defers:=mark++a.defers } W0/\(Instr.enterLoop fn a.tmps ps assign body F.fg.round).run P w=
  .ok (W0.heap.size,mark) (W0.alloc (.loop { state:=.ready,pending:=none,fn,tmps:=a.tmps,params:=ps,assign,body,defers:=D })):=by
 cases hrd:F.rd with
 |some lr=>
  obtain⟨l0,r0⟩:=lr;obtain⟨h1,_⟩:=hs.book.rnd l0 r0 hrd;refine⟨[],w,r0.defers,hs,?_⟩;have:F.fg.round=some l0:=by simp[Fr.fg,hrd]
  rw[this];exact run_enterLoop_inner h1 fn a.tmps ps assign body
 |none=>
  have:F.fg.round=none:=by simp[Fr.fg,hrd]
  rw[this];refine⟨[{ target:=.collected w.heap.size,args:=#[] }],w.alloc (.deferred (some [])),w.heap.size,?_,?_⟩
  .obtain⟨h1,hk⟩:=hs.sat.more (.deferred (some []));have hb:=hs.book.nv hk;refine⟨h1,hs.le,hs.size,⟨hb.rnd,?_⟩,λi hi=>G'.mono (dx.refl I) hk (by simp) _ _ (hs.slot i hi)⟩;obtain⟨Ds,g1,g2,g3⟩:=hb.marks;obtain⟨Ds',g1',g2',g3'⟩:=hs.book.marks;refine⟨w.heap.size::Ds',by simp[g1'],?_,?_⟩
   .refine List.nodup_cons.2 ⟨λhin=>?_,g2'⟩;have:=(tZ.1 (g3' _ hin).2.1).1;omega
   .intro D hD;simp only[dJ]at hD;rcases hD with rfl|hD
    .refine⟨hs.sat.size,World.alloc_heap_new w _,λho=>?_⟩;have:=aA.lt hs.sat ho;omega
    .obtain⟨q1,q2,q3⟩:=g3' D hD;have B':=(tZ.1 q2).1;exact⟨q1,(hk D B' q3).2.trans q2,q3⟩
  .rw[run_enterLoop_outer];simp
def FH(ps:List Nat):∀(xs:List Value) (t:Array Value) (vs:List V) (s:Nat->V) {ow:Nat->Prop} (m:Nat),t.size=m->ar I ow w vs xs->vs.length=ps.length->
 (∀i,i<m->G' I ow w (s i) (t.getD i undef))->
 ((ps.zip xs).foldl (λt (p,v)=>t.setIfInBounds p v) t).size=m/\∀i,i<m->G' I ow w (nh s ps vs i) (((ps.zip xs).foldl (λt (p,v)=>t.setIfInBounds p v) t).getD i undef):=by
 induction ps with
 |nil=>intro xs t vs s ow m ht _ _ hi;exact⟨by simpa using ht,by simpa[nh]using hi⟩
 |cons p ps ih=>
  intro xs t vs s ow m ht hv hl hi;cases vs with
  |nil=>simp at hl
  |cons v vs=>
   simp only[ar]at hv;obtain⟨x,xs',rfl,h1,h2⟩:=hv;simp only[List.zip_cons_cons,gg,nh];refine ih xs' (t.setIfInBounds p x) vs _ m (by simp[ht]) h2 (by simpa using hl) λi B'=>?_;by_cases hip:i=p
   .subst hip;rw[ak rfl,Zq7,Array.getElem?_setIfInBounds_self_of_lt (by omega)];exact h1
   .rw[au hip,Zq7,Array.getElem?_setIfInBounds_ne (λe=>hip e.symm),<-Zq7];exact hi i B'
variable {P:Program} {n:Nat} {st:St} {Q:St->Prop} {k:List It} {I:Mu} {w w':World}
def vx{b:Nat}{o o':Obj}(h:w.heap[b]?=some o)(hc:∀off x,w.cell? ⟨b,off,none⟩≠some x):
 (∀b',b'≠b->(w.putObj b o').heap[b']?=w.heap[b']?)/\∀(ow:Nat->Prop),rH ow ow w (w.putObj b o'):=by
 have WZ:∀b',b'≠b->(w.putObj b o').heap[b']?=w.heap[b']?:=λb' hb=>World.putObj_heap_other hb;refine⟨WZ,λow b' _ hn=>⟨hn,λoff x hx=>?_⟩⟩;by_cases hb:b'=b
 .subst hb;exact absurd hx (hc off x)
 .exact fb (WZ b' hb) off x hx
def lL{b:Nat}{r:Loop}(h:w.heap[b]?=some (.loop r)):∀off x,w.cell? ⟨b,off,none⟩≠some x:=λoff x=>by simp[World.cell?,h]
def dr.Va{F F':Fr}{a:Act}{l:Nat}{r r':Loop}(hs:dr F I st a w)(hF:F.rd=some (l,r))(hF':F'={ F with rd:=some (l,r') })(hl:l<F.w0.heap.size->F.XQ l):
 dr F' I st a (w.putObj l (.loop r')):=by
 subst hF';obtain⟨h1,h2⟩:=hs.book.rnd l r hF;obtain⟨WZ,hk⟩:=vx (o':=.loop r') h1 (lL h1);have hk:=hk (aA I st.U);have hz:w.heap.size<=(w.putObj l (.loop r')).heap.size:=by simp
 have B':=(tZ.1 h1).1;refine⟨⟨by simpa using hs.sat.size,hs.sat.os,hs.sat.tape,hs.sat.output,λb hb hn=>?_,hs.sat.fin,hs.sat.inj,λid o ho=>?_,hs.sat.fresh,hs.sat.glob⟩,hs.le,hs.size,⟨λl' r'' e=>?_,?_⟩,λi hi=>G'.bR (dx.refl I) hk hz _ _ (hs.slot i hi)⟩
 .by_cases ZV:b=l
  .subst ZV;exact absurd (hl hb) hn
  .exact(WZ b ZV).trans (hs.sat.same b hb hn)
 .refine(hs.sat.obj id o ho).bR (dx.refl I) hk hz λb sz cap hp=>WZ b ?_;rintro rfl;exact h2 ⟨id,o,sz,cap,ho,hp⟩
 .simp only[aI,Prod.mk.injEq]at e;obtain⟨rfl,rfl⟩:=e;exact⟨World.putObj_heap_same B',h2⟩
 .obtain⟨Ds,g1,g2,g3⟩:=hs.book.marks;refine⟨Ds,g1,g2,λD hD=>?_⟩;obtain⟨q1,q2,q3⟩:=g3 D hD;refine⟨q1,(WZ D ?_).trans q2,q3⟩;rintro rfl;rw[h1]at q2;cases q2
def Sat.Ow{w0:World}{XQ:Nat->Prop}{U:ad}(h:Sat w0 XQ I U w){Xk l c:Nat}(WY:U Xk=none)(M':I Xk=.XN l 0 c)(Xa:¬aA I U l){r:Loop}(hr:w.heap[l]?=some (.loop r))
 (hl:l<w0.heap.size->XQ l)(o:Obj)(env:List V)(he:ar I (aA I U) w env (tmpsOf o)):Sat w0 XQ I (C' U Xk (gh o env)) (w.putObj l o):=by
 obtain⟨WZ,_⟩:=vx (o':=o) hr (lL hr);have B':=(tZ.1 hr).1;have hz:w.heap.size<=(w.putObj l o).heap.size:=by simp
 have hown:∀b,aA I (C' U Xk (gh o env)) b->aA I U b\/b=l:=by
  rintro b ⟨id,ob,sz,cap,h1,h2⟩;by_cases e:id=Xk
  .subst e;rw[M']at h2;cases h2;exact .inr rfl
  .rw[ab e]at h1;exact .inl ⟨id,ob,sz,cap,h1,h2⟩
 have hk:rH (aA I U) (aA I (C' U Xk (gh o env))) w (w.putObj l o):=λb ⟨off,x,hx⟩ hn=>by
  have XW:b≠l:=by rintro rfl;exact lL hr off x hx
  exact⟨λho=>(hown b ho).elim hn XW,fb (WZ b XW)⟩
 refine⟨by simpa using h.size,h.os,h.tape,h.output,λb hb hn=>?_,h.fin,?_,?_,?_,h.glob⟩
 .by_cases ZV:b=l
  .subst ZV;exact absurd (hl hb) hn
  .exact(WZ b ZV).trans (h.same b hb hn)
 .intro id YT ob ob' b sz cap sz' YD h1 h2 h3 h4;by_cases e:id=Xk<;>by_cases e':YT=Xk
  .rw[e,e']
  .exfalso;subst e;rw[M']at h3;cases h3;rw[ab e']at h2;exact Xa ⟨YT,ob',sz',YD,h2,h4⟩
  .exfalso;subst e';rw[M']at h4;cases h4;rw[ab e]at h1;exact Xa ⟨id,ob,sz,cap,h1,h3⟩
  .rw[ab e]at h1;rw[ab e']at h2;exact h.inj id YT ob ob' b sz cap sz' YD h1 h2 h3 h4
 .intro id ob ho;by_cases e:id=Xk
  .subst e;rw[af]at ho;cases ho;rw[M'];exact .inr ⟨rfl,rfl,o,env,rfl,World.putObj_heap_same B',ar.bR (dx.refl I) hk hz _ _ he⟩
  .rw[ab e]at ho;refine(h.obj id ob ho).bR (dx.refl I) hk hz λb sz cap hp=>WZ b ?_;rintro rfl;exact Xa ⟨id,ob,sz,cap,ho,hp⟩
 .intro b hb Xf;rcases hown b hb with h1|h1
  .exact h.fresh b h1 Xf
  .subst h1;exact hl Xf
variable {P:Program} {n:Nat} {st:St} {Q:St->Prop} {k:List It} {I:Mu} {w w':World}
def B9:List (Nat×(St->Prop))->List KI
 |[]=>[]
 |(id,μ)::l=>.inBlock id::.stop μ::B9 l
def Ex:∀(l:List (Nat×(St->Prop))),(B9 l).map (KI.it P n)=exK l
 |[]=>rfl
 |(id,μ)::l=>by simp[B9,exK,KI.it,Ex l]
def jo{F:Fr}{e:Exit}{a:Act}(he:e≠.normal):∀(l:List (Nat×(St->Prop))),lU P F Q (B9 l) e a w->
 (e=.ret/\∃st,Q st/\fU F st a w)\/∃id μ,(id,μ)∈l/\e=.exit id/\∃st,μ st/\fU F st a w
 |[],h=>.inl ⟨h.1.resolve_left he,h.2⟩
 |(id,μ)::l,h=>by
  have h:Exit.inBlock id (lU P F Q (.stop μ::B9 l)) e a w:=h;have up:lU P F Q (B9 l) e a w->_:=jo he l;have go:lU P F Q (B9 l) e a w->(e=.ret/\∃st,Q st/\fU F st a w)\/∃YT I',(YT,I')∈(id,μ)::l/\e=.exit YT/\∃st,I' st/\fU F st a w:=λh=>by
   rcases up h with h|⟨i,I',h1,h2⟩
   .exact .inl h
   .exact .inr ⟨i,I',by simp[h1],h2⟩
  cases e with
  |normal=>exact absurd rfl he
  |exit j=>
   simp only[Exit.inBlock]at h;by_cases hj:j=id
   .rw[ak hj]at h;exact .inr ⟨id,μ,by simp,by rw[hj],h⟩
   .rw[au hj]at h;exact go h
  |_=>exact go h
def ID:Option Nat->Code
 |none=>.ret
 |some id=>.exit id
def Jt{rec:Loop}(hready:rec.state=.ready)(hpend:rec.pending=none)(htm:rec.tmps.size=n){s:Nat->V}{Xk:Nat}{x:List V}{ZJ U:ad}
 (hx:x.length=rec.params.toList.length)(X8:ZJ Xk=some (gh (.loop rec) ((List.range n).map s)))(E':aa ZJ U)
 (Jn:ad->Prop)(exits:List Nat)(Jx:Option Nat->ad->Prop)
 (hb:ag P n [.code (dI P n rec.assign),.stop λst1=>ag P n (.code (dI P n rec.body)::.stop (λst2=>∃Z2,bb (del ZJ Xk) (del U Xk) Z2 st2.U/\Jn Z2)::
   exK (exits.map λid=>(id,λst2=>∃Z2,bb (del ZJ Xk) (del U Xk) Z2 st2.U/\Jx (some id) Z2))) st1 (λst2=>∃Z2,bb (del ZJ Xk) (del U Xk) Z2 st2.U/\Jx none Z2)]
   ⟨nh s rec.params.toList x,del U Xk⟩ (λ_=>False)):
 YC P Xk x U λb Z'=>∃Xj,bb ZJ U Xj Z'/\((b=true/\Xj Xk=some (gh (.loop rec) ((List.range n).map s))/\Jn (del Xj Xk))\/
  (b=false/\∃e:Option Nat,Xj Xk=some (gh (.loop { rec with state:=.done,pending:=some (ID e) }) ((List.range n).map s))/\Jx e (del Xj Xk)/\∀id,e=some id->id∈exits)):=by
 intro Y3 w3 WL l c M' Zp ZF;have WY:=E' _ _ X8;obtain⟨hl,henv⟩:=Zp.NN WY M';have hvl:WL.length=rec.params.toList.length:=by rw[<-hx];exact ZF.length
 have hy:=run_yield (P:=P) (args:=WL.toArray) hl (by simpa using hvl);have Xa:¬aA Y3 (del U Xk) l:=by
  rintro⟨id,o,sz,cap,h1,h2⟩;have:=Zp.inj id Xk o _ l sz cap 0 c (aa.rJ U Xk id o h1) WY h2 M';subst this;simp[del]at h1
 have hks:dp (aA Y3 U) (aA Y3 (del U Xk)) w3 w3:=dp.sub w3 (aa.rJ U Xk);have hslots:∀i,i<n->G' Y3 (aA Y3 (del U Xk)) w3 (s i) (rec.tmps.getD i undef):=λi hi=>by
  have hv:((List.range n).map s)[i]?=some (s i):=by simp[hi]
  obtain⟨y,h1,h2⟩:=henv.get hv;have:rec.tmps.getD i undef=y:=by
   simp only[tmpsOf]at h1;rw[Zq7,<-Array.getElem?_toList,h1];rfl
  rw[this];exact G'.mono (dx.refl _) hks (Xc _) _ _ h2
 obtain⟨hg1,hg2⟩:=FH rec.params.toList WL rec.tmps x s n htm (ar.mono (dx.refl _) hks (Xc _) _ _ ZF) hx hslots;have hzip:(rec.params.zip WL.toArray).foldl (λtmps (t,a)=>tmps.setIfInBounds t a) rec.tmps=(rec.params.toList.zip WL).foldl (λt (p,v)=>t.setIfInBounds p v) rec.tmps:=by
  rw[<-Array.foldl_toList,Array.toList_zip]
 rw[hzip]at hy;refine⟨rec.fn,_,rec.assign,rec.body,hy,roundIn_of_wpIn (F:=Fence.wide) trivial ?_⟩;have X7:dr ⟨w3,aA Y3 U,Y3,n,some (l,rec)⟩ Y3 ⟨nh s rec.params.toList x,del U Xk⟩ { tmps:=(rec.params.toList.zip WL).foldl (λt (p,v)=>t.setIfInBounds p v) rec.tmps,defers:=[] } w3:=by
  refine⟨Zp.drop (aa.rJ U Xk),dx.refl _,hg1,⟨λl' r' e=>?_,[],rfl,.nil,by simp⟩,hg2⟩;simp only[aI,Prod.mk.injEq]at e;obtain⟨rfl,rfl⟩:=e;exact⟨hl,Xa⟩
 have h1:=hb ⟨w3,aA Y3 U,Y3,n,some (l,rec)⟩ rfl [.code rec.assign,.stop _] rfl _ w3 ⟨Y3,X7⟩;refine wpIn_mono (F:=Fence.wide.inRound l) h1 ?_;intro e a1 w1 h;cases e with
 |normal=>
  obtain⟨st1,hI,X4,hs4⟩:=h;have hpk:=hs4.Va (F':=⟨w3,aA Y3 U,Y3,n,some (l,{ rec with state:=.busy })⟩) (r':={ rec with state:=.busy }) rfl rfl (λ_=>⟨Xk,_,0,c,WY,M'⟩);refine⟨_,run_beginRound (hs4.book.rnd l rec rfl).1 hready,?_⟩;have h2:=hI ⟨w3,aA Y3 U,Y3,n,some (l,{ rec with state:=.busy })⟩ rfl (.code rec.body::.stop _::B9 _) (by simp only[eV,Ex];rfl) a1 _ ⟨X4,hpk⟩;refine wpIn_mono (F:=Fence.wide.inRound l) h2 ?_;have fin:∀(st2:St) (a2:Act) (w2:World) (jump:Option Code) (Z2:ad),fU ⟨w3,aA Y3 U,Y3,n,some (l,{ rec with state:=.busy })⟩ st2 a2 w2->bb (del ZJ Xk) (del U Xk) Z2 st2.U->
   ∃v w'',(Instr.endRound l jump).run P w2=.ok v w''/\v=.bool jump.isNone/\∃Z' Y' Xj,dx Y3 Y'/\Sat w3 (aA Y3 U) Y' Z' w''/\bb ZJ U Xj Z'/\
    Xj Xk=some (gh (.loop { rec with state:=if jump.isNone then .ready else .done,pending:=jump }) ((List.range n).map s))/\del Xj Xk=Z2:=by
   rintro st2 a2 w2 jump Z2 ⟨X5,hs5⟩ Ys;obtain⟨q1,q2⟩:=hs5.book.rnd l _ rfl;have hid5:X5 Xk=.XN l 0 c:=(hs5.le Xk (show Y3 Xk≠.dQ by rw[M'];simp)).trans M';have hn5:st2.U Xk=none:=by
    cases h:st2.U Xk with
    |none=>rfl
    |some o=>exact absurd ⟨Xk,o,0,c,h,hid5⟩ q2
   have hk5:dp (aA Y3 U) (aA X5 st2.U) w3 w2:=λb hb hn=>⟨λho=>hn (hs5.sat.fresh b ho hb),hs5.sat.same b hb hn⟩
   have henv5:=ar.mono hs5.le hk5 hs5.sat.size _ _ henv;have hn2:Z2 Xk=none:=by
    cases h:Z2 Xk with
    |none=>rfl
    |some o=>have:=Ys.1 Xk o h;rw[hn5]at this;cases this
   refine⟨_,_,run_endRound (P:=P) jump q1,rfl,C' st2.U Xk (gh (.loop { rec with state:=if jump.isNone then .ready else .done,pending:=jump }) ((List.range n).map s)),X5,
    C' Z2 Xk (gh (.loop { rec with state:=if jump.isNone then .ready else .done,pending:=jump }) ((List.range n).map s)),hs5.le,?_,⟨Ys.1.Np,λi o h1 h2=>?_⟩,af,Ec hn2⟩
   .exact hs5.sat.Ow hn5 hid5 q2 q1 (λ_=>⟨Xk,_,0,c,WY,M'⟩) _ _ henv5
   .have WZ:i≠Xk:=λe=>by rw[e,X8]at h1;cases h1
    obtain⟨g1,g2⟩:=Ys.2 i o (by rw[cA WZ];exact h1) (by rw[cA WZ];exact h2);rw[ab WZ,ab WZ];exact⟨g1,g2⟩
  intro e a2 w2 h;cases e with
  |normal=>
   obtain⟨st2,⟨Z2,Ys,hj⟩,Zm⟩:=h;obtain⟨v,w'',g1,rfl,Z',Y',Xj,g2,g3,g4,g5,g6⟩:=fin st2 a2 w2 none Z2 Zm Ys;refine⟨_,w'',g1,true,Z',Y',rfl,⟨Xj,g4,.inl ⟨rfl,?_,by rw[g6];exact hj⟩⟩,g2,g3⟩;rw[g5];have:({ rec with state:=.ready,pending:=none }:Loop)=rec:=by rw[<-hready,<-hpend]
   simp[this]
  |ret=>
   rcases jo (by simp) _ h with⟨_,st2,⟨Z2,Ys,hj⟩,Zm⟩|⟨_,_,_,h,_⟩
   .obtain⟨v,w'',g1,rfl,Z',Y',Xj,g2,g3,g4,g5,g6⟩:=fin st2 a2 w2 (some .ret) Z2 Zm Ys;exact⟨_,w'',g1,false,Z',Y',rfl,⟨Xj,g4,.inr ⟨rfl,none,g5,by rw[g6];exact hj,by simp⟩⟩,g2,g3⟩
   .cases h
  |exit id=>
   rcases jo (by simp) _ h with⟨h,_⟩|⟨YT,μ,hin,h,st2,hI2,Zm⟩
   .cases h
   .cases h;simp only[gb,Prod.mk.injEq]at hin;obtain⟨id'',hin',rfl,rfl⟩:=hin;obtain⟨Z2,Ys,hj⟩:=hI2;obtain⟨v,w'',g1,rfl,Z',Y',Xj,g2,g3,g4,g5,g6⟩:=fin st2 a2 w2 (some (.exit id'')) Z2 Zm Ys;exact⟨_,w'',g1,false,Z',Y',rfl,⟨Xj,g4,.inr ⟨rfl,some id'',g5,by rw[g6];exact hj,by simp[hin']⟩⟩,g2,g3⟩
  |goto t=>rcases jo (by simp) _ h with⟨h,_⟩|⟨_,_,_,h,_⟩<;>cases h
  |panic ch=>rcases jo (by simp) _ h with⟨h,_⟩|⟨_,_,_,h,_⟩<;>cases h
  |outgrown=>rcases jo (by simp) _ h with⟨h,_⟩|⟨_,_,_,h,_⟩<;>cases h
 |ret=>exact h.2.choose_spec.1.elim
 |exit id=>rcases h.1 with h|h<;>cases h
 |goto t=>rcases h.1 with h|h<;>cases h
 |panic ch=>rcases h.1 with h|h<;>cases h
 |outgrown=>rcases h.1 with h|h<;>cases h
variable {P:Program} {n:Nat} {st:St} {Q:St->Prop} {k:List It} {I:Mu} {w w':World}
def xO{a:Act}{g:Operand}{l:Nat}{f:FuncId}{cv:List Value}(h:a.eval g=.func (.func f) #[] ⟨cv⟩):
 (resolve a.eval (rangeCall g l) 0).run P w=.ok { target:=.fn (.func f) ⟨cv⟩,args:=#[.func (.yield l) #[] #[]] } w:=by
 simp only[resolve,h,Deferred.ofValue];simp[go_sem]
def ag.KM{g:VX}{ps:List Nat}{A B:bN}{gf:FuncId}{caps:List V}(hg:g.ev st.s=.fn gf caps){xs:List (List V)}{Z0:ad}(hs00:aa Z0 st.U)
 (hit:fE P gf=true/\∀(Xk:Nat) (τ Jx:List (List V)->ad->Prop) (o:Ob),st.U Xk=none->
   (∀pre x post ZJ U,xs=pre++x::post->τ pre ZJ->aa ZJ U->
     YC P Xk x U λb Z'=>∃Xj,bb ZJ U Xj Z'/\((b=true/\τ (pre++[x]) Xj)\/(b=false/\Jx (pre++[x]) Xj)))->
   τ [] (C' Z0 Xk o)->tB P gf (.yl Xk::caps) (C' st.U Xk o) λ_ Z'=>τ xs Z'\/∃pre,pre <+: xs/\Jx pre Z')
 (hlen:∀x∈xs,x.length=ps.length)(exits:List Nat)(τ:List (List V)->ad->Prop)(Jx:Option Nat->List (List V)->ad->Prop)(h0:τ [] Z0)
 (hbody:∀pre x post ZJ U,xs=pre++x::post->τ pre ZJ->aa ZJ U->
   ag P n [.code A,.stop λst1=>ag P n (.code B::.stop (λst2=>∃Z2,bb ZJ U Z2 st2.U/\τ (pre++[x]) Z2)::
    exK (exits.map λid=>(id,λst2=>∃Z2,bb ZJ U Z2 st2.U/\Jx (some id) (pre++[x]) Z2))) st1 (λst2=>∃Z2,bb ZJ U Z2 st2.U/\Jx none (pre++[x]) Z2)]
    ⟨nh st.s ps x,U⟩ (λ_=>False))
 (hdone:∀Z',τ xs Z'->ag P n k ⟨st.s,Z'⟩ Q)
 (hexit:∀id∈exits,∀pre Z',pre <+: xs->Jx (some id) pre Z'->ag P n (.code (.exit id)::k) ⟨st.s,Z'⟩ Q)
 (hret:∀pre Z',pre <+: xs->Jx none pre Z'->ag P n (.code .ret::k) ⟨st.s,Z'⟩ Q):ag P n (.code (.eN g ps A B)::k) st Q:=by
 intro F hn kt hk a w hs;subst hn;obtain⟨z,Zz,rfl,hy,YH⟩:=eX hk;obtain⟨c0,rfl,hc⟩:=iq hy;have hc0:∃g0 ps0 a0 b0,c0=.rangeFunc g0 ps0 a0 b0/\cx F.n g0=g/\ps0.toList=ps/\dI P F.n a0=A/\dI P F.n b0=B:=by
  cases c0<;>simp only[dI,reduceCtorEq,bN.eN.injEq]at hc
  case region=>(split at hc;cases hc);split at hc<;>cases hc
  exact⟨_,_,_,_,rfl,hc.1,hc.2.1,hc.2.2.1,hc.2.2.2⟩
 obtain⟨g0,ps0,a0,b0,rfl,rfl,rfl,rfl,rfl⟩:=hc0;obtain⟨I,hs⟩:=hs;have hrg:=cL hs g0;rw[hg]at hrg;simp only[G']at hrg;obtain⟨cv,hgv,hcv⟩:=hrg;refine wpIn_rangeFunc λfn _=>?_;obtain⟨mark,W0,D,Xn,Xq⟩:=hs.enter (P:=P) fn ps0 a0 b0;generalize hrec:({ state:=.ready,pending:=none,fn,tmps:=a.tmps,params:=ps0,assign:=a0,body:=b0,defers:=D }:Loop)=rec at Xq;have hr1:rec.state=.ready:=by rw[<-hrec]
 have hr2:rec.pending=none:=by rw[<-hrec]
 have hr3:rec.tmps=a.tmps:=by rw[<-hrec]
 have hr4:rec.params=ps0:=by rw[<-hrec]
 have hr5:rec.assign=a0:=by rw[<-hrec]
 have hr6:rec.body=b0:=by rw[<-hrec]
 have hszn:rec.tmps.size=F.n:=by rw[hr3];exact hs.size
 have henv:ar I (aA I st.U) W0 ((List.range F.n).map st.s) (tmpsOf (.loop rec)):=by
  have hl:tmpsOf (.loop rec)=(List.range F.n).map λi=>a.tmps.getD i undef:=by
   simp only[tmpsOf,hr3];apply List.ext_getElem
   .simp[hs.size]
   .intro i h1 h2;simp only[cJ,List.length_range]at h2;simp only[Array.getElem_toList,List.getElem_map,List.getElem_range];rw[Zq7,Array.getElem?_eq_getElem (by rw[hs.size];exact h2)];rfl
  rw[hl];have XR:∀l:List Nat,(∀i∈l,i<F.n)->ar I (aA I st.U) W0 (l.map st.s) (l.map λi=>a.tmps.getD i undef):=by
   intro l
   induction l with
   |nil=>intro _;simp[ar]
   |cons i l ih=>
    intro h;simp only[eV,ar];exact⟨_,_,rfl,Xn.slot i (h i (by simp)),ih λj hj=>h j (by simp[hj])⟩
  exact XR _ λi hi=>by simpa using hi
 obtain⟨Xk,hidn,X1,hid1,hle1,hsat1,X6⟩:=Xn.sat.Rb (.loop rec) _ henv;generalize hE:(List.range F.n).map st.s=env at*;have hcvt:ar X1 (aA X1 (C' st.U Xk (gh (.loop rec) env))) (W0.alloc (.loop rec)) caps cv:=by
  have h1:ar I (aA I st.U) W0 caps cv:=by
   have h2:=cL Xn g0;rw[hg]at h2;simp only[G']at h2;obtain⟨cv',h3,h4⟩:=h2;have:a.eval g0=.func (.func gf) #[] ⟨cv'⟩:=h3;rw[hgv]at this;simp only[Value.func.injEq,Array.mk.injEq,true_and]at this;rw[this];exact h4
  exact ar.mono hle1 X6 (by simp) _ _ h1
 obtain⟨XY,hiter⟩:=hit;have key:=hiter Xk (λpre ZJ=>ZJ Xk=some (gh (.loop rec) env)/\τ pre (del ZJ Xk))
  (λpre ZJ=>∃e:Option Nat,ZJ Xk=some (gh (.loop { rec with state:=.done,pending:=some (ID e) }) env)/\Jx e pre (del ZJ Xk)/\∀id,e=some id->id∈exits)
  (gh (.loop rec) env) hidn ?_ ⟨af,by rw[Ec (hs00.none hidn)];exact h0⟩
 .refine⟨W0.heap.size,mark,_,_,_,gf,_,_,by rw[show F.fg.round=F.fg.round from rfl];exact Xq,xO hgv,λ_ _=>trivial,
   by simp only[invoke];exact mq XY _,lv F,pg ?_⟩
  have XE:ar X1 (aA X1 (C' st.U Xk (gh (.loop rec) env))) (W0.alloc (.loop rec)) (.yl Xk::caps) (.func (.yield W0.heap.size) #[] #[]::cv):=by
   simp only[ar];exact⟨_,_,rfl,by simp[G',hid1],hcvt⟩
  have Yj:=key X1 _ _ hsat1.here XE;have hvals:(Value.func (.yield W0.heap.size) #[] #[]::cv).toArray=#[.func (.yield W0.heap.size) #[] #[]]++⟨cv⟩:=by
   apply Array.ext';simp
  rw[hvals]at Yj;refine Yj.mono ?_;rintro e w2 ⟨r,Z',Y',val,rfl,hp,hle2,Zm,-⟩;obtain⟨hs3,hk3⟩:=hsat1.compose Zm;have hid2:Y' Xk=.XN W0.heap.size 0 0:=(hle2 Xk (by rw[hid1];simp)).trans hid1;have fin:∀(rec2:Loop),Z' Xk=some (gh (.loop rec2) env)->rec2.state≠.busy->∃w4,(Instr.endLoop W0.heap.size).run P w2=.ok rec2.pending w4/\
   fU F ⟨st.s,del Z' Xk⟩ { a with defers:=mark++a.defers } w4:=by
   intro rec2 X8 WM;obtain⟨hl2,henv2⟩:=Zm.NN X8 hid2;refine⟨_,run_endLoop hl2 WM,Y',?_⟩;have hset:=hs3.TD X8 hid2 (.loop { rec2 with state:=.exhausted }) env henv2;have E':aa (del Z' Xk) (C' Z' Xk (gh (.loop { rec2 with state:=.exhausted }) env)):=λi o h=>by
    unfold del at h;split at h
    .cases h
    .rename_i hi;rw[ab hi];exact h
   have hks:=dp.sub (I:=Y') (w2.putObj W0.heap.size (.loop { rec2 with state:=.exhausted })) E';have hsz2:=Zm.size;have hkall:dp (aA I st.U) (aA Y' (del Z' Xk)) W0 (w2.putObj W0.heap.size (.loop { rec2 with state:=.exhausted })):=λb hb hn=>by
    obtain⟨q1,q2⟩:=X6 b hb hn;have hb1:b<(W0.alloc (.loop rec)).heap.size:=by simp;omega
    obtain⟨q3,q4⟩:=hk3 b hb1 q1;have W1:b<w2.heap.size:=Nat.lt_of_lt_of_le hb1 hsz2;obtain⟨q5,q6⟩:=hset.2 b W1 q3;exact⟨λho=>q5 (ho.sub E'),q6.trans (q4.trans q2)⟩
   have hle3:dx I Y':=hle1.trans hle2;have hz:W0.heap.size<=(w2.putObj W0.heap.size (.loop { rec2 with state:=.exhausted })).heap.size:=by
    simp at hsz2|-;omega
   exact⟨hset.1.drop E',Xn.le.trans hle3,Xn.size,Xn.book.nv hkall,λi hi=>G'.mono hle3 hkall hz _ _ (Xn.slot i hi)⟩
  rcases hp with⟨X8,hj⟩|⟨pre,hpre,e,X8,hj,hin⟩
  .obtain⟨w4,g1,g2⟩:=fin rec X8 (by rw[hr1];simp);refine⟨_,w4,g1,?_⟩;rw[hr2];exact hdone _ hj F rfl Zz YH _ _ g2
  .obtain⟨w4,g1,g2⟩:=fin _ X8 (by simp);refine⟨_,w4,g1,?_⟩;cases e with
   |none=>exact hret pre _ hpre hj F rfl (.code .ret::Zz) (by simp[KI.it,YH,dI]) _ _ g2
   |some id=>exact hexit id (hin id rfl) pre _ hpre hj F rfl (.code (.exit id)::Zz) (by simp[KI.it,YH,dI]) _ _ g2
 .intro pre x post ZJ U ZL hJ E';have hx:x.length=rec.params.toList.length:=by rw[hr4];exact hlen x (by rw[ZL];simp)
  have hb:=hbody pre x post (del ZJ Xk) (del U Xk) ZL hJ.2 (D1 E');subst hE;refine Jt hr1 hr2 hszn hx hJ.1 E' (τ (pre++[x])) exits (λe=>Jx e (pre++[x])) ?_;rw[hr4,hr5,hr6];exact hb
def ag.eN{g:VX}{ps:List Nat}{A B:bN}{gf:FuncId}{caps:List V}(hg:g.ev st.s=.fn gf caps){xs:List (List V)}(hit:Iter P gf caps xs)
 (hlen:∀x∈xs,x.length=ps.length)(exits:List Nat)(τ:List (List V)->ad->Prop)(Jx:Option Nat->List (List V)->ad->Prop)(h0:τ [] st.U)
 (hbody:∀pre x post ZJ U,xs=pre++x::post->τ pre ZJ->aa ZJ U->
   ag P n [.code A,.stop λst1=>ag P n (.code B::.stop (λst2=>∃Z2,bb ZJ U Z2 st2.U/\τ (pre++[x]) Z2)::
    exK (exits.map λid=>(id,λst2=>∃Z2,bb ZJ U Z2 st2.U/\Jx (some id) (pre++[x]) Z2))) st1 (λst2=>∃Z2,bb ZJ U Z2 st2.U/\Jx none (pre++[x]) Z2)]
    ⟨nh st.s ps x,U⟩ (λ_=>False))
 (hdone:∀Z',τ xs Z'->ag P n k ⟨st.s,Z'⟩ Q)
 (hexit:∀id∈exits,∀pre Z',pre <+: xs->Jx (some id) pre Z'->ag P n (.code (.exit id)::k) ⟨st.s,Z'⟩ Q)
 (hret:∀pre Z',pre <+: xs->Jx none pre Z'->ag P n (.code .ret::k) ⟨st.s,Z'⟩ Q):ag P n (.code (.eN g ps A B)::k) st Q:=
 ag.KM hg (aa.refl _) ⟨hit.1,λXk J' Jx' _ _ hb h=>hit.2 Xk J' Jx' _ hb h⟩ hlen exits τ Jx h0 hbody hdone hexit hret
variable {P:Program} {n:Nat} {st:St} {Q:St->Prop} {k:List It}
def ef(W9:List (List Nat))(A':List Nat):List Nat:=(List.range W9.length).filter λi=>!A'.contains i&&(W9.getD i []).all A'.contains
abbrev kF(ops:Array Oper):List (List Nat):=ops.toList.map λo=>(o.after.toList.filter (Region.binds .any)).map (·.on)
def yA{ops:Array Oper}{arr:Array Bool}{A':List Nat}(hs:arr.size=ops.size)(hl:∀i,i<ops.size->arr.getD i true=A'.contains i)
 (ho:∀i∈A',i<ops.size):Region.ready .any ops arr=ef (kF ops) A':=by
 unfold Region.ready ef;have hlen:(kF ops).length=ops.size:=by simp[kF]
 rw[hlen];refine List.filter_congr λi hi=>?_;have hi:i<ops.size:=by simpa using hi
 rw[hl i hi];congr 1;have h1:ops[i]?=some ops[i]:=Array.getElem?_eq_getElem hi;have h2:(kF ops).getD i []=(ops[i].after.toList.filter (Region.binds .any)).map (·.on):=by
  rw[sc];simp[kF,hi]
 rw[h1,h2];simp only[Option.map_some,Option.getD_some];rw[<-Array.all_toList,List.all_map,List.all_filter];congr 1;funext e;simp only[Function.comp];have h3:arr.getD e.on false=A'.contains e.on:=by
  by_cases he:e.on<ops.size
  .rw[<-hl _ he,Zq7,Zq7,Array.getElem?_eq_getElem (by omega)];rfl
  .rw[Zq7,Array.getElem?_eq_none (by omega)];simp only[Option.getD_none];symm;rw[Bool.eq_false_iff];intro hc;exact he (ho _ (by simpa using hc))
 rw[h3]
def aa.pI{Z0 U:ad}{e:Nat}(h:aa Z0 U)(he:Z0 e=Option.none):aa Z0 (del U e):=λi x hx=>by
 have WZ:i≠e:=λe'=>by rw[e',he]at hx;cases hx
 rw[cA WZ];exact h i x hx
def me:(∀{P:Program} {O:Yi P} {n:Nat} {k:List It} {st:St} {Q:St->Prop},step P O n 0 (.r k) st Q=Kof P n k st Q)/\(∀{P:Program} {n:Nat} {c:bN} {k:List It} {st:St} {Q:St->Prop},Kof P n (.code c::k) st Q=ag P n (.code c::k) st Q)/\
 (∀{P:Program} {n:Nat} {l:List aC} {k:List It} {st:St} {Q:St->Prop},Kof P n (.ops l::k) st Q=ag P n (.ops l::k) st Q)/\(∀{P:Program} {n id:Nat} {k:List It} {st:St} {Q:St->Prop},Kof P n (.inBlock id::k) st Q=ag P n (.inBlock id::k) st Q)/\
 ∀{P:Program} {n:Nat} {st:St} {Q:St->Prop},Kof P n [] st Q=ag P n [] st Q:=⟨rfl,rfl,rfl,rfl,rfl⟩
def Wk.aB{U Z':ad}(sz:Nat):Wk U Z' .aB (.sl sz []):=by
 intro I w0 w XQ x hs hr;simp only[G']at hr|-;exact⟨none,0,by simpa using hr,by simp,.inl trivial⟩
def aq(K U:ad)(e sz:Nat)(v:V)(rows:List V):Prop:=(v=.aB/\rows=[])\/∃id,v=.own id 0 rows.length/\U id=some ⟨e,sz,rows⟩/\K id=none
def aq.wk{K U:ad}{e sz:Nat}{v:V}{rows:List V}(h:aq K U e sz v rows){K':ad}(hK:aa K' K)(hs:aa K' U):Wk U K' v (.sl sz rows):=by
 rcases h with⟨rfl,rfl⟩|⟨id,rfl,ho,hk⟩
 .exact Wk.aB sz
 .have:=Wk.own hs ho (hK.none hk) (off:=0) (len:=rows.length) (by simp);rw[Du,dR]at this;exact this
def aq.ni{K U:ad}{e sz:Nat}{v:V}{rows:List V}(h:aq K U e sz v rows)(hs:aa K U){v0:V}(hv:V.sl sz rows=v0):
 ai v U λr Z'=>r=v0/\Z'=K:=⟨_,K,hs,h.wk (aa.refl K) hs,hv,rfl⟩
def aX{P:Program}{n:Nat}{Q:St->Prop}{k:List It}{O:Yi P}{f:Nat}{d:Option Nat}{l:List aC}{v:Nat->V}{ob:Ob}{s:Nat->V}{U:ad}{e:Option Nat}
 (h:∀id Z',aa (bz U e) Z'->Z' id=some ob->U id=none->step P O n f (.r (.ops l::k)) ⟨aO s d (v id),Z'⟩ Q):
 Gq P O n f l k d ⟨s,U⟩ Q (some λid=>(v id,Vc.C' (bz U e) id ob)):=by
 rw[bh];refine λid M'=>h id _ ((aa.refl _).C' ?_) af M';cases e with
 |none=>exact M'
 |some e=>
  simp only[bz,del];split
  .rfl
  .exact M'
def eu{P:Program}{n:Nat}{Q:St->Prop}{k:List It}{O:Yi P}{f:Nat}{d:Option Nat}{l:List aC}{v:Nat->V}{ob:Ob}{s:Nat->V}{U:ad}{e:Option Nat}
 (h:∀id Z',aa (bz U e) Z'->Z' id=some ob->U id=none->step P O n f (.d l k) ⟨aO s d (v id),Z'⟩ Q):
 Gt P O n f l k d ⟨s,U⟩ Q (some λid=>(v id,Vc.C' (bz U e) id ob)):=by
 rw[dM];refine λid M'=>h id _ ((aa.refl _).C' ?_) af M';cases e with
 |none=>exact M'
 |some e=>
  simp only[bz,del];split
  .rfl
  .exact M'
def aq.dst{K U:ad}{e sz:Nat}{v:V}{rows:List V}(h:aq K U e sz v rows){Z1:ad}(hs:aa U Z1):
 ∃idA,bC Z1 e sz v=some (rows,idA)/\∀K':ad,aa K' K->∀Z2,aa K' Z2->aa K' (bz Z2 idA):=by
 rcases h with⟨rfl,rfl⟩|⟨id,rfl,ho,hk⟩
 .exact⟨none,rfl,λ_ _ _ h=>h⟩
 .refine⟨some id,?_,λK' hK Z2 h=>h.pI (hK.none hk)⟩;simp only[bC,hs _ _ ho];rw[ak ⟨trivial,trivial,trivial,Xc _⟩,dR]
def aq.start{K U:ad}{e sz:Nat}:aq K U e sz .aB []:=.inl ⟨rfl,rfl⟩
def aq.new{K U:ad}{e sz id:Nat}{rows:List V}{n:Nat}(hn:n=rows.length)(h:U id=some ⟨e,sz,rows⟩)(hk:K id=none):aq K U e sz (.own id 0 n) rows:=by
 subst hn;exact .inr ⟨id,rfl,h,hk⟩
def aq.len{K U:ad}{e sz:Nat}{v:V}{rows:List V}(h:aq K U e sz v rows):dv false v=some (.int .i64 rows.length):=by
 rcases h with⟨rfl,rfl⟩|⟨id,rfl,ho,hk⟩<;>rfl
def aq.mono{K U Z':ad}{e sz:Nat}{v:V}{rows:List V}(h:aq K U e sz v rows)(hs:aa U Z'):aq K Z' e sz v rows:=by
 rcases h with h|⟨id,h1,h2,h3⟩
 .exact .inl h
 .exact .inr ⟨id,h1,hs _ _ h2,h3⟩
def bl{U:ad}{id e sz:Nat}{r:V}(h:U id=some ⟨e,sz,[r]⟩):bc U sz (.own id 0 1)=some [r]:=by
 simp[bc,h]
def Wk.ptr{U Z':ad}(h:aa Z' U){id:Nat}{e sz:Nat}{r:V}(ho:U id=some ⟨e,sz,[r]⟩)(M':Z' id=none):Wk U Z' (.ptr id 0 0) (.rp r):=by
 intro I w0 w XQ x hs hr;simp only[G']at hr|-;have XL:=hs.obj id _ ho;split at hr
 .rename_i b sz' cap hb;obtain⟨rfl,hz⟩:=hr;rw[hb]at XL;have B':b<w.heap.size:=aA.lt hs ⟨id,_,_,_,ho,hb⟩;obtain⟨g1,g2,g3,g4,g5⟩:=XL.rows hz;refine⟨b,_,rfl,B',.inr ?_,?_⟩
  .rintro⟨YT,ob',sz'',cap'',e1,e2⟩;have:=hs.inj YT id ob' _ _ _ _ _ _ (h _ _ e1) ho e2 hb;rw[this,M']at e1;cases e1
  .simp only[aW]at g5;have:=aW.mono (dx.refl I) (dp.sub w h) (Xc _) [r] b 0 sz' rfl (by simp only[aW];exact⟨g5.1,g5.2.1,trivial⟩);simp only[aW]at this;simpa using this.2.1
 .exact hr.elim
def Wk.fn{U Z':ad}{f:FuncId}{vs vs':List V}(h:WkL U Z' vs vs'):Wk U Z' (.fn f vs) (.fn f vs'):=by
 intro I w0 w XQ x hs hr;simp only[G']at hr|-;obtain⟨WL,rfl,h1⟩:=hr;exact⟨WL,rfl,WkL.all hs h h1⟩
def V.xX(vs:List V):V.cells (.agg vs)=vs:=rfl
open Go.Proofs
section
variable {P:Program} {n:Nat} {st:St} {Q:St->Prop} {k:List It}
def Go.NG{i:aC}{l:List aC}{fx:VX}{xs:List VX}{f:FuncId}{caps:List V}{v:V}(hw:bg st.s i.g=some true)(ho:i.op=.call fx xs)
 (hf:fx.ev st.s=.fn f caps)(hc:aE P f (xs.map (·.ev st.s)++caps) v)(h:Go P n (.d l k) ⟨aO st.s i.dst v,st.U⟩ Q):Go P n (.d (i::l) k) st Q:=by
 refine pU hw ?_;rw[ho];exact⟨f,caps,v,hf,λZ1 _=>hc Z1,h⟩
def pJ{P:Program}{n:Nat}{st:St}{Q:St->Prop}{k}{i:aC}{l:List aC}{fx:VX}{xs:List VX}{f:FuncId}{caps:List V}{v:V}(hw:(bg st.s i.g,i.op,fx.ev st.s)=(some true,.call fx xs,.fn f caps))(hc:aE P f (xs.map (·.ev st.s)++caps) v)(h:Go P n (.d l k) ⟨aO st.s i.dst v,st.U⟩ Q):Go P n (.d (i::l) k) st Q:=Go.NG (congrArg (·.1) hw) (congrArg (·.2.1) hw) (congrArg (·.2.2) hw) hc h
end
def oE{U:ad}{id:Nat}{o:Ob}(h:U id=some o):C' U id o=U:=by
 funext i;simp only[C'];split
 .rename_i e;rw[e,h]
 .rfl
def Bq(n:Int):Prop:=-1152921504606846976<=n/\n<=1152921504606846976
def rO(n:Int):aE prog 29 [vI n] (.bool (decide (1<=n/\n<=1099511627776))):=λU=>by
 refine e29.q ?_;apply sR;simp only[go_sem,seval,c29];refine And.intro (λh=>?_) (λh=>?_)
 .exact ai.same (by congr 1;exact decide_eq_decide.2 (by omega))
 .exact ai.same (by congr 1;exact(XJ (by omega)).symm)
def du(n:Int):Int:=max (-1099511627776) (min n 1099511627776)
def A0(n:Int):aE prog 80 [vI n] (vI (du n)):=λU=>by
 refine e80.q ?_;apply sR;simp only[go_sem,seval,c80];exact ai.same (by congr 1;unfold du;split<;>split<;>omega)
structure Xr where
 (a b:Int)
deriving DecidableEq
def aP(s:Xr):V:=.agg [vI s.a,vI s.b]
def uA(s:Xr):aE prog 286 [aP s] (.bool (decide (s.b<=s.a))):=λU=>by
 refine Vt.q ?_;apply sR;simp only[go_sem,seval,Pf,aP];refine aj λi1 Z1 s1 a1 f1=>?_;simp only[go_sem,seval,a1];exact ai.pure s1 rfl
def fj(s:Xr):Int:=if s.b<=s.a then 0 else s.b-s.a
def XU(n:Int):Prop:=-2305843009213693952<=n/\n<=2305843009213693952
def H9(s:Xr)(ha:XU s.a)(hb:XU s.b):aE prog 262 [aP s] (vI (fj s)):=λU=>by
 obtain⟨h1,h2⟩:=ha;obtain⟨h3,h4⟩:=hb;refine TE.q ?_;apply sR;simp only[go_sem,seval,Rw,aP];refine aj λi1 Z1 s1 a1 f1=>?_;simp only[go_sem,seval,a1];refine pS rfl (uA ⟨_,_⟩ _) ?_;simp only[go_sem,seval,a1];unfold fj;refine And.intro (λh=>?_) (λh=>?_)
 .rw[ak h];exact ai.pure s1 rfl
 .rw[au h];exact⟨ae,ai.pure s1 rfl⟩
open Go.Proofs
def nu(a b:Xr):Xr:=if a.b<=a.a\/b.b<=b.a\/min a.b b.b<=max a.a b.a then⟨0,0⟩else⟨max a.a b.a,min a.b b.b⟩
def cg(a b:Int):(if b>a then b else a)=max a b:=by split<;>omega
def dN(a b:Int):(if b<a then b else a)=min a b:=by split<;>omega
def Nn(x y:Xr):aE prog 296 [aP x,aP y] (aP (nu x y)):=λU=>by
 refine VM.q ?_;have hs:=aa.refl U;refine mS 6 ?_;simp only[go_sem,seval,OR,aP];refine al hs λi2 Z2 s2 a2 f2 _ hs=>?_;simp only[go_sem,seval];refine al hs λi3 Z3 s3 a3 f3 _ hs=>?_;replace a2:=s3 _ _ a2;simp only[go_sem,seval];refine al hs λi4 Z4 s4 a4 f4 z4 hs=>?_;replace a2:=s4 _ _ a2;replace a3:=s4 _ _ a3;simp only[go_sem,seval,a3,a2];refine al hs λi5 Z5 s5 a5 f5 z5 hs=>?_;obtain⟨n25,a2⟩:=WG a2 f5 s5;obtain⟨n35,a3⟩:=WG a3 f5 s5;obtain⟨ZW,a4⟩:=WG a4 f5 s5;simp only[go_sem,seval,a5,a2,cg,dN,ab n25];generalize hq5:C' _ i5 _=Y5;replace a5:=XD hq5;replace a2:=WQ hq5 n25 a2;replace a3:=WQ hq5 n35 a3;replace a4:=WQ hq5 ZW a4;replace hs:=Xz hq5 hs z5;refine pR rfl (uA ⟨_,_⟩ _) ?_;unfold nu;by_cases h1:x.b<=x.a
 .rw[ak (.inl h1),XK h1];apply sR;simp only[go_sem,seval,a4];exact ai.pure (hs.ao z4) rfl
 rw[XJ h1];apply sR;simp only[go_sem,seval,a3];refine pR rfl (uA ⟨_,_⟩ _) ?_;by_cases h2:y.b<=y.a
 .rw[ak (.inr (.inl h2)),XK h2];apply sR;simp only[go_sem,seval,a4];exact ai.pure (hs.ao z4) rfl
 rw[XJ h2];apply sR;simp only[go_sem,seval,a5];refine pR rfl (uA ⟨_,_⟩ _) ?_;by_cases h3:min x.b y.b<=max x.a y.a
 .rw[ak (.inr (.inr h3)),XK h3];apply sR;simp only[go_sem,seval,a4];exact ai.pure (hs.ao z4) rfl
 .rw[au (by omega),XJ h3];apply sR;simp only[go_sem,seval,a4,a5];exact ai.pure (hs.ao z4) rfl
def KN(x y:Xr):aE prog 294 [aP x,aP y] (.bool (decide (nu x y=⟨0,0⟩))):=λU=>by
 refine V5.q ?_;have hs:=aa.refl U;refine mS 5 ?_;simp only[go_sem,seval,Sx,aP];refine al hs λi2 Z2 s2 a2 f2 _ hs=>?_;simp only[go_sem,seval];refine al hs λi3 Z3 s3 a3 f3 _ hs=>?_;replace a2:=s3 _ _ a2;simp only[go_sem,seval,a3,a2];refine pR rfl (Nn ⟨_,_⟩ ⟨_,_⟩ _) ?_;have e:(⟨x.a,x.b⟩:Xr)=x:=rfl;have e':(⟨y.a,y.b⟩:Xr)=y:=rfl;rw[e,e'];generalize nu x y=m;obtain⟨u,v⟩:=m;apply sR;simp only[go_sem,seval,aP];refine ai.pure hs ?_;by_cases h1:u=0<;>by_cases h2:v=0<;>simp[h1,h2]
structure Rct where
 (x y w h:Int)
deriving DecidableEq
def Mg(r:Rct):V:=.agg [vI r.x,vI r.y,vI r.w,vI r.h]
def Dn(r:Rct)(h1:Bq r.y)(h2:Bq r.h):aE prog 237 [Mg r] (aP ⟨r.y,r.y+r.h⟩):=λU=>by
 obtain⟨g1,g2⟩:=h1;obtain⟨g3,g4⟩:=h2;refine V2.q ?_;have hs:=aa.refl U;apply sR;simp only[go_sem,seval,RN,Mg];refine al hs λi1 Z1 s1 a1 f1 _ hs=>?_;simp only[go_sem,seval];refine al hs λi2 Z2 s2 a2 f2 z2 hs=>?_;replace a1:=s2 _ _ a1;simp only[go_sem,seval,a2,a1];exact⟨ae,ai.pure (hs.ao z2) rfl⟩
def Iq(r:Rct)(h1:Bq r.x)(h2:Bq r.w):aE prog 288 [Mg r] (aP ⟨r.x,r.x+r.w⟩):=λU=>by
 obtain⟨g1,g2⟩:=h1;obtain⟨g3,g4⟩:=h2;refine TF.q ?_;have hs:=aa.refl U;apply sR;simp only[go_sem,seval,Pu,Mg];refine al hs λi1 Z1 s1 a1 f1 _ hs=>?_;simp only[go_sem,seval];refine al hs λi2 Z2 s2 a2 f2 z2 hs=>?_;replace a1:=s2 _ _ a1;simp only[go_sem,seval,a2,a1];exact⟨ae,ai.pure (hs.ao z2) rfl⟩
structure Pn where
 (y m:Int)
deriving DecidableEq
def di(p:Pn):V:=.agg [vI p.y,vI p.m]
def F3(p:Pn)(h1:Bq p.y)(h2:Bq p.m):aE prog 134 [di p] (vI (p.y+p.m)):=λU=>by
 obtain⟨g1,g2⟩:=h1;obtain⟨g3,g4⟩:=h2;refine Ts.q ?_;have hs:=aa.refl U;apply sR;simp only[go_sem,seval,Q6,di];refine al hs λi1 Z1 s1 a1 f1 _ hs=>?_;simp only[go_sem,seval,a1];exact⟨ae,ai.pure hs rfl⟩
def Nw(p:Pn)(y h:Int)(h1:Bq y)(h2:Bq h):aE prog 231 [di p,vI y,vI h] (di ⟨y+h,0⟩):=λU=>by
 obtain⟨g1,g2⟩:=h1;obtain⟨g3,g4⟩:=h2;refine Vm.q ?_;have hs:=aa.refl U;apply sR;simp only[go_sem,seval,Qj,di];refine al hs λi1 Z1 s1 a1 f1 _ hs=>?_;simp only[go_sem,seval];refine al hs λi2 Z2 s2 a2 f2 z2 hs=>?_;replace a1:=s2 _ _ a1;simp only[go_sem,seval,a2];exact⟨ae,ai.pure (hs.ao z2) rfl⟩
def eH(p:Pn)(low:Int):Pn:=if low>p.y+p.m then⟨low,0⟩else p
def Jz(p:Pn)(low:Int)(h1:Bq p.y)(h2:Bq p.m):aE prog 174 [di p,vI low] (di (eH p low)):=λU=>by
 refine UA.q ?_;have hs:=aa.refl U;refine mS 5 ?_;simp only[go_sem,seval,PL,di];refine al hs λi2 Z2 s2 a2 f2 _ hs=>?_;simp only[go_sem,seval];refine al hs λi4 Z4 s4 a4 f4 z4 hs=>?_;replace a2:=s4 _ _ a2;simp only[go_sem,seval,a2];refine pR rfl (F3 ⟨_,_⟩ h1 h2 _) ?_;unfold eH;by_cases h:low>p.y+p.m
 .have q:(low>p.y+p.m)=True:=L' h;rw[ak h];apply sR;simp only[go_sem,seval,a4,q];exact ai.pure (hs.ao z4) rfl
 .have q:(low>p.y+p.m)=False:=H' h;rw[au h];apply sR;simp only[go_sem,seval,a4,a2,q];exact ai.pure (hs.ao z4) rfl
def E8(y m n:Int){U:ad}{id:Nat}(M':U id=some ⟨301,2,[.agg [vI y,vI m]]⟩):av prog 228 [.ptr id 0 0,vI n] U λr Z'=>r=.WC []/\Z'=C' U id ⟨301,2,[.agg [vI y,vI (max m n)]]⟩:=by
 refine TL.q ?_;apply sR;simp only[go_sem,seval,OU,M',cg];exact XX ⟨rfl,rfl⟩
def MV(y m n:Int)(hy:Bq y)(hm:Bq m)(hn:Bq n){U:ad}{id:Nat}(M':U id=some ⟨301,2,[.agg [vI y,vI m]]⟩):av prog 229 [.ptr id 0 0,vI n] U λr Z'=>r=.WC []/\Z'=C' U id ⟨301,2,[.agg [vI (if n>0 then y+m+n else y),vI (if n>0 then 0 else m)]]⟩:=by
 obtain⟨g1,g2⟩:=hy;obtain⟨g3,g4⟩:=hm;obtain⟨g5,g6⟩:=hn;refine TN.q ?_;by_cases h:n>0
 .have q:(n>0)=True:=L' h;rw[ak h,ak h];apply sR;simp only[go_sem,seval,Oq,M',q];exact⟨ae,ae,_,_,aa.refl _,Wk.refl (aa.refl _) _,rfl,rfl⟩
 .have q:(n>0)=False:=H' h;rw[au h,au h];apply sR;simp only[go_sem,seval,Oq,q];exact XX ⟨rfl,(by funext i;simp only[C'];split<;>simp_all)⟩
open Go.Proofs
structure T' where
 (node side anchor x y w h:Int)
deriving DecidableEq
def az(f:T'):V:=.agg [vI f.node,vI f.side,vI f.anchor,vI f.x,vI f.y,vI f.w,vI f.h]
def ax(l:List T'):V:=.sl 7 (l.map az)
def jf(f:T'):V:=.agg [vI f.node,vI f.side,vI f.anchor,vI f.x,vI f.y,vI f.w,vI f.h,vI f.x,vI f.y,vI f.w,vI f.h]
def T'.ok(f:T'):Prop:=Bq f.x/\Bq f.y/\Bq f.w/\Bq f.h
def dO{U:ad}{l:List T'}{i:Nat}(h:i<l.length):bp U 7 (ax l) (.int .i64 i)=some (.rp (az l[i])):=by simp[ax,bp,h]
def cF(l:List T'):dv false (ax l)=some (.int .i64 l.length):=by simp[ax,dv]
def Mz(f:T'):aE prog 236 [az f] (jf f):=λU=>by
 refine UP.q ?_;have hs:=aa.refl U;apply sR;simp only[go_sem,seval,Qs,az];refine al hs λi1 Z1 s1 a1 f1 _ hs=>?_;simp only[go_sem,seval];refine al hs λi2 Z2 s2 a2 f2 z2 hs=>?_;replace a1:=s2 _ _ a1;simp only[go_sem,seval,a2,a1];exact ai.pure (hs.ao z2) rfl
def A5(f:T')(hf:f.ok):aE prog 184 [jf f] (vI (f.y+f.h)):=λU=>by
 refine TG.q ?_;have hs:=aa.refl U;apply sR;simp only[go_sem,seval,QF,jf];refine al hs λi1 Z1 s1 a1 f1 _ hs=>?_;simp only[go_sem,seval,a1];refine pS rfl (Dn ⟨_,_,_,_⟩ hf.2.1 hf.2.2.2 _) ?_;simp only[go_sem,seval,aP];exact ai.pure hs rfl
def ew(y high:Int)(f:T'):Bool:=!decide (nu ⟨f.y,f.y+f.h⟩ ⟨y,y+max high 1⟩=⟨0,0⟩)
def LX(f:T')(y high:Int)(hf:f.ok)(hy:XU y)(hh:Bq high):aE prog 287 [jf f,vI y,vI high] (.bool (ew y high f)):=λU=>by
 obtain⟨g1,g2⟩:=hy;obtain⟨g3,g4⟩:=hh;refine Tj.q ?_;have hs:=aa.refl U;refine mS 7 ?_;simp only[go_sem,seval,Rz,jf];refine al hs λi3 Z3 s3 a3 f3 _ hs=>?_;simp only[go_sem,seval,a3];refine pS rfl (Dn ⟨_,_,_,_⟩ hf.2.1 hf.2.2.2 _) ?_;simp only[go_sem,seval,cg];refine⟨ae,?_⟩;refine pS rfl (KN ⟨_,_⟩ ⟨_,_⟩ _) ?_;simp only[go_sem,seval];rw[show max high 1=max 1 high by omega];exact ai.pure hs (by simp[ew,Int.max_comm])
def gN(f:T')(s:Xr):Xr:=if f.side=1 then⟨max s.a (f.x+f.w),s.b⟩else⟨s.a,min s.b f.x⟩
def MB(f:T')(s:Xr)(hf:f.ok):aE prog 265 [jf f,aP s] (aP (gN f s)):=λU=>by
 refine TV.q ?_;have hs:=aa.refl U;refine mS 6 ?_;simp only[go_sem,seval,Rp,jf,aP];refine al hs λi2 Z2 s2 a2 f2 _ hs=>?_;simp only[go_sem,seval];refine al hs λi3 Z3 s3 a3 f3 z3 hs=>?_;replace a2:=s3 _ _ a2;simp only[go_sem,seval];refine al hs λi4 Z4 s4 a4 f4 z4 hs=>?_;obtain⟨n24,a2⟩:=WG a2 f4 s4;obtain⟨n34,a3⟩:=WG a3 f4 s4;simp only[go_sem,seval,a2];refine pS rfl (Iq ⟨_,_,_,_⟩ hf.1 hf.2.2.1 _) ?_;simp only[go_sem,seval,aP];refine al hs λi5 Z5 s5 a5 f5 z5 hs=>?_;obtain⟨n25,a2⟩:=WG a2 f5 s5;obtain⟨n35,a3⟩:=WG a3 f5 s5;obtain⟨ZW,a4⟩:=WG a4 f5 s5;unfold gN;by_cases h:f.side=1
 .have q:(f.side=1)=True:=L' h;rw[ak h];simp only[go_sem,seval,a5,a4,a3,a2,q,cg,ab n25,ab n35,ab ZW,ab n34.symm];exact ai.pure (((hs.ao z5).ao z3).ao z4) rfl
 .have q:(f.side=1)=False:=H' h;rw[au h];simp only[go_sem,seval,a5,a4,a3,a2,q,dN,ab n25,ab n35,ab ZW,ab n34.symm];exact ai.pure (((hs.ao z5).ao z3).ao z4) rfl
open Go.Proofs
def lp{α:Type}(p:α->Bool)(l:List α){i:Nat}(h:i<l.length):(l.take (i+1)).filter p=(l.take i).filter p++if p l[i]then[l[i]]else[]:=by
 rw[Yz h,List.filter_append];cases hp:p l[i]<;>simp[hp]
def MG(l:List T')(y high:Int)(hl:l.length<=1000000)(WB:∀f∈l,f.ok)(hy:XU y)(hh:Bq high)(g:FuncId)(caps:List V)(τ:List T'->ad->Prop)
 (hJ:∀pre U Z',τ pre U->aa U Z'->τ pre Z')
 (hg:∀pre f U,f∈l->τ pre U->av prog g (jf f::caps) U λr Z'=>r=.WC []/\τ (pre++[f]) Z'){U:ad}(h0:τ [] U):
 av prog 263 [ax l,vI y,vI high,.fn g caps] U λr Z'=>r=.WC []/\τ (l.filter (ew y high)) Z':=by
 refine Vl.q ?_;refine mS 14 ?_;simp only[go_sem,seval,SC,cF];refine ag.loop (λm st=>∃i:Nat,i<=l.length/\m=l.length-i/\τ ((l.take i).filter (ew y high)) st.U/\st.s 1=vI y/\st.s 2=vI high/\st.s 3=.fn g caps/\st.s 11=ax l/\st.s 12=vI l.length/\st.s 13=vI i) l.length ?_ ?_
 .exact⟨0,by omega,rfl,h0,rfl,rfl,rfl,rfl,rfl,rfl⟩
 .rintro m ⟨s,Z'⟩ ⟨i,hi,rfl,hj,k1,k2,k3,ZM,Zi,k13⟩;simp only at hj k1 k2 k3 ZM Zi k13;refine ag.mix 14 ?_;by_cases B':i<l.length
  .have q:=qT B';have Xx:=λU=>dO (U:=U) B';have hmem:=Xo B';have hfok:=WB _ hmem;have W4:=lp (ew y high) l B';generalize l[i]=f at*;have hs:=aa.refl Z';apply sR;simp only[go_sem,seval,ZM,Zi,k13,q,Xx,az];refine al hs λi9 Z9 s9 a9 f9 z9 hs=>?_;simp only[go_sem,seval,a9];generalize Xw:C' _ i9 _=Y9;replace a9:=XD Xw;replace hs:=Xz Xw hs z9;refine pS rfl (Mz f _) ?_;simp only[go_sem,seval,jf];refine al hs λi10 Z10 Yt Xm f10 Zn hs=>?_;obtain⟨n910,a9⟩:=WG a9 f10 Yt;simp only[go_sem,seval,Xm,k1,k2];generalize Xu:C' _ i10 _=Y10;replace Xm:=XD Xu;replace a9:=WQ Xu n910 a9;replace hs:=Xz Xu hs Zn;refine pR rfl (LX f y high hfok hy hh _) ?_;cases hm:ew y high f
   .rw[hm]at W4;apply sR;simp only[go_sem,seval,k1,k2,k3,ZM,Zi,k13];refine⟨ae,_,by omega,i+1,by omega,rfl,?_,by simp⟩;rw[W4];simpa using hJ _ _ _ hj hs
   .rw[hm]at W4;apply sR;simp only[go_sem,seval,Xm,k3];refine Yn rfl (hg _ f _ hmem (hJ _ _ _ hj hs)) ?_;rintro r Z2 ⟨rfl,hj2⟩;apply sR;simp only[go_sem,seval,k1,k2,k3,ZM,Zi,k13];refine⟨ae,_,by omega,i+1,by omega,rfl,?_,by simp⟩;rw[W4];simpa using hj2
  .have q:=qF B';apply sR;simp only[go_sem,seval,Zi,k13,q];obtain rfl:i=l.length:=by omega
   rw[dR]at hj;exact XX ⟨rfl,hj⟩
def bM(l:List T')(y high:Int)(s:Xr):Xr:=(l.filter (ew y high)).foldl (λs f=>gN f s) s
def RY{id:Nat}(f:T')(s:Xr)(hf:f.ok){U:ad}(M':U id=some ⟨219,2,[aP s]⟩):av prog 289 [jf f,.ptr id 0 0] U λr Z'=>r=.WC []/\∃Z1,aa U Z1/\Z'=C' Z1 id ⟨219,2,[aP (gN f s)]⟩:=by
 refine Vv.q ?_;have a1:=M';rw[aP]at a1;apply sR;simp only[go_sem,seval,Te,jf];refine aj λi2 Z2 s2 a2 f2=>?_;replace a1:=s2 _ _ a1;simp only[go_sem,seval,a2,a1];refine pS rfl (MB f s hf _) ?_;simp only[go_sem,seval,a1,aP];exact XX ⟨rfl,Z2,s2,rfl⟩
def DZ(l:List T')(y high:Int)(s:Xr)(hl:l.length<=1000000)(WB:∀f∈l,f.ok)(hy:XU y)(hh:Bq high):aE prog 266 [ax l,vI y,vI high,aP s] (aP (bM l y high s)):=λU=>by
 refine Ve.q ?_;have hs:=aa.refl U;refine mS 10 ?_;simp only[go_sem,seval,SU,aP];refine al hs λi7 Z7 s7 a7 f7 _ hs=>?_;simp only[go_sem,seval];refine al hs λi8 Z8 s8 a8 f8 z8 hs=>?_;replace a7:=s8 _ _ a7;simp only[go_sem,seval,a7];refine al hs λi9 Z9 s9 a9 f9 z9 hs=>?_;obtain⟨n79,a7⟩:=WG a7 f9 s9;obtain⟨n89,a8⟩:=WG a8 f9 s9;simp only[go_sem,seval,a9];generalize Xw:C' _ i9 _=Y9;replace a9:=XD Xw;replace a7:=WQ Xw n79 a7;replace a8:=WQ Xw n89 a8;replace hs:=Xz Xw hs z9;refine Yn rfl (MG l y high hl WB hy hh 289 [.ptr i9 0 0] (λpre J=>J i9=some ⟨219,2,[aP (pre.foldl (λs f=>gN f s) s)]⟩/\J i8=some ⟨219,2,[.agg [vI 0,vI 0]]⟩/\aa U J) ?_ ?_ ⟨a9,a8,hs⟩) ?_
 .rintro pre J X' ⟨h1,h2,h4⟩ h5;exact⟨h5 _ _ h1,h5 _ _ h2,h4.trans h5⟩
 .rintro pre f J hf ⟨h1,h2,h4⟩;refine(RY f _ (WB f hf) h1).mono ?_;rintro r X' ⟨rfl,Y1,h5,rfl⟩;refine⟨rfl,?_,by rw[ab n89];exact h5 _ _ h2,(h4.trans h5).ao z9⟩;rw[af,kN];rfl
 .rintro r J ⟨rfl,h1,h2,h4⟩;have hcs:aP (List.foldl (λs f=>gN f s) s (List.filter (ew y high) l))=.agg [vI (bM l y high s).a,vI (bM l y high s).b]:=rfl;rw[hcs]at h1;apply sR;simp only[go_sem,seval,h1,h2];exact ai.pure (h4.ao z8) rfl
open Go.Proofs
def iK(s:Xr)(a:Int×Bool)(f:T'):Int×Bool:=if gN f s=s\/(a.2=true/\f.y+f.h>=a.1)then a else(f.y+f.h,true)
def cC(l:List T')(y high:Int)(s:Xr):Int×Bool:=(l.filter (ew y high)).foldl (iK s) (0,false)
def LY{i1 i2 i3:Nat}(f:T')(s:Xr)(a:Int×Bool)(hf:f.ok)(h12:i1≠i2)(h13:i1≠i3)(h23:i2≠i3){U:ad}(q1:U i1=some ⟨219,2,[aP s]⟩)(q2:U i2=some ⟨4,1,[.bool a.2]⟩)(q3:U i3=some ⟨3,1,[vI a.1]⟩):
 av prog 264 [jf f,.ptr i1 0 0,.ptr i2 0 0,.ptr i3 0 0] U λr Z'=>r=.WC []/\∃Z1,aa U Z1/\Z'=C' (C' Z1 i3 ⟨3,1,[vI (iK s a f).1]⟩) i2 ⟨4,1,[.bool (iK s a f).2]⟩:=by
 refine TT.q ?_;refine ag.mix 5 ?_;obtain⟨u,v⟩:=a;simp only at q2 q3;apply sR;simp only[go_sem,seval,OZ,jf];refine aj λi4 Z4 s4 a4 f4=>?_;replace q1:=s4 _ _ q1;replace q2:=s4 _ _ q2;replace q3:=s4 _ _ q3;have hcut:=MB f s hf;have hbot:=A5 f hf;obtain⟨s1,s2⟩:=s;rw[aP]at q1;simp only[go_sem,seval,a4,q1];refine pJ rfl hcut ?_;unfold iK;generalize gN f ⟨s1,s2⟩=c;obtain⟨c1,c2⟩:=c;have same:∀Z':ad,Z'=Z4->C' (C' Z' i3 ⟨3,1,[vI u]⟩) i2 ⟨4,1,[.bool v]⟩=Z4:=λZ' e=>by
  subst e;rw[oE q3,oE q2]
 by_cases hc:c1=s1/\c2=s2
 .obtain⟨rfl,rfl⟩:=hc;apply sG;simp only[go_sem,seval,q1,aP];refine XX ⟨rfl,Z4,s4,?_⟩;rw[ak (by simp),same _ rfl]
 .have hd:(decide (c1=s1)&&decide (c2=s2))=false:=by
   by_cases h1:c1=s1<;>by_cases h2:c2=s2<;>simp_all
  have WZ:¬(⟨c1,c2⟩:Xr)=⟨s1,s2⟩:=by simpa using hc
  cases v
  .rw[au (by simp[WZ])];apply sG;simp only[go_sem,seval,q1,q2,a4,aP,hd];refine pS rfl (hbot _) ?_;simp only[go_sem,seval,q2,q3,ab h23];exact XX ⟨rfl,Z4,s4,rfl⟩
  .apply sG;simp only[go_sem,seval,q1,q2,a4,aP,hd];refine pJ rfl hbot ?_;by_cases hb:f.y+f.h>=u
   .have q:(f.y+f.h>=u)=True:=L' hb;apply sG;simp only[go_sem,seval,q3,q];refine XX ⟨rfl,Z4,s4,?_⟩;rw[ak (.inr (by first|exact hb|exact⟨rfl,hb⟩|simp)),same _ rfl]
   .have q:(f.y+f.h>=u)=False:=H' hb;rw[au (by simp[WZ];omega)];apply sG;simp only[go_sem,seval,q3,a4,q];refine pS rfl (hbot _) ?_;simp only[go_sem,seval,q2,q3,ab h23];exact XX ⟨rfl,Z4,s4,rfl⟩
def Hl(l:List T')(y high:Int)(s:Xr)(hl:l.length<=1000000)(WB:∀f∈l,f.ok)(hy:XU y)(hh:Bq high):aE prog 233 [ax l,vI y,vI high,aP s] (.WC [vI (cC l y high s).1,.bool (cC l y high s).2]):=λU=>by
 refine We.q ?_;have hs:=aa.refl U;refine mS 12 ?_;simp only[go_sem,seval,RA,aP];refine al hs λi7 Z7 s7 a7 f7 _ hs=>?_;simp only[go_sem,seval];refine al hs λi10 Z10 Yt Xm f10 Zn hs=>?_;obtain⟨n710,a7⟩:=WG a7 f10 Yt;simp only[go_sem,seval];refine al hs λi11 Z11 s11 XF f11 z11 hs=>?_;obtain⟨n711,a7⟩:=WG a7 f11 s11;obtain⟨YA,Xm⟩:=WG Xm f11 s11;simp only[go_sem,seval,XF,Xm,ab YA.symm];rw[ym YA,oE XF,oE Xm];refine Yn rfl (MG l y high hl WB hy hh 264 [.ptr i7 0 0,.ptr i11 0 0,.ptr i10 0 0] (λpre J=>J i7=some ⟨219,2,[aP s]⟩/\J i11=some ⟨4,1,[.bool (pre.foldl (iK s) (0,false)).2]⟩/\
  J i10=some ⟨3,1,[vI (pre.foldl (iK s) (0,false)).1]⟩/\aa U J) ?_ ?_ ⟨a7,XF,Xm,hs⟩) ?_
 .rintro pre J X' ⟨h1,h2,h3,h4⟩ h5;exact⟨h5 _ _ h1,h5 _ _ h2,h5 _ _ h3,h4.trans h5⟩
 .rintro pre f J hf ⟨h1,h2,h3,h4⟩;refine(LY f s _ (WB f hf) n711 n710 YA.symm h1 h2 h3).mono ?_;rintro r X' ⟨rfl,Y1,h5,rfl⟩;refine⟨rfl,?_,?_,?_,((h4.trans h5).ao Zn).ao z11⟩
  .rw[ab n711,ab n710];exact h5 _ _ h1
  .rw[af,kN];rfl
  .rw[ab YA,af,kN];rfl
 .rintro r J ⟨rfl,h1,h2,h3,h4⟩;apply sR;simp only[go_sem,seval,h2,h3];exact ai.pure h4 rfl
def gQ(tell:T'->Int×Bool)(a:Int×Bool)(f:T'):Int×Bool:=if(tell f).2=true/\(a.2=false\/(tell f).1>a.1)then((tell f).1,true)else a
def cy(tell:T'->Int×Bool)(l:List T'):Int×Bool:=l.foldl (gQ tell) (0,false)
def IH(l:List T')(hl:l.length<=1000000)(g:FuncId)(caps:List V)(tell:T'->Int×Bool)(μ:ad->Prop)(hI:∀U Z',μ U->aa U Z'->μ Z')
 (hg:∀f U,f∈l->μ U->av prog g (jf f::caps) U λr Z'=>r=.WC [vI (tell f).1,.bool (tell f).2]/\Z'=U){U:ad}(h0:μ U):
 av prog 182 [ax l,.fn g caps] U λr Z'=>r=.WC [vI (cy tell l).1,.bool (cy tell l).2]/\Z'=U:=by
 refine Uw.q ?_;refine mS 15 ?_;simp only[go_sem,seval,Q2,cF];refine ag.loop (λm st=>∃i:Nat,i<=l.length/\m=l.length-i/\aa U st.U/\st.s 1=.fn g caps/\st.s 6=vI (cy tell (l.take i)).1/\st.s 7=.bool (cy tell (l.take i)).2/\st.s 12=ax l/\st.s 13=vI l.length/\st.s 14=vI i) l.length ?_ ?_
 .exact⟨0,by omega,rfl,aa.refl _,rfl,rfl,rfl,rfl,rfl,rfl⟩
 .rintro m ⟨s,Z'⟩ ⟨i,hi,rfl,hs,k1,k6,k7,Zi,k13,k14⟩;simp only at hs k1 k6 k7 Zi k13 k14;refine ag.mix 15 ?_;by_cases B':i<l.length
  .have q:=qT B';have Xx:=λU=>dO (U:=U) B';have hmem:=Xo B';have W4:cy tell (l.take (i+1))=gQ tell (cy tell (l.take i)) l[i]:=by
    rw[Yz B',cy,kN];rfl
   generalize l[i]=f at*;generalize cy tell (l.take i)=a at*;obtain⟨u,v⟩:=a;simp only at k6 k7;apply sR;simp only[go_sem,seval,Zi,k13,k14,q,Xx,az];refine al hs λi9 Z9 s9 a9 f9 z9 hs=>?_;simp only[go_sem,seval,a9,k1];generalize Xw:C' _ i9 _=Y9;replace a9:=XD Xw;replace hs:=Xz Xw hs z9;refine pS rfl (Mz f _) ?_;simp only[go_sem,seval];refine pR rfl (hg f _ hmem (hI _ _ h0 hs)) ?_;have r1:=rI i;unfold gQ at W4;generalize tell f=t at*;obtain⟨x,is⟩:=t;simp only at W4;cases is
   .rw[au (by simp)]at W4;apply sR;simp only[go_sem,seval,k1,k6,k7,Zi,k13,k14,r1];exact⟨_,by omega,i+1,by omega,rfl,hs,by simp[W4]⟩
   .cases v
    .rw[ak (by simp)]at W4;apply sR;simp only[go_sem,seval,k1,k7,Zi,k13,k14,r1];exact⟨_,by omega,i+1,by omega,rfl,hs,by simp[W4]⟩
    .by_cases hb:x>u
     .have q2:(x>u)=True:=L' hb;rw[ak ⟨rfl,.inr hb⟩]at W4;apply sR;simp only[go_sem,seval,k1,k6,k7,Zi,k13,k14,r1,q2];exact⟨_,by omega,i+1,by omega,rfl,hs,by simp[W4]⟩
     .have q2:(x>u)=False:=H' hb;rw[au (by simp[hb])]at W4;apply sR;simp only[go_sem,seval,k1,k6,k7,Zi,k13,k14,r1,q2];exact⟨_,by omega,i+1,by omega,rfl,hs,by simp[W4]⟩
  .have q:=qF B';obtain rfl:i=l.length:=by omega
   rw[dR]at k6 k7;apply sR;simp only[go_sem,seval,k6,k7,k13,k14,q];exact ai.pure hs rfl
def OL(a b:Int):Int:=IntKind.i64.wrap (BitVec.ofInt IntKind.i64.bits a &&& BitVec.ofInt IntKind.i64.bits b).toNat
def fS(XZ:Int)(f:T'):Int×Bool:=(f.y+f.h,decide (OL f.side XZ≠0))
def M1{i:Nat}(f:T')(XZ:Int)(hf:f.ok){U:ad}(q:U i=some ⟨3,1,[vI XZ]⟩):av prog 183 [jf f,.ptr i 0 0] U λr Z'=>r=.WC [vI (fS XZ f).1,.bool (fS XZ f).2]/\Z'=U:=by
 refine VT.q ?_;refine ag.mix 5 ?_;have hs:=aa.refl U;apply sR;simp only[go_sem,seval,Re,jf];refine al hs λi2 Z2 s2 a2 f2 _ hs=>?_;replace q:=s2 _ _ q;simp only[go_sem,seval,a2];refine pJ rfl (A5 f hf) ?_;apply sG;simp only[go_sem,seval,a2,q];exact ai.pure hs rfl
def AY(l:List T')(XZ:Int)(hl:l.length<=1000000)(WB:∀f∈l,f.ok):aE prog 135 [ax l,vI XZ] (.WC [vI (cy (fS XZ) l).1,.bool (cy (fS XZ) l).2]):=λU=>by
 refine U0.q ?_;refine ag.mix 6 ?_;have hs:=aa.refl U;apply sR;simp only[go_sem,seval,Tb];refine al hs λi3 Z3 s3 a3 f3 _ hs=>?_;simp only[go_sem,seval];refine pS rfl (IH l hl 183 [.ptr i3 0 0] (fS XZ) (λJ=>J i3=some ⟨3,1,[vI XZ]⟩) (λ_ _ h h'=>h' _ _ h) (λf J hf h=>M1 f XZ (WB f hf) h) a3) ?_;simp only[go_sem,seval];exact ai.pure hs rfl
def ld(f:T'):Int×Bool:=(f.y,true)
def M3(f:T')(hf:f.ok):aE prog 290 [jf f] (.WC [vI (ld f).1,.bool (ld f).2]):=λU=>by
 refine UD.q ?_;refine ag.mix 4 ?_;have hs:=aa.refl U;apply sR;simp only[go_sem,seval,Q0,jf];refine al hs λi1 Z1 s1 a1 f1 _ hs=>?_;simp only[go_sem,seval,a1];refine pS rfl (Dn ⟨_,_,_,_⟩ hf.2.1 hf.2.2.2 _) ?_;simp only[go_sem,seval,aP];exact ai.pure hs rfl
def PM(l:List T')(hl:l.length<=1000000)(WB:∀f∈l,f.ok):aE prog 267 [ax l] (.WC [vI (cy ld l).1,.bool (cy ld l).2]):=λU=>by
 refine Uc.q ?_;refine mS 4 ?_;simp only[go_sem,seval,Qm];refine pS rfl (IH l hl 290 [] ld (λ_=>True) (λ_ _ h _=>h) (λf J hf _=>M3 f (WB f hf) J) trivial) ?_;simp only[go_sem,seval];exact ai.same rfl
end Go.Vc

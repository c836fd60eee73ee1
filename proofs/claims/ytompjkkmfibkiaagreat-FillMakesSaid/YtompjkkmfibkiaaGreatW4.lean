import Derived.Test.YtompjkkmfibkiaaGreatW3
import Derived.Attr
import Derived.Laws.RangeString
import Derived.Laws.Runes
set_option linter.all false
set_option maxHeartbeats 8000000
set_option maxRecDepth 100000
open Go.Proofs.Tryz
namespace Go.Vc
variable {P:Program} {n:Nat} {st:St} {Q:St->Prop} {k:List It}
def lV(l:List Nat)(s:Nat->V):Nat->V:=λi=>if l.contains i then s i else .undef
def Ab(l:List Nat)(s:Nat->V)(i:Nat):lV l s i=if l.contains i then s i else .undef:=rfl
def mix(m:Nat)(a b:Nat->V):Nat->V:=λi=>if i<m then a i else b i
def DM(m:Nat)(a b:Nat->V)(i:Nat):mix m a b i=if i<m then a i else b i:=rfl
def Ia(m:Nat)(s:Nat->V):mix m s s=s:=by funext i;simp[mix]
def qL(s:Nat->V)(v:V):bc s none v=s:=rfl
def Ey{m d:Nat}(h:d<m)(a b:Nat->V)(v:V):bc (mix m a b) (some d) v=mix m (bc a (some d) v) b:=by
 funext i;simp only[bc,mix];split
 .rename_i e;subst e;simp[h]
 .split<;>rfl
def EI{m d:Nat}(h:m<=d)(a b:Nat->V)(v:V):bc (mix m a b) (some d) v=mix m a (bc b (some d) v):=by
 funext i;simp only[bc,mix];split
 .rename_i e;subst e;simp[Nat.not_lt.2 h]
 .split<;>rfl
def ai.mix(m:Nat){todo:List It}{s:Nat->V}{U:ad}(h:ai P n todo ⟨Vc.mix m s s,U⟩ Q):ai P n todo ⟨s,U⟩ Q:=by
 rw[Ia]at h;exact h
def qU{s:Nat->V}{U:ad}{agg:Bool}{sz d:Nat}{Post:V->ad->Prop}:
 Ret [.cell agg sz (.t d)] ⟨s,U⟩ Post=ez (cj U agg sz (s d)) λv=>ak v U Post:=by
 unfold Ret ak oL;simp only[fL,iV,VX.ev];cases cj U agg sz (s d)<;>simp[ez]
def qE{s:Nat->V}{U:ad}{agg:Bool}{sz d e:Nat}{Post:V->ad->Prop}:
 Ret [.cell agg sz (.t d),.tmp (.t e)] ⟨s,U⟩ Post=ez (cj U agg sz (s d)) λv=>ak (.VG [v,s e]) U Post:=by
 unfold Ret ak oL;simp only[fL,iV,VX.ev];cases cj U agg sz (s d)<;>simp[ez]
def aa.az{Z0 U:ad}{id:Nat}{o:Ob}(h:aa Z0 U)(M':Z0 id=none):aa Z0 (Vc.C' U id o):=λi x hx=>by
 have V2:i≠id:=λe=>by rw[e,M']at hx;cases hx
 rw[ab V2];exact h i x hx
def aa.none{a b:ad}(h:aa a b){i:Nat}(hi:b i=none):a i=none:=by
 cases ha:a i with
 |none=>rfl
 |some o=>rw[h i o ha]at hi;cases hi
def aU{U:ad}{i j:Nat}{o:Ob}(h:U i=some o)(hj:U j=none):i≠j:=by rintro rfl;rw[h]at hj;cases hj
def aA{O:Xu P}{f:Nat}{d:Option Nat}{l:List aK}{v:Nat->V}{ob:Ob}{s:Nat->V}{U:ad}
 (h:∀id Z',aa U Z'->Z' id=some ob->U id=none->step P O n f (.r (.ops l::k)) ⟨bc s d (v id),Z'⟩ Q):
 FJ P O n f l k d ⟨s,U⟩ Q (some λid=>(v id,Vc.C' U id ob)):=by
 rw[ax];exact λid M'=>h id _ ((aa.refl U).C' M') ag M'
def ar{P:Program}{n:Nat}{Q:St->Prop}{k}{O:Xu P}{f:Nat}{d:Option Nat}{l:List aK}{v:Nat->V}{ob:Ob}{s:Nat->V}{U K:ad}(hs:aa K U)(h:∀id Z1,aa U Z1->Z1 id=some ob->U id=none->K id=none->aa K Z1->step P O n f (.r (.ops l::k)) ⟨bc s d (v id),Z1⟩ Q):FJ P O n f l k d ⟨s,U⟩ Q (some λid=>(v id,Vc.C' U id ob)):=aA λid Z1 s1 a1 f1=>h id Z1 s1 a1 f1 (hs.none f1) (hs.trans s1)
def bB{O:Xu P}{f:Nat}{d:Option Nat}{l:List aK}{v:Nat->V}{ob:Ob}{s:Nat->V}{U:ad}
 (h:∀id Z',aa U Z'->Z' id=some ob->U id=none->step P O n f (.d l k) ⟨bc s d (v id),Z'⟩ Q):
 Fg P O n f l k d ⟨s,U⟩ Q (some λid=>(v id,Vc.C' U id ob)):=by
 rw[aB];exact λid M'=>h id _ ((aa.refl U).C' M') ag M'
def wN{P:Program}{n:Nat}{Q:St->Prop}{k}{O:Xu P}{f:Nat}{d:Option Nat}{l:List aK}{v:Nat->V}{ob:Ob}{s:Nat->V}{U K:ad}(hs:aa K U)(h:∀id Z1,aa U Z1->Z1 id=some ob->U id=none->K id=none->aa K Z1->step P O n f (.d l k) ⟨bc s d (v id),Z1⟩ Q):Fg P O n f l k d ⟨s,U⟩ Q (some λid=>(v id,Vc.C' U id ob)):=bB λid Z1 s1 a1 f1=>h id Z1 s1 a1 f1 (hs.none f1) (hs.trans s1)
def iS{O:Xu P}{f:Nat}(t:Bool)(a b:bW):cR P O n f (.bool t) a b k st Q=((t=true->step P O n f (.r (.code a::k)) st Q)/\(t=false->step P O n f (.r (.code b::k)) st Q)):=by
 cases t<;>simp[cR,eC,both]
def ai.IN{i:aK}{l:List aK}{fx:VX}{xs:List VX}{s:Nat->V}{U:ad}{f:FuncId}{caps:List V}{v:V}(hw:bz s i.g=some true)(ho:i.op=.call fx xs)
 (hf:fx.ev s=.fn f caps)(hc:au P f (xs.map (·.ev s)++caps) U λr Z'=>r=v/\Z'=U)(h:ai P n (.ops l::k) ⟨bc s i.dst v,U⟩ Q):
 ai P n (.ops (i::l)::k) ⟨s,U⟩ Q:=by
 refine ai.call hw ho hf hc ?_;rintro r Z' ⟨rfl,rfl⟩;exact h
def Bj(op:BinOp)(k:IntKind)(a b:Int):xr op (.int k a) (.int k b)=cY op k a b:=by simp[xr]
def AT(op:BinOp)(a b:List UInt8):xr op (.str a) (.str b)=fm op a b:=rfl
def wB(op:BinOp)(k k':IntKind)(a b:Int):qc op (.int k a) (.int k' b)=eN op k a b:=rfl
def vC(op:BinOp)(a b:List UInt8):qc op (.str a) (.str b)=gk op a b:=rfl
def Bl(id off n:Nat):dX false (.own id off n)=some (.int .i64 n):=rfl
def Ex(sz:Nat)(rows:List V):dX false (.sl sz rows)=some (.int .i64 rows.length):=rfl
def yd:dX false .aO=some (.int .i64 0):=rfl
def B3(s:List UInt8):dX true (.str s)=some (.int .i64 s.length):=rfl
def xV(U:ad)(X8 id off len:Nat)(k:IntKind)(j:Int):bO U X8 (.own id off len) (.int k j)=match U id with
 |some ob=>if ob.sz=X8/\0<=j/\j<len then some (.ptr id (off+j.toNat) 0)else none
 |none=>none:=rfl
def xG(U:ad)(agg:Bool)(sz id i k:Nat):cj U agg sz (.ptr id i k)=match U id with
 |some ob=>match ob.rows[i]? with
  |some r=>if agg then(if k=0/\r.cells.length=sz then some (.agg r.cells)else if k+sz<=r.cells.length then some (.agg ((r.cells.drop k).take sz))else none)
     else r.cells[k]?
  |none=>none
 |none=>none:=rfl
def qQ(U:ad)(sz:Nat)(vs:List V):cj U true sz (.rp (.agg vs))=if vs.length=sz then some (.agg vs)else none:=rfl
def qY(U:ad)(sz:Nat)(k:IntKind)(j:Int):cj U false sz (.rp (.int k j))=some (.int k j):=rfl
def Reads(U:ad)(sz:Nat)(agg:Bool)(sv:V)(rows:List V):Prop:=
 dX false sv=some (.int .i64 rows.length)/\∀(i:Nat) v,rows[i]?=some v->∃p,bO U sz sv (.int .i64 i)=some p/\cj U agg sz p=some v
def Reads.ints{U:ad}{l:List Int}:Reads U 1 false (.sl 1 (l.map (.int .i64 ·))) (l.map (.int .i64 ·)):=by
 refine⟨rfl,λi v hv=>?_⟩;obtain⟨n,hn,rfl⟩:∃n,l[i]?=some n/\v=.int .i64 n:=by
  rw[tW]at hv;cases h:l[i]? with
  |none=>simp[h]at hv
  |some n=>simp[h]at hv;exact⟨n,rfl,hv.symm⟩
 refine⟨.rp (.int .i64 n),?_,rfl⟩;simp[bO,hn]
def Reads.own{U:ad}{sz id off len:Nat}{ob:Ob}(ho:U id=some ob)(hs:ob.sz=sz)(hl:off+len<=ob.rows.length)(h1:∀r∈ob.rows,r.cells=[r]):
 Reads U sz false (.own id off len) ((ob.rows.drop off).take len):=by
 refine⟨by simp[dX];omega,λi v hv=>?_⟩;have hi:i<len:=by
  have:=(pq.1 hv).1;simp at this;omega
 have hv':ob.rows[off+i]?=some v:=by
  rw[List.getElem?_take,av hi,N2]at hv;exact hv
 refine⟨.ptr id (off+i) 0,?_,?_⟩
 .simp[bO,ho,hs,hi]
 .simp[cj,ho,hv',h1 v (zE hv')]
def ae{m:Int}(h1:-9223372036854775808<=m:=by omega)(h2:m<=9223372036854775807:=by omega):VO .i64 m:=by
 unfold VO;rw[IntKind.wrap_i64];omega
def rI(i:Int)(h:-9223372036854775809<=i:=by omega)(h2:i<9223372036854775807:=by omega):VO .i64 (i+1):=ae
mutual
/-- no row's number in it -/
def V.gx:V->Bool
 |.own ..|.ptr ..|.yl _=>false
 |.sl _ rows=>jx rows
 |.rp v=>v.gx
 |.fn _ caps=>jx caps
 |.bm _ caps=>jx caps
 |.iface _ v=>v.gx
 |.agg c|.VG c=>jx c
 |_=>true
def jx:List V->Bool
 |[]=>true
 |v::vs=>v.gx&&jx vs
end
def au.Da{P:Program}{f:FuncId}{args:List V}{U:ad}{Post Zj:V->ad->Prop}(h:au P f args U Post)
 (hp:∀r Z',Post r Z'->ak r Z' Zj):au P f args U Zj:=⟨h.1,λI w VI hs hr=>(h.2 I w VI hs hr).mono λe w' ⟨r,Z',Y',val,h1,h2,h3,h4,h5⟩=>by
 obtain⟨v',Z'',g1,g2,g3⟩:=hp r Z' h2;exact⟨v',Z'',Y',val,h1,g3,h3,h4.drop g1,g2 Y' _ _ _ _ h4 h5⟩⟩
mutual
/-- the same,with each row of its own as one that is only read -/
inductive Fz(U:ad)(N:Nat->Prop):V->V->Prop
 |same (v:V) (h:v.gx=true):Fz U N v v
 |own (id off len:Nat) (ob:Ob) (rows:List V) (h1:U id=some ob) (h2:N id) (h3:off+len<=ob.rows.length) (h4:XK U N ((ob.rows.drop off).take len) rows):
    Fz U N (.own id off len) (.sl ob.sz rows)
 |nil (sz:Nat):Fz U N .aO (.sl sz [])
 |own0 (id off sz:Nat):Fz U N (.own id off 0) (.sl sz [])
 |sl (sz:Nat) (rows rows':List V) (h:XK U N rows rows'):Fz U N (.sl sz rows) (.sl sz rows')
 |agg (cs ds:List V) (h:XK U N cs ds):Fz U N (.agg cs) (.agg ds)
 |VG (cs ds:List V) (h:XK U N cs ds):Fz U N (.VG cs) (.VG ds)
 |ptr (id i:Nat) (ob:Ob) (r u:V) (h1:U id=some ob) (h2:N id) (h3:ob.rows[i]?=some r) (h4:Fz U N r u):Fz U N (.ptr id i 0) (.rp u)
 |fn (f:FuncId) (cs ds:List V) (h:XK U N cs ds):Fz U N (.fn f cs) (.fn f ds)
 |bm (f:FuncId) (cs ds:List V) (h:XK U N cs ds):Fz U N (.bm f cs) (.bm f ds)
 |iface (t:TypeId) (v u:V) (h:Fz U N v u):Fz U N (.iface t v) (.iface t u)
inductive XK(U:ad)(N:Nat->Prop):List V->List V->Prop
 |nil:XK U N [] []
 |cons (v u:V) (vs us:List V) (h:Fz U N v u) (h':XK U N vs us):XK U N (v::vs) (u::us)
end
section
variable {U K:ad} {N:Nat->Prop} {I:Mu} {w0 w:World} {WU:Nat->Prop}
def bK.lift{ow XC:Nat->Prop}{v u:V}{b off:Nat}(hv:∀cs,v≠.agg cs)(hu:∀cs,u≠.agg cs)(h:∀x,E' I ow w v x->E' I XC w u x)
 (hr:bK I ow w v b off):bK I XC w u b off:=by
 have e1:∃x,w.cell? ⟨b,off,none⟩=some x/\E' I ow w v x/\x.oneCell'=true:=by
  cases v<;>first|exact absurd rfl (hv _)|simpa only[bK]using hr
 obtain⟨x,h1,h2,h3⟩:=e1;have e2:∃x,w.cell? ⟨b,off,none⟩=some x/\E' I XC w u x/\x.oneCell'=true:=⟨x,h1,h x h2,h3⟩
 cases u<;>first|exact absurd rfl (hu _)|simpa only[bK]using e2
mutual
def Fz.down(hs:Sat w0 WU I U w)(hK:aa K U)(hN:∀id,N id->K id=none):∀{v u:V},Fz U N v u->(∀x,E' I (aE I U) w v x->E' I (aE I K) w u x)/\
 (∀b off,bK I (aE I U) w v b off->bK I (aE I K) w u b off)/\u.cells.length=v.cells.length
 |_,_,.same v h=>⟨λx hr=>E'.mono (dL.refl I) (di.sub w hK) (Wa _) v x hr,λb off hr=>bK.mono (dL.refl I) (di.sub w hK) (Wa _) v b off rfl hr,rfl⟩
 |_,_,.own id off len ob rows ho h2 hl h4=>by
  have hd:=XK.down hs hK hN h4;have key:∀x,E' I (aE I U) w (.own id off len) x->E' I (aE I K) w (.sl ob.sz rows) x:=by
   intro x hr;simp only[E']at hr|-;have hlen:rows.length=len:=by rw[hd.2.2.2];simp;omega
   have WO:=hs.obj id ob ho;split at hr
   .exact hr.elim
   .obtain⟨rfl,rfl,rfl⟩:=hr;have:rows=[]:=pV hlen;subst this;exact⟨none,0,by simp,by simp,.inl rfl⟩
   .rename_i b sz cap hb;obtain⟨o,c,rfl,h1,h2',h3,hz⟩:=hr;refine⟨_,c,by rw[hlen],by omega,?_⟩;by_cases h0:len=0
    .left;exact pV (by omega)
    .right;rw[hb]at WO;obtain⟨g1,g2,g3,g4,g5⟩:=WO.rows hz;have ho':o=off*sz:=by
      rcases h3 with h3|h3
      .exact h3
      .omega
     subst ho' g1;refine⟨b,_,rfl,?_,g2,?_⟩
     .rintro⟨Xn,ob',XP,W2,e1,e2⟩;have:=hs.inj Xn id ob' ob _ _ _ _ _ (hK _ _ e1) ho e2 hb;rw[this,hN id h2]at e1;cases e1
     .have:=(g5.drop off).take len;rw[fU]at this;exact hd.2.2.1 _ _ _ this
  exact⟨key,λb off' hr=>bK.lift (λ_=>by simp) (λ_=>by simp) key hr,rfl⟩
 |_,_,.nil sz=>by
  have key:∀x,E' I (aE I U) w .aO x->E' I (aE I K) w (.sl sz []) x:=λx hr=>by
   simp only[E']at hr|-;exact⟨none,0,by simpa using hr,by simp,.inl trivial⟩
  exact⟨key,λb off' hr=>bK.lift (λ_=>by simp) (λ_=>by simp) key hr,rfl⟩
 |_,_,.own0 id off sz=>by
  have key:∀x,E' I (aE I U) w (.own id off 0) x->E' I (aE I K) w (.sl sz []) x:=λx hr=>by
   simp only[E']at hr|-;split at hr
   .exact hr.elim
   .obtain⟨rfl,_⟩:=hr;exact⟨none,0,by simp,by simp,.inl trivial⟩
   .obtain⟨o,c,rfl,h1,_⟩:=hr;exact⟨_,c,rfl,by simp,.inl trivial⟩
  exact⟨key,λb off' hr=>bK.lift (λ_=>by simp) (λ_=>by simp) key hr,rfl⟩
 |_,_,.sl sz rows rows' h=>by
  have hd:=XK.down hs hK hN h;have key:∀x,E' I (aE I U) w (.sl sz rows) x->E' I (aE I K) w (.sl sz rows') x:=λx hr=>by
   simp only[E']at hr|-;obtain⟨a,cap,rfl,h1,h2⟩:=hr;refine⟨a,cap,by rw[hd.2.2.2],by rw[hd.2.2.2];exact h1,?_⟩;rcases h2 with h2|⟨b,off,h3,h4,h5,h6⟩
   .left;have:=hd.2.2.2;rw[h2]at this;exact pV this
   .exact .inr ⟨b,off,h3,λho=>h4 (ho.sub hK),h5,hd.2.2.1 _ _ _ h6⟩
  exact⟨key,λb off' hr=>bK.lift (λ_=>by simp) (λ_=>by simp) key hr,rfl⟩
 |_,_,.agg cs ds h=>by
  have hd:=XK.down hs hK hN h;refine⟨λx hr=>?_,λb off hr=>?_,by simp only[V.cells];exact hd.2.2.2⟩
  .simp only[E']at hr|-;obtain⟨VI,rfl,h1,h2⟩:=hr;exact⟨VI,rfl,hd.1 _ h1,h2⟩
  .simp only[bK]at hr|-;exact hd.2.1 _ _ hr
 |_,_,.VG cs ds h=>by
  have hd:=XK.down hs hK hN h;have key:∀x,E' I (aE I U) w (.VG cs) x->E' I (aE I K) w (.VG ds) x:=λx hr=>by
   simp only[E']at hr|-;obtain⟨VI,rfl,h1⟩:=hr;exact⟨VI,rfl,hd.1 _ h1⟩
  exact⟨key,λb off' hr=>bK.lift (λ_=>by simp) (λ_=>by simp) key hr,rfl⟩
 |_,_,.ptr id i ob r u ho h2 hi h4=>by
  have hd:=Fz.down hs hK hN h4;have key:∀x,E' I (aE I U) w (.ptr id i 0) x->E' I (aE I K) w (.rp u) x:=by
   intro x hr;simp only[E']at hr|-;have WO:=hs.obj id ob ho;split at hr
   .rename_i b sz cap hb;obtain⟨rfl,hz⟩:=hr;rw[hb]at WO;obtain⟨g1,g2,g3,g4,g5⟩:=WO.rows hz;obtain⟨e1,e2⟩:=g5.get hi;rw[fU]at e2;have Wb:¬aE I K b:=by
     rintro⟨Xn,ob',XP,W2,e1,e2⟩;have:=hs.inj Xn id ob' ob _ _ _ _ _ (hK _ _ e1) ho e2 hb;rw[this,hN id h2]at e1;cases e1
    refine⟨b,i*sz,by simp,?_,.inr Wb,hd.2.1 _ _ ((dM _ _ _ _ _ _).2 e2)⟩;cases hc:r.cells with
    |nil=>rw[hc]at e1;simp at e1;omega
    |cons c cs=>
     rw[hc]at e2;simp only[aT]at e2;obtain⟨⟨y,hy,_⟩,_⟩:=e2;exact World.block_lt_of_cell? w _ hy
   .exact hr.elim
  exact⟨key,λb off' hr=>bK.lift (λ_=>by simp) (λ_=>by simp) key hr,rfl⟩
 |_,_,.fn f cs ds h=>by
  have hd:=XK.down hs hK hN h;have key:∀x,E' I (aE I U) w (.fn f cs) x->E' I (aE I K) w (.fn f ds) x:=λx hr=>by
   simp only[E']at hr|-;obtain⟨VI,rfl,h1⟩:=hr;exact⟨VI,rfl,hd.1 _ h1⟩
  exact⟨key,λb off' hr=>bK.lift (λ_=>by simp) (λ_=>by simp) key hr,rfl⟩
 |_,_,.bm f cs ds h=>by
  have hd:=XK.down hs hK hN h;have key:∀x,E' I (aE I U) w (.bm f cs) x->E' I (aE I K) w (.bm f ds) x:=λx hr=>by
   simp only[E']at hr|-;obtain⟨VI,rfl,h1⟩:=hr;exact⟨VI,rfl,hd.1 _ h1⟩
  exact⟨key,λb off' hr=>bK.lift (λ_=>by simp) (λ_=>by simp) key hr,rfl⟩
 |_,_,.iface t v u h=>by
  have hd:=Fz.down hs hK hN h;have key:∀x,E' I (aE I U) w (.iface t v) x->E' I (aE I K) w (.iface t u) x:=λx hr=>by
   simp only[E']at hr|-;obtain⟨y,rfl,h1⟩:=hr;exact⟨y,rfl,hd.1 _ h1⟩
  exact⟨key,λb off' hr=>bK.lift (λ_=>by simp) (λ_=>by simp) key hr,rfl⟩
def XK.down(hs:Sat w0 WU I U w)(hK:aa K U)(hN:∀id,N id->K id=none):∀{vs us:List V},XK U N vs us->(∀l,aq I (aE I U) w vs l->aq I (aE I K) w us l)/\
 (∀b off,aT I (aE I U) w vs b off->aT I (aE I K) w us b off)/\(∀b off sz,bg I (aE I U) w vs b off sz->bg I (aE I K) w us b off sz)/\us.length=vs.length
 |_,_,.nil=>⟨λl h=>by simpa[aq]using h,λ_ _ _=>by simp[aT],λ_ _ _ _=>by simp[bg],rfl⟩
 |_,_,.cons v u vs us h h'=>by
  have hd:=Fz.down hs hK hN h;have hd':=XK.down hs hK hN h';refine⟨λl hr=>?_,λb off hr=>?_,λb off sz hr=>?_,by simp[hd'.2.2.2]⟩
  .simp only[aq]at hr|-;obtain⟨x,xs,rfl,h1,h2⟩:=hr;exact⟨x,xs,rfl,hd.1 _ h1,hd'.1 _ h2⟩
  .simp only[aT]at hr|-;obtain⟨⟨x,h1,h2,h3⟩,h4⟩:=hr;exact⟨⟨x,h1,hd.1 _ h2,h3⟩,hd'.2.1 _ _ h4⟩
  .simp only[bg]at hr|-;exact⟨by rw[hd.2.2];exact hr.1,hd.2.1 _ _ hr.2.1,hd'.2.2.1 _ _ _ hr.2.2⟩
end
def Fz.wk{v u:V}(h:Fz U N v u)(hK:aa K U)(hN:∀id,N id->K id=none):Wk U K v u:=λ_ _ _ _ x hs hr=>(Fz.down hs hK hN h).1 x hr
end
def BB:(((((((type_of%@Dw)/\(type_of%@DX))/\((type_of%@DY)/\(type_of%@xN)))/\(((type_of%@BZ)/\(type_of%@qU))/\((type_of%@qE)/\(type_of%@sV))))/\((((type_of%@wQ)/\(type_of%@td))/\((type_of%@sJ)/\(type_of%@Ca)))/\(((type_of%@Em)/\(type_of%@xO))/\((type_of%@Bf)/\(type_of%@Ac)))))/\(((((type_of%@EA)/\(type_of%@Be))/\((type_of%@wF)/\(type_of%@DW)))/\(((type_of%@Bt)/\(type_of%@B5))/\((type_of%@EK)/\(type_of%@AH))))/\((((type_of%@Ox)/\(type_of%@Og))/\((type_of%@G3)/\(type_of%@Eg)))/\(((type_of%@GU)/\(type_of%@Im))/\((type_of%@Jh)/\((type_of%@I1)/\(type_of%@GH)))))))/\((((((type_of%@wM)/\(type_of%@wY))/\((type_of%@A2)/\(type_of%@wH)))/\(((type_of%@xc)/\(type_of%@uQ))/\((type_of%@sI)/\(type_of%@D6))))/\((((type_of%@HV)/\(type_of%@HN))/\((type_of%@IS)/\(type_of%@Iq)))/\(((type_of%@vQ)/\(type_of%@tM))/\((type_of%@Am)/\((type_of%@GJ)/\(type_of%@LM))))))/\(((((type_of%@L8)/\(type_of%@LN))/\((type_of%@Mi)/\(type_of%@A4)))/\(((type_of%@BE)/\(type_of%@BG))/\((type_of%@GC)/\(type_of%@LV))))/\((((type_of%@L6)/\(type_of%@L5))/\((type_of%@LP)/\(type_of%@AI)))/\(((type_of%@B6)/\(type_of%@qL))/\((type_of%@Ey)/\((type_of%@EI)/\(type_of%@DM))))))))/\(((((((type_of%@xE)/\(type_of%@yF))/\((type_of%@Mf)/\(type_of%@LL)))/\(((type_of%@R9)/\(type_of%@O5))/\((type_of%@Bj)/\(type_of%@AT))))/\((((type_of%@wB)/\(type_of%@vC))/\((type_of%@Bl)/\(type_of%@Ex)))/\(((type_of%@yd)/\(type_of%@B3))/\((type_of%@xV)/\(type_of%@xG)))))/\(((((type_of%@qQ)/\(type_of%@qY))/\((type_of%@ag)/\(type_of%@DC)))/\(((type_of%@true_implies)/\(type_of%@false_implies))/\((type_of%@implies_true.{0})/\(type_of%@Ab))))/\((((type_of%@List.getD_cons_zero.{0})/\(type_of%@List.getD_cons_succ.{0}))/\((type_of%@List.getD_nil.{0})/\(type_of%@List.map_cons.{0,0})))/\(((type_of%@List.map_nil.{0,0})/\(type_of%@List.length_cons.{0}))/\((type_of%@List.length_nil.{0})/\((type_of%@List.drop_succ_cons.{0})/\(type_of%@List.drop_zero.{0})))))))/\((((((type_of%@List.take_succ_cons.{0})/\(type_of%@List.take_zero.{0}))/\((type_of%@List.set_cons_zero.{0})/\(type_of%@List.set_cons_succ.{0})))/\(((type_of%@List.append_nil.{0})/\(type_of%@List.nil_append.{0}))/\((type_of%@List.cons_append.{0})/\(type_of%@List.all_cons.{0}))))/\((((type_of%@List.all_nil.{0})/\(type_of%@List.getElem?_cons_zero.{0}))/\((type_of%@List.getElem?_cons_succ.{0})/\(type_of%@List.contains_cons.{0})))/\(((type_of%@List.contains_nil.{0})/\(type_of%@Option.isSome_some.{0}))/\((type_of%@Option.map_some.{0,0})/\((type_of%@Option.map_none.{0,0})/\(type_of%@true_and))))))/\(((((type_of%@and_true)/\(type_of%@and_self))/\((type_of%@Nat.zero_add)/\(type_of%@Nat.add_zero)))/\(((type_of%@Bool.not_true)/\(type_of%@Bool.not_false))/\((type_of%@Bool.false_eq_true)/\(type_of%@Bool.or_true))))/\((((type_of%@Bool.true_or)/\(type_of%@Bool.or_false))/\((type_of%@Bool.false_or)/\(type_of%@Bool.true_and)))/\(((type_of%@Bool.and_true)/\(type_of%@Bool.and_self))/\((type_of%@decide_true)/\((type_of%@decide_false)/\(type_of%@decide_eq_true_eq)))))))):=
 ⟨⟨⟨⟨⟨⟨⟨@Dw,@DX⟩,⟨@DY,@xN⟩⟩,⟨⟨@BZ,@qU⟩,⟨@qE,@sV⟩⟩⟩,⟨⟨⟨@wQ,@td⟩,⟨@sJ,@Ca⟩⟩,⟨⟨@Em,@xO⟩,⟨@Bf,@Ac⟩⟩⟩⟩,⟨⟨⟨⟨@EA,@Be⟩,⟨@wF,@DW⟩⟩,⟨⟨@Bt,@B5⟩,⟨@EK,@AH⟩⟩⟩,⟨⟨⟨@Ox,@Og⟩,⟨@G3,@Eg⟩⟩,⟨⟨@GU,@Im⟩,⟨@Jh,⟨@I1,@GH⟩⟩⟩⟩⟩⟩,⟨⟨⟨⟨⟨@wM,@wY⟩,⟨@A2,@wH⟩⟩,⟨⟨@xc,@uQ⟩,⟨@sI,@D6⟩⟩⟩,⟨⟨⟨@HV,@HN⟩,⟨@IS,@Iq⟩⟩,⟨⟨@vQ,@tM⟩,⟨@Am,⟨@GJ,@LM⟩⟩⟩⟩⟩,⟨⟨⟨⟨@L8,@LN⟩,⟨@Mi,@A4⟩⟩,⟨⟨@BE,@BG⟩,⟨@GC,@LV⟩⟩⟩,⟨⟨⟨@L6,@L5⟩,⟨@LP,@AI⟩⟩,⟨⟨@B6,@qL⟩,⟨@Ey,⟨@EI,@DM⟩⟩⟩⟩⟩⟩⟩,⟨⟨⟨⟨⟨⟨@xE,@yF⟩,⟨@Mf,@LL⟩⟩,⟨⟨@R9,@O5⟩,⟨@Bj,@AT⟩⟩⟩,⟨⟨⟨@wB,@vC⟩,⟨@Bl,@Ex⟩⟩,⟨⟨@yd,@B3⟩,⟨@xV,@xG⟩⟩⟩⟩,⟨⟨⟨⟨@qQ,@qY⟩,⟨@ag,@DC⟩⟩,⟨⟨@true_implies,@false_implies⟩,⟨@implies_true.{0},@Ab⟩⟩⟩,⟨⟨⟨@List.getD_cons_zero.{0},@List.getD_cons_succ.{0}⟩,⟨@List.getD_nil.{0},@List.map_cons.{0,0}⟩⟩,⟨⟨@List.map_nil.{0,0},@List.length_cons.{0}⟩,⟨@List.length_nil.{0},⟨@List.drop_succ_cons.{0},@List.drop_zero.{0}⟩⟩⟩⟩⟩⟩,⟨⟨⟨⟨⟨@List.take_succ_cons.{0},@List.take_zero.{0}⟩,⟨@List.set_cons_zero.{0},@List.set_cons_succ.{0}⟩⟩,⟨⟨@List.append_nil.{0},@List.nil_append.{0}⟩,⟨@List.cons_append.{0},@List.all_cons.{0}⟩⟩⟩,⟨⟨⟨@List.all_nil.{0},@List.getElem?_cons_zero.{0}⟩,⟨@List.getElem?_cons_succ.{0},@List.contains_cons.{0}⟩⟩,⟨⟨@List.contains_nil.{0},@Option.isSome_some.{0}⟩,⟨@Option.map_some.{0,0},⟨@Option.map_none.{0,0},@true_and⟩⟩⟩⟩⟩,⟨⟨⟨⟨@and_true,@and_self⟩,⟨@Nat.zero_add,@Nat.add_zero⟩⟩,⟨⟨@Bool.not_true,@Bool.not_false⟩,⟨@Bool.false_eq_true,@Bool.or_true⟩⟩⟩,⟨⟨⟨@Bool.true_or,@Bool.or_false⟩,⟨@Bool.false_or,@Bool.true_and⟩⟩,⟨⟨@Bool.and_true,@Bool.and_self⟩,⟨@decide_true,⟨@decide_false,@decide_eq_true_eq⟩⟩⟩⟩⟩⟩⟩⟩
def CC:(∀(l:List V),V.cells (.agg l)=l)/\(V.cells (.undef )=[.undef ])/\(∀(k:IntKind) (i:Int),V.cells (.int k i)=[.int k i])/\(∀(b:Bool),V.cells (.bool b)=[.bool b])/\(∀(s:List UInt8),V.cells (.str s)=[.str s])/\(V.cells (.aO )=[.aO ])/\(∀(a:Nat) (l:List V),V.cells (.sl a l)=[.sl a l])/\(∀(a b c:Nat),V.cells (.own a b c)=[.own a b c])/\(∀(a b c:Nat),V.cells (.ptr a b c)=[.ptr a b c])/\(∀(a:V),V.cells (.rp a)=[.rp a])/\(V.cells (.YD )=[.YD ])/\(∀(f:FuncId) (l:List V),V.cells (.fn f l)=[.fn f l])/\(∀(f:FuncId) (l:List V),V.cells (.bm f l)=[.bm f l])/\(V.cells (.WT )=[.WT ])/\(∀(t:TypeId) (a:V),V.cells (.iface t a)=[.iface t a])/\(V.cells (.Wt )=[.Wt ])/\(∀(l:List V),V.cells (.VG l)=[.VG l])/\(∀(x:Value),V.cells (.raw x)=[.raw x])/\(∀(a:Nat),V.cells (.gp a)=[.gp a])/\(∀(a:Nat),V.cells (.yl a)=[.yl a])/\(∀(a:Nat),V.cells (.mp a)=[.mp a])/\(∀(l:List V),V.stays (.agg l)=true)/\(V.stays (.undef )=false)/\(∀(k:IntKind) (i:Int),V.stays (.int k i)=true)/\(∀(b:Bool),V.stays (.bool b)=true)/\(∀(s:List UInt8),V.stays (.str s)=true)/\(V.stays (.aO )=true)/\(∀(a:Nat) (l:List V),V.stays (.sl a l)=true)/\(∀(a b c:Nat),V.stays (.own a b c)=true)/\(∀(a b c:Nat),V.stays (.ptr a b c)=true)/\(∀(a:V),V.stays (.rp a)=true)/\(V.stays (.YD )=true)/\(∀(f:FuncId) (l:List V),V.stays (.fn f l)=true)/\(∀(f:FuncId) (l:List V),V.stays (.bm f l)=true)/\(V.stays (.WT )=true)/\(∀(t:TypeId) (a:V),V.stays (.iface t a)=true)/\(V.stays (.Wt )=true)/\(∀(l:List V),V.stays (.VG l)=false)/\(∀(a:Nat),V.stays (.gp a)=true)/\(∀(a:Nat),V.stays (.yl a)=true)/\(∀(a:Nat),V.stays (.mp a)=true):=
 ⟨λ_=>rfl,rfl,λ_ _=>rfl,λ_=>rfl,λ_=>rfl,rfl,λ_ _=>rfl,λ_ _ _=>rfl,λ_ _ _=>rfl,λ_=>rfl,rfl,λ_ _=>rfl,λ_ _=>rfl,rfl,λ_ _=>rfl,rfl,λ_=>rfl,λ_=>rfl,λ_=>rfl,λ_=>rfl,λ_=>rfl,λ_=>rfl,rfl,λ_ _=>rfl,λ_=>rfl,λ_=>rfl,rfl,λ_ _=>rfl,λ_ _ _=>rfl,λ_ _ _=>rfl,λ_=>rfl,rfl,λ_ _=>rfl,λ_ _=>rfl,rfl,λ_ _=>rfl,rfl,λ_=>rfl,λ_=>rfl,λ_=>rfl,λ_=>rfl⟩
def Tp{p:Prop}[Decidable p]:(!decide p)=decide (¬p):=decide_not.symm
def sR{P:Program}{n:Nat}{todo:List It}{st:St}{Q:St->Prop}(h:step P Xu.nothing n 300 (.r todo) st Q):ai P n todo st Q:=ai.bH Xu.nothing 300 h
def WD{K U J:ad}{j:Nat}{o:Ob}(h:C' U j o=J)(s:aa K U)(z:K j=none):aa K J:=by subst h;exact s.az z
def VB{U Z':ad}{i j:Nat}{o:Ob}(a:U i=some o)(f:U j=none)(s:aa U Z'):i≠j/\Z' i=some o:=⟨aU a f,s _ _ a⟩
def nwZ{K U Z':ad}{j:Nat}(h:aa K U)(f:U j=none)(s:aa U Z'):K j=none/\aa K Z':=⟨h.none f,h.trans s⟩
def WZ{v:V}{U:ad}{P:V->ad->Prop}(h:P v U):ak v U P:=⟨_,_,aa.refl _,Wk.refl (aa.refl _) _,h⟩
def mS{P:Program}{n:Nat}(m:Nat){todo:List It}{s:Nat->V}{U:ad}{Q:St->Prop}(h:step P Xu.nothing n 300 (.r todo) ⟨Vc.mix m s s,U⟩ Q):ai P n todo ⟨s,U⟩ Q:=ai.mix m (sR h)
def Xv{P:Program}{n:Nat}{k:List It}{Q:St->Prop}{i:aK}{l:List aK}{fx:VX}{xs:List VX}{s:Nat->V}{U:ad}{f:FuncId}{caps:List V}{Post:V->ad->Prop}(hw:(bz s i.g,i.op,fx.ev s)=(some true,.call fx xs,.fn f caps))(hc:au P f (xs.map (·.ev s)++caps) U Post)(h:∀r Z',Post r Z'->ai P n (.ops l::k) ⟨bc s i.dst r,Z'⟩ Q):ai P n (.ops (i::l)::k) ⟨s,U⟩ Q:=ai.call (congrArg (·.1) hw) (congrArg (·.2.1) hw) (congrArg (·.2.2) hw) hc h
def pR{P:Program}{n:Nat}{k:List It}{Q:St->Prop}{i:aK}{l:List aK}{fx:VX}{xs:List VX}{s:Nat->V}{U:ad}{f:FuncId}{caps:List V}{v:V}(hw:(bz s i.g,i.op,fx.ev s)=(some true,.call fx xs,.fn f caps))(hc:au P f (xs.map (·.ev s)++caps) U λr Z'=>r=v/\Z'=U)(h:ai P n (.ops l::k) ⟨bc s i.dst v,U⟩ Q):ai P n (.ops (i::l)::k) ⟨s,U⟩ Q:=ai.IN (congrArg (·.1) hw) (congrArg (·.2.1) hw) (congrArg (·.2.2) hw) hc h
def pS{P:Program}{n:Nat}{k:List It}{Q:St->Prop}{i:aK}{l:List aK}{fx:VX}{xs:List VX}{s:Nat->V}{U:ad}{f:FuncId}{caps:List V}{v:V}(hw:(bz s i.g,i.op,fx.ev s)=(some true,.call fx xs,.fn f caps))(hc:au P f (xs.map (·.ev s)++caps) U λr Z'=>r=v/\Z'=U)(h:step P Xu.nothing n 300 (.r (.ops l::k)) ⟨bc s i.dst v,U⟩ Q):ai P n (.ops (i::l)::k) ⟨s,U⟩ Q:=pR hw hc (sR h)
def sG{P:Program}{n:Nat}{t:Td}{st:St}{Q:St->Prop}(h:step P Xu.nothing n 300 t st Q):Go P n t st Q:=Go.bH Xu.nothing 300 t st h
attribute [go_sem] BB CC Tp Xu.nothing br eL aJ cY eN fm gk eP cS mZ gn bP jy gA gV eI eT cP lu dJ dn cF Xl mj dT cE jV ef cX dV dP nN binBV dk ei
abbrev vI(n:Int):V:=.int .i64 n
structure Xh where
 (top V0 VJ T' Wf VK VY head before after inside clear:Int)
deriving DecidableEq
def Xh.cells(s:Xh):List V:=[vI s.top,vI s.V0,vI s.VJ,vI s.T',vI s.Wf,vI s.VK,vI s.VY,vI s.head,vI s.before,vI s.after,vI s.inside,vI s.clear]
structure Nd where
 (kind size:Int)
 (st:Xh)
 (line space:Int)
 (words:List Int)
 (side w h:Int)
deriving DecidableEq
def bb(l:List Int):V:=.sl 1 (l.map vI)
def Nd.cells(x:Nd):List V:=[vI x.kind,vI x.size,vI x.st.top,vI x.st.V0,vI x.st.VJ,vI x.st.T',vI x.st.Wf,vI x.st.VK,vI x.st.VY,vI x.st.head,vI x.st.before,vI x.st.after,vI x.st.inside,vI x.st.clear,
 vI x.line,vI x.space,bb x.words,vI x.side,vI x.w,vI x.h]
def gm(x:Nd):V:=.agg x.cells
def mx:Int:=1099511627776
def bh(n a b:Int):Bool:=decide (n>=a/\n<=b)
def Xh.ok(s:Xh):Bool:=bh s.top 0 mx&&bh s.V0 0 mx&&bh s.VJ 0 mx&&bh s.T' 0 mx&&bh s.Wf 0 mx&&bh s.VK 1 mx&&bh s.VY 1 mx&&bh s.head 0 mx&&
 bh s.before 0 4&&bh s.after 0 4&&bh s.inside 0 1&&bh s.clear 0 3
def Xh.zero:Xh:=⟨0,0,0,0,0,0,0,0,0,0,0,0⟩
def aF(l:List Nd):V:=.sl 20 (l.map gm)
def bU(l:List Nd):dX false (aF l)=some (.int .i64 l.length):=by simp[aF,dX]
def af(l:List Nd):(aF l).cells=[aF l]:=rfl
def aM(l:List Nd):(aF l).stays=true:=rfl
variable {P:Program} {n:Nat} {st:St} {Q:St->Prop} {k:List It} {I:Mu} {w w':World}
abbrev gh(o:Obj)(env:List V:=[]):Ob:=⟨0,0,.obj o::env⟩
def Sat.Qv{w0:World}{WU:Nat->Prop}{U:ad}(h:Sat w0 WU I U w)(o:Obj)(env:List V)(he:aq I (aE I U) w env (tmpsOf o)):
 ∃id,U id=none/\∃Y':Mu,Y' id=.WH w.heap.size 0 0/\dL I Y'/\Sat w0 WU Y' (C' U id (gh o env)) (w.alloc o)/\di (aE I U) (aE Y' (C' U id (gh o env))) w (w.alloc o):=by
 obtain⟨id,M',V7,Xj⟩:=h.dI;have hle:dL I (λk=>if k=id then .WH w.heap.size 0 0 else I k):=λk hk=>by
  have:k≠id:=λe'=>hk (e'▸M');simp[this]
 refine⟨id,V7,λk=>if k=id then .WH w.heap.size 0 0 else I k,by simp,hle,?_⟩;refine h.put (row:=none) (World.grownBy_alloc w o none) (by simp) hle (Xj _) id (gh o env) (λo' ho=>?_) (λi o' hi ho=>?_) (λb' XP W2 YT=>?_) (λhk=>?_)
 .simp[C']at ho;exact ho.symm
 .simp only[C',aD hi]at ho;exact⟨ho,by simp⟩
 .simp only[if_true,Pl.WH.injEq]at YT;exact .inr (by omega)
 .simp only[if_true];exact .inr ⟨rfl,rfl,o,env,rfl,World.alloc_heap_new w o,aq.mono hle hk (by simp) _ _ he⟩
def Sat.Ty{w0:World}{WU:Nat->Prop}{U:ad}(h:Sat w0 WU I U w){id b cap:Nat}{o:Ob}(ho:U id=some o)(M':I id=.WH b 0 cap)(o':Obj)(env:List V)(he:aq I (aE I U) w env (tmpsOf o')):
 Sat w0 WU I (C' U id (gh o' env)) (w.putObj b o')/\di (aE I U) (aE I (C' U id (gh o' env))) w (w.putObj b o'):=by
 have B':b<w.heap.size:=aE.lt h ⟨id,o,0,cap,ho,M'⟩;refine h.put (grownBy_putObj' w b o') (λb' YT=>by cases YT;exact⟨id,o,0,cap,ho,M'⟩) (dL.refl _) h.fin id (gh o' env) (λx Wl=>by simp[C']at Wl;exact Wl.symm)
  (λi x hi Wl=>?_) (λb' XP W2 YT=>?_) (λhk=>?_)
 .simp only[C',aD hi]at Wl;refine⟨Wl,λb' XP W2 h4 h5=>hi ?_⟩;cases h5;exact h.inj i id x o _ _ _ _ _ Wl ho h4 M'
 .rw[M']at YT;cases YT;exact .inl rfl
 .rw[M'];exact .inr ⟨rfl,rfl,o',env,rfl,World.putObj_heap_same B',aq.mono (dL.refl _) hk (by simp) _ _ he⟩
def Sat.ND{w0:World}{WU:Nat->Prop}{U:ad}(h:Sat w0 WU I U w){id b cap:Nat}{o:Obj}{env:List V}(ho:U id=some (gh o env))(M':I id=.WH b 0 cap):w.heap[b]?=some o/\aq I (aE I U) w env (tmpsOf o):=by
 have:=h.obj id _ ho;rw[M']at this;rcases this with⟨_,_,_,h1,_⟩|⟨_,_,ob,env',h1,h2,h3⟩
 .omega
 .simp only[List.cons.injEq,V.obj.injEq]at h1;obtain⟨rfl,rfl⟩:=h1;exact⟨h2,h3⟩
variable {P:Program} {n:Nat} {st:St} {Q:St->Prop} {k:List It} {I:Mu} {w w':World}
def Sat.compose{w0:World}{WU:Nat->Prop}{I Y':Mu}{U Z':ad}(h0:Sat w0 WU I U w)(VW:Sat w (aE I U) Y' Z' w'):
 Sat w0 WU Y' Z' w'/\di (aE I U) (aE Y' Z') w w':=by
 have Yk:di (aE I U) (aE Y' Z') w w':=λb hb hn=>⟨λho=>hn (VW.fresh b ho hb),VW.same b hb hn⟩
 refine⟨⟨j2 h0.size VW.size,VW.os.trans h0.os,VW.tape.trans h0.tape,VW.output.trans h0.output,?_,VW.fin,VW.inj,VW.obj,?_,h0.Za⟩,Yk⟩
 .intro b hb hn;have h1:¬aE I U b:=λho=>hn (h0.fresh b ho hb);exact(VW.same b (Nat.lt_of_lt_of_le hb h0.size) h1).trans (h0.same b hb hn)
 .intro b hb B';exact h0.fresh b (VW.fresh b hb (Nat.lt_of_lt_of_le B' h0.size)) B'
def Sat.here{w0:World}{WU:Nat->Prop}{U:ad}(h:Sat w0 WU I U w):Sat w (aE I U) I U w:=
 ⟨Wa _,rfl,rfl,rfl,λ_ _ _=>rfl,h.fin,h.inj,h.obj,λb hb _=>hb,h.lU⟩
def YC(P:Program)(Wp:Nat)(x:List V)(U:ad)(Post:Bool->ad->Prop):Prop:=
 ∀I w VI l c,I Wp=.WH l 0 c->Sat w (aE I U) I U w->aq I (aE I U) w x VI->
  YieldAt Fence.wide 0 P l VI.toArray w λe w'=>∃b Z' Y',e=.returned (.bool b)/\Post b Z'/\dL I Y'/\Sat w (aE I U) Y' Z' w'
def xj{F:Fr}{m m':Nat}{l:Nat}{f:FuncId}{tmps:Array Value}{assign body:Code}{R:Ending->World->Prop}
 (h:RoundIn Fence.wide m P l f tmps assign body w R):RoundIn F.fC m' P l f tmps assign body w R:=
 ⟨trivial,λc cs _=>h.2 c cs (room_wide _)⟩
def ai.oV{i:aK}{l:List aK}{fx:VX}{xs:List VX}(hw:bz st.s i.g=some true)(ho:i.op=.call fx xs){Wp:Nat}(hf:fx.ev st.s=.yl Wp)
 {Post:Bool->ad->Prop}(hc:YC P Wp (xs.map (·.ev st.s)) st.U Post)
 (h:∀b Z',Post b Z'->ai P n (.ops l::k) ⟨bc st.s i.dst (.bool b),Z'⟩ Q):ai P n (.ops (i::l)::k) st Q:=by
 refine ai.LU hw λF hn I a w o all hi hs next Q' VT=>?_
 subst hn;obtain⟨VS,hd⟩:=ff hi;rw[ho]at VS;obtain⟨f0,args,argTypes,g1,rfl,rfl⟩:=nA VS;have hfr:=dr hs f0;rw[hf]at hfr;simp only[E']at hfr;split at hfr
 .rename_i lb c M';have WK:=oe hs args.toList;obtain⟨fn,tmps,assign,body,hy,hR⟩:=hc I w _ lb c M' hs.sat.here WK;have Wv:(execOp a.eval o).run P w=.ok (.round lb fn tmps assign body) w:=by
   unfold execOp;rw[g1];simp only[resolve,hfr,Deferred.ofValue,Sem.run_bind,Sem.run_pure,Result.andThen_ok,invoke];rw[<-hy];congr 2;apply Array.ext';simp
  refine⟨λ_ _=>trivial,?_⟩;rw[Oper.semAt_eq _ _ _ (by rw[g1];intro c e;cases e),Wv];refine⟨lC F,xj (hR.mono ?_)⟩;rintro e w' ⟨b,Z',Y',rfl,hp,hle,VW⟩;obtain⟨h1,h2⟩:=hs.sat.compose VW;refine VT _ _ _ ⟨Y',?_⟩ (h b Z' hp);rw[<-hd];exact hs.step h1 hle h2 VW.size (by simp[E'])
 .exact hfr.elim
def bF(ZJ U Wh Z':ad):Prop:=aa Wh Z'/\∀id o,ZJ id=none->U id=some o->Z' id=some o/\Wh id=none
def bF.refl{ZJ U:ad}(h:aa ZJ U):bF ZJ U ZJ U:=⟨h,λ_ _ h1 h2=>⟨h2,h1⟩⟩
def bF.set{ZJ U Wh Z':ad}(h:bF ZJ U Wh Z'){id:Nat}{o o':Ob}(M':Wh id=some o):bF ZJ U (C' Wh id o') (C' Z' id o'):=
 ⟨h.1.M6,λi x h1 h2=>by
  obtain⟨h3,h4⟩:=h.2 i x h1 h2;have:i≠id:=λe=>by rw[e,M']at h4;cases h4
  simp[Vc.C',this,h3,h4]⟩
def bF.new{ZJ U Wh Z':ad}(h:bF ZJ U Wh Z'){id:Nat}{o:Ob}(M':Z' id=none):bF ZJ U (C' Wh id o) (C' Z' id o):=
 ⟨h.1.M6,λi x h1 h2=>by
  obtain⟨h3,h4⟩:=h.2 i x h1 h2;have:i≠id:=λe=>by rw[e,M']at h3;cases h3
  simp[Vc.C',this,h3,h4]⟩
def bF.y9{ZJ U Wh Z':ad}(h:bF ZJ U Wh Z'){id:Nat}{o:Ob}(M':Z' id=none):bF ZJ U Wh (C' Z' id o):=
 ⟨h.1.trans (aa.C' (aa.refl _) M'),λi x h1 h2=>by
  obtain⟨h3,h4⟩:=h.2 i x h1 h2;have:i≠id:=λe=>by rw[e,M']at h3;cases h3
  simp[Vc.C',this,h3,h4]⟩
def Iter(P:Program)(g:FuncId)(caps:List V)(xs:List (List V)):Prop:=
 fK P g=true/\∀(Wp:Nat) (τ Jx:List (List V)->ad->Prop) (Z0:ad),
  (∀pre x post ZJ U,xs=pre++x::post->τ pre ZJ->aa ZJ U->
    YC P Wp x U λb Z'=>∃Wh,bF ZJ U Wh Z'/\((b=true/\τ (pre++[x]) Wh)\/(b=false/\Jx (pre++[x]) Wh)))->
  τ [] Z0->tO P g (.yl Wp::caps) Z0 λ_ Z'=>τ xs Z'\/∃pre,pre <+: xs/\Jx pre Z'
variable {P:Program} {n:Nat} {st:St} {Q:St->Prop} {k:List It} {I:Mu} {w w':World}
def oM(s:Nat->V):List Nat->List V->Nat->V
 |p::ps,x::xs=>oM (λi=>if i=p then x else s i) ps xs
 |_,_=>s
def exK:List (Nat×(St->Prop))->List It
 |[]=>[]
 |(id,μ)::l=>.inBlock id::.stop μ::exK l
def DZ{U Z':ad}{id:Nat}(h:aa U Z'):aa (del U id) (del Z' id):=λi o e=>by
 unfold del at e|-;split at e
 .cases e
 .rename_i hi;rw[aD hi];exact h i o e
def Sat.more{w0:World}{WU:Nat->Prop}{U:ad}(h:Sat w0 WU I U w)(o:Obj):Sat w0 WU I U (w.alloc o)/\di (aE I U) (aE I U) w (w.alloc o):=by
 have Xa:∀b,b<w.heap.size->(w.alloc o).heap[b]?=w.heap[b]?:=λb hb=>Go.RowKit.Below.heap_alloc w o b hb;have hk:di (aE I U) (aE I U) w (w.alloc o):=λb hb hn=>⟨hn,Xa b hb⟩
 refine⟨⟨by have:=h.size;simp;omega,h.os,h.tape,h.output,λb hb hn=>(Xa b (Nat.lt_of_lt_of_le hb h.size)).trans (h.same b hb hn),h.fin,h.inj,λid ob ho=>?_,h.fresh,h.Za⟩,hk⟩;exact(h.obj id ob ho).mono (dL.refl I) hk (by simp) λb sz cap hp=>Xa b (aE.lt h ⟨id,ob,sz,cap,ho,hp⟩)
def dB.enter{F:Fr}{a:Act}(hs:dB F I st a w)(fn:FuncId)(ps:Array Tmp)(assign body:Code):
 ∃mark W0 D,dB F I st { a with defers:=mark++a.defers } W0/\(Instr.enterLoop fn a.tmps ps assign body F.fC.round).run P w=
  .ok (W0.heap.size,mark) (W0.alloc (.loop { state:=.ready,pending:=none,fn,tmps:=a.tmps,params:=ps,assign,body,defers:=D })):=by
 cases hrd:F.rd with
 |some lr=>
  obtain⟨l0,r0⟩:=lr;obtain⟨h1,_⟩:=hs.book.rnd l0 r0 hrd;refine⟨[],w,r0.defers,hs,?_⟩;have:F.fC.round=some l0:=by simp[Fr.fC,hrd]
  rw[this];exact run_enterLoop_inner h1 fn a.tmps ps assign body
 |none=>
  have:F.fC.round=none:=by simp[Fr.fC,hrd]
  rw[this];refine⟨[{ target:=.collected w.heap.size,args:=#[] }],w.alloc (.deferred (some [])),w.heap.size,?_,?_⟩
  .obtain⟨h1,hk⟩:=hs.sat.more (.deferred (some []));have hb:=hs.book.mR hk;refine⟨h1,hs.le,hs.size,⟨hb.rnd,?_⟩,λi hi=>E'.mono (dL.refl I) hk (by simp) _ _ (hs.slot i hi)⟩;obtain⟨Ds,g1,g2,g3⟩:=hb.marks;obtain⟨Ds',g1',g2',g3'⟩:=hs.book.marks;refine⟨w.heap.size::Ds',by simp[g1'],?_,?_⟩
   .refine List.nodup_cons.2 ⟨λhin=>?_,g2'⟩;have:=(uh.1 (g3' _ hin).2.1).1;omega
   .intro D hD;simp only[et]at hD;rcases hD with rfl|hD
    .refine⟨hs.sat.size,World.alloc_heap_new w _,λho=>?_⟩;have:=aE.lt hs.sat ho;omega
    .obtain⟨q1,q2,q3⟩:=g3' D hD;have B':=(uh.1 q2).1;exact⟨q1,(hk D B' q3).2.trans q2,q3⟩
  .rw[run_enterLoop_outer];simp
def Fj(ps:List Nat):∀(xs:List Value) (t:Array Value) (vs:List V) (s:Nat->V) {ow:Nat->Prop} (m:Nat),t.size=m->aq I ow w vs xs->vs.length=ps.length->
 (∀i,i<m->E' I ow w (s i) (t.getD i undef))->
 ((ps.zip xs).foldl (λt (p,v)=>t.setIfInBounds p v) t).size=m/\∀i,i<m->E' I ow w (oM s ps vs i) (((ps.zip xs).foldl (λt (p,v)=>t.setIfInBounds p v) t).getD i undef):=by
 induction ps with
 |nil=>intro xs t vs s ow m ht _ _ hi;exact⟨by simpa using ht,by simpa[oM]using hi⟩
 |cons p ps ih=>
  intro xs t vs s ow m ht hv hl hi;cases vs with
  |nil=>simp at hl
  |cons v vs=>
   simp only[aq]at hv;obtain⟨x,xs',rfl,h1,h2⟩:=hv;simp only[List.zip_cons_cons,gC,oM];refine ih xs' (t.setIfInBounds p x) vs _ m (by simp[ht]) h2 (by simpa using hl) λi B'=>?_;by_cases hip:i=p
   .subst hip;rw[av rfl,Zq7,Array.getElem?_setIfInBounds_self_of_lt (by omega)];exact h1
   .rw[aD hip,Zq7,Array.getElem?_setIfInBounds_ne (λe=>hip e.symm),<-Zq7];exact hi i B'
variable {P:Program} {n:Nat} {st:St} {Q:St->Prop} {k:List It} {I:Mu} {w w':World}
def vV{b:Nat}{o o':Obj}(h:w.heap[b]?=some o)(hc:∀off x,w.cell? ⟨b,off,none⟩≠some x):
 (∀b',b'≠b->(w.putObj b o').heap[b']?=w.heap[b']?)/\∀(ow:Nat->Prop),rF ow ow w (w.putObj b o'):=by
 have V2:∀b',b'≠b->(w.putObj b o').heap[b']?=w.heap[b']?:=λb' hb=>World.putObj_heap_other hb;refine⟨V2,λow b' _ hn=>⟨hn,λoff x hx=>?_⟩⟩;by_cases hb:b'=b
 .subst hb;exact absurd hx (hc off x)
 .exact fA (V2 b' hb) off x hx
def lS{b:Nat}{r:Loop}(h:w.heap[b]?=some (.loop r)):∀off x,w.cell? ⟨b,off,none⟩≠some x:=λoff x=>by simp[World.cell?,h]
def dB.Sk{F F':Fr}{a:Act}{l:Nat}{r r':Loop}(hs:dB F I st a w)(hF:F.rd=some (l,r))(hF':F'={ F with rd:=some (l,r') })(hl:l<F.w0.heap.size->F.WU l):
 dB F' I st a (w.putObj l (.loop r')):=by
 subst hF';obtain⟨h1,h2⟩:=hs.book.rnd l r hF;obtain⟨V2,hk⟩:=vV (o':=.loop r') h1 (lS h1);have hk:=hk (aE I st.U);have hz:w.heap.size<=(w.putObj l (.loop r')).heap.size:=by simp
 have B':=(uh.1 h1).1;refine⟨⟨by simpa using hs.sat.size,hs.sat.os,hs.sat.tape,hs.sat.output,λb hb hn=>?_,hs.sat.fin,hs.sat.inj,λid o ho=>?_,hs.sat.fresh,hs.sat.Za⟩,hs.le,hs.size,⟨λl' r'' e=>?_,?_⟩,λi hi=>E'.ck (dL.refl I) hk hz _ _ (hs.slot i hi)⟩
 .by_cases YT:b=l
  .subst YT;exact absurd (hl hb) hn
  .exact(V2 b YT).trans (hs.sat.same b hb hn)
 .refine(hs.sat.obj id o ho).ck (dL.refl I) hk hz λb sz cap hp=>V2 b ?_;rintro rfl;exact h2 ⟨id,o,sz,cap,ho,hp⟩
 .simp only[aS,Prod.mk.injEq]at e;obtain⟨rfl,rfl⟩:=e;exact⟨World.putObj_heap_same B',h2⟩
 .obtain⟨Ds,g1,g2,g3⟩:=hs.book.marks;refine⟨Ds,g1,g2,λD hD=>?_⟩;obtain⟨q1,q2,q3⟩:=g3 D hD;refine⟨q1,(V2 D ?_).trans q2,q3⟩;rintro rfl;rw[h1]at q2;cases q2
def Sat.Mx{w0:World}{WU:Nat->Prop}{U:ad}(h:Sat w0 WU I U w){Wp l c:Nat}(V7:U Wp=none)(M':I Wp=.WH l 0 c)(Wb:¬aE I U l){r:Loop}(hr:w.heap[l]?=some (.loop r))
 (hl:l<w0.heap.size->WU l)(o:Obj)(env:List V)(he:aq I (aE I U) w env (tmpsOf o)):Sat w0 WU I (C' U Wp (gh o env)) (w.putObj l o):=by
 obtain⟨V2,_⟩:=vV (o':=o) hr (lS hr);have B':=(uh.1 hr).1;have hz:w.heap.size<=(w.putObj l o).heap.size:=by simp
 have hown:∀b,aE I (C' U Wp (gh o env)) b->aE I U b\/b=l:=by
  rintro b ⟨id,ob,sz,cap,h1,h2⟩;by_cases e:id=Wp
  .subst e;rw[M']at h2;cases h2;exact .inr rfl
  .rw[ab e]at h1;exact .inl ⟨id,ob,sz,cap,h1,h2⟩
 have hk:rF (aE I U) (aE I (C' U Wp (gh o env))) w (w.putObj l o):=λb ⟨off,x,hx⟩ hn=>by
  have WX:b≠l:=by rintro rfl;exact lS hr off x hx
  exact⟨λho=>(hown b ho).elim hn WX,fA (V2 b WX)⟩
 refine⟨by simpa using h.size,h.os,h.tape,h.output,λb hb hn=>?_,h.fin,?_,?_,?_,h.Za⟩
 .by_cases YT:b=l
  .subst YT;exact absurd (hl hb) hn
  .exact(V2 b YT).trans (h.same b hb hn)
 .intro id Xn ob ob' b sz cap XP W2 h1 h2 h3 h4;by_cases e:id=Wp<;>by_cases e':Xn=Wp
  .rw[e,e']
  .exfalso;subst e;rw[M']at h3;cases h3;rw[ab e']at h2;exact Wb ⟨Xn,ob',XP,W2,h2,h4⟩
  .exfalso;subst e';rw[M']at h4;cases h4;rw[ab e]at h1;exact Wb ⟨id,ob,sz,cap,h1,h3⟩
  .rw[ab e]at h1;rw[ab e']at h2;exact h.inj id Xn ob ob' b sz cap XP W2 h1 h2 h3 h4
 .intro id ob ho;by_cases e:id=Wp
  .subst e;rw[ag]at ho;cases ho;rw[M'];exact .inr ⟨rfl,rfl,o,env,rfl,World.putObj_heap_same B',aq.ck (dL.refl I) hk hz _ _ he⟩
  .rw[ab e]at ho;refine(h.obj id ob ho).ck (dL.refl I) hk hz λb sz cap hp=>V2 b ?_;rintro rfl;exact Wb ⟨id,ob,sz,cap,ho,hp⟩
 .intro b hb Wo;rcases hown b hb with h1|h1
  .exact h.fresh b h1 Wo
  .subst h1;exact hl Wo
variable {P:Program} {n:Nat} {st:St} {Q:St->Prop} {k:List It} {I:Mu} {w w':World}
def BR:List (Nat×(St->Prop))->List KI
 |[]=>[]
 |(id,μ)::l=>.inBlock id::.stop μ::BR l
def Es:∀(l:List (Nat×(St->Prop))),(BR l).map (KI.it P n)=exK l
 |[]=>rfl
 |(id,μ)::l=>by simp[BR,exK,KI.it,Es l]
def jK{F:Fr}{e:Exit}{a:Act}(he:e≠.normal):∀(l:List (Nat×(St->Prop))),l5 P F Q (BR l) e a w->
 (e=.ret/\∃st,Q st/\gl F st a w)\/∃id μ,(id,μ)∈l/\e=.exit id/\∃st,μ st/\gl F st a w
 |[],h=>.inl ⟨h.1.resolve_left he,h.2⟩
 |(id,μ)::l,h=>by
  have h:Exit.inBlock id (l5 P F Q (.stop μ::BR l)) e a w:=h;have up:l5 P F Q (BR l) e a w->_:=jK he l;have go:l5 P F Q (BR l) e a w->(e=.ret/\∃st,Q st/\gl F st a w)\/∃Xn I',(Xn,I')∈(id,μ)::l/\e=.exit Xn/\∃st,I' st/\gl F st a w:=λh=>by
   rcases up h with h|⟨i,I',h1,h2⟩
   .exact .inl h
   .exact .inr ⟨i,I',by simp[h1],h2⟩
  cases e with
  |normal=>exact absurd rfl he
  |exit j=>
   simp only[Exit.inBlock]at h;by_cases hj:j=id
   .rw[av hj]at h;exact .inr ⟨id,μ,by simp,by rw[hj],h⟩
   .rw[aD hj]at h;exact go h
  |_=>exact go h
def Ii:Option Nat->Code
 |none=>.ret
 |some id=>.exit id
def I3{rec:Loop}(hready:rec.state=.ready)(hpend:rec.pending=none)(htm:rec.tmps.size=n){s:Nat->V}{Wp:Nat}{x:List V}{ZJ U:ad}
 (hx:x.length=rec.params.toList.length)(WI:ZJ Wp=some (gh (.loop rec) ((List.range n).map s)))(G':aa ZJ U)
 (Jn:ad->Prop)(Zn:List Nat)(Jx:Option Nat->ad->Prop)
 (hb:ai P n [.code (dZ P n rec.assign),.stop λst1=>ai P n (.code (dZ P n rec.body)::.stop (λZe=>∃Z2,bF (del ZJ Wp) (del U Wp) Z2 Ze.U/\Jn Z2)::
   exK (Zn.map λid=>(id,λZe=>∃Z2,bF (del ZJ Wp) (del U Wp) Z2 Ze.U/\Jx (some id) Z2))) st1 (λZe=>∃Z2,bF (del ZJ Wp) (del U Wp) Z2 Ze.U/\Jx none Z2)]
   ⟨oM s rec.params.toList x,del U Wp⟩ (λ_=>False)):
 YC P Wp x U λb Z'=>∃Wh,bF ZJ U Wh Z'/\((b=true/\Wh Wp=some (gh (.loop rec) ((List.range n).map s))/\Jn (del Wh Wp))\/
  (b=false/\∃e:Option Nat,Wh Wp=some (gh (.loop { rec with state:=.done,pending:=some (Ii e) }) ((List.range n).map s))/\Jx e (del Wh Wp)/\∀id,e=some id->id∈Zn)):=by
 intro Y3 w3 VI l c M' Yo XJ;have V7:=G' _ _ WI;obtain⟨hl,henv⟩:=Yo.ND V7 M';have ZV:VI.length=rec.params.toList.length:=by rw[<-hx];exact XJ.length
 have hy:=run_yield (P:=P) (args:=VI.toArray) hl (by simpa using ZV);have Wb:¬aE Y3 (del U Wp) l:=by
  rintro⟨id,o,sz,cap,h1,h2⟩;have:=Yo.inj id Wp o _ l sz cap 0 c (aa.vK U Wp id o h1) V7 h2 M';subst this;simp[del]at h1
 have hks:di (aE Y3 U) (aE Y3 (del U Wp)) w3 w3:=di.sub w3 (aa.vK U Wp);have hslots:∀i,i<n->E' Y3 (aE Y3 (del U Wp)) w3 (s i) (rec.tmps.getD i undef):=λi hi=>by
  have hv:((List.range n).map s)[i]?=some (s i):=by simp[hi]
  obtain⟨y,h1,h2⟩:=henv.get hv;have:rec.tmps.getD i undef=y:=by
   simp only[tmpsOf]at h1;rw[Zq7,<-Array.getElem?_toList,h1];rfl
  rw[this];exact E'.mono (dL.refl _) hks (Wa _) _ _ h2
 obtain⟨hg1,hg2⟩:=Fj rec.params.toList VI rec.tmps x s n htm (aq.mono (dL.refl _) hks (Wa _) _ _ XJ) hx hslots;have hzip:(rec.params.zip VI.toArray).foldl (λtmps (t,a)=>tmps.setIfInBounds t a) rec.tmps=(rec.params.toList.zip VI).foldl (λt (p,v)=>t.setIfInBounds p v) rec.tmps:=by
  rw[<-Array.foldl_toList,Array.toList_zip]
 rw[hzip]at hy;refine⟨rec.fn,_,rec.assign,rec.body,hy,roundIn_of_wpIn (F:=Fence.wide) trivial ?_⟩;have W9:dB ⟨w3,aE Y3 U,Y3,n,some (l,rec)⟩ Y3 ⟨oM s rec.params.toList x,del U Wp⟩ { tmps:=(rec.params.toList.zip VI).foldl (λt (p,v)=>t.setIfInBounds p v) rec.tmps,defers:=[] } w3:=by
  refine⟨Yo.drop (aa.vK U Wp),dL.refl _,hg1,⟨λl' r' e=>?_,[],rfl,.nil,by simp⟩,hg2⟩;simp only[aS,Prod.mk.injEq]at e;obtain⟨rfl,rfl⟩:=e;exact⟨hl,Wb⟩
 have h1:=hb ⟨w3,aE Y3 U,Y3,n,some (l,rec)⟩ rfl [.code rec.assign,.stop _] rfl _ w3 ⟨Y3,W9⟩;refine wpIn_mono (F:=Fence.wide.inRound l) h1 ?_;intro e a1 w1 h;cases e with
 |normal=>
  obtain⟨st1,hI,X4,hs4⟩:=h;have hpk:=hs4.Sk (F':=⟨w3,aE Y3 U,Y3,n,some (l,{ rec with state:=.busy })⟩) (r':={ rec with state:=.busy }) rfl rfl (λ_=>⟨Wp,_,0,c,V7,M'⟩);refine⟨_,run_beginRound (hs4.book.rnd l rec rfl).1 hready,?_⟩;have h2:=hI ⟨w3,aE Y3 U,Y3,n,some (l,{ rec with state:=.busy })⟩ rfl (.code rec.body::.stop _::BR _) (by simp only[fF,Es];rfl) a1 _ ⟨X4,hpk⟩;refine wpIn_mono (F:=Fence.wide.inRound l) h2 ?_;have fin:∀(Ze:St) (a2:Act) (w2:World) (jump:Option Code) (Z2:ad),gl ⟨w3,aE Y3 U,Y3,n,some (l,{ rec with state:=.busy })⟩ Ze a2 w2->bF (del ZJ Wp) (del U Wp) Z2 Ze.U->
   ∃v w'',(Instr.endRound l jump).run P w2=.ok v w''/\v=.bool jump.isNone/\∃Z' Y' Wh,dL Y3 Y'/\Sat w3 (aE Y3 U) Y' Z' w''/\bF ZJ U Wh Z'/\
    Wh Wp=some (gh (.loop { rec with state:=if jump.isNone then .ready else .done,pending:=jump }) ((List.range n).map s))/\del Wh Wp=Z2:=by
   rintro Ze a2 w2 jump Z2 ⟨X5,hs5⟩ Ya;obtain⟨q1,q2⟩:=hs5.book.rnd l _ rfl;have hid5:X5 Wp=.WH l 0 c:=(hs5.le Wp (show Y3 Wp≠.dI by rw[M'];simp)).trans M';have hn5:Ze.U Wp=none:=by
    cases h:Ze.U Wp with
    |none=>rfl
    |some o=>exact absurd ⟨Wp,o,0,c,h,hid5⟩ q2
   have hk5:di (aE Y3 U) (aE X5 Ze.U) w3 w2:=λb hb hn=>⟨λho=>hn (hs5.sat.fresh b ho hb),hs5.sat.same b hb hn⟩
   have henv5:=aq.mono hs5.le hk5 hs5.sat.size _ _ henv;have hn2:Z2 Wp=none:=by
    cases h:Z2 Wp with
    |none=>rfl
    |some o=>have:=Ya.1 Wp o h;rw[hn5]at this;cases this
   refine⟨_,_,run_endRound (P:=P) jump q1,rfl,C' Ze.U Wp (gh (.loop { rec with state:=if jump.isNone then .ready else .done,pending:=jump }) ((List.range n).map s)),X5,
    C' Z2 Wp (gh (.loop { rec with state:=if jump.isNone then .ready else .done,pending:=jump }) ((List.range n).map s)),hs5.le,?_,⟨Ya.1.M6,λi o h1 h2=>?_⟩,ag,D4 hn2⟩
   .exact hs5.sat.Mx hn5 hid5 q2 q1 (λ_=>⟨Wp,_,0,c,V7,M'⟩) _ _ henv5
   .have V2:i≠Wp:=λe=>by rw[e,WI]at h1;cases h1
    obtain⟨g1,g2⟩:=Ya.2 i o (by rw[cc V2];exact h1) (by rw[cc V2];exact h2);rw[ab V2,ab V2];exact⟨g1,g2⟩
  intro e a2 w2 h;cases e with
  |normal=>
   obtain⟨Ze,⟨Z2,Ya,hj⟩,Yr⟩:=h;obtain⟨v,w'',g1,rfl,Z',Y',Wh,g2,g3,g4,g5,g6⟩:=fin Ze a2 w2 none Z2 Yr Ya;refine⟨_,w'',g1,true,Z',Y',rfl,⟨Wh,g4,.inl ⟨rfl,?_,by rw[g6];exact hj⟩⟩,g2,g3⟩;rw[g5];have:({ rec with state:=.ready,pending:=none }:Loop)=rec:=by rw[<-hready,<-hpend]
   simp[this]
  |ret=>
   rcases jK (by simp) _ h with⟨_,Ze,⟨Z2,Ya,hj⟩,Yr⟩|⟨_,_,_,h,_⟩
   .obtain⟨v,w'',g1,rfl,Z',Y',Wh,g2,g3,g4,g5,g6⟩:=fin Ze a2 w2 (some .ret) Z2 Yr Ya;exact⟨_,w'',g1,false,Z',Y',rfl,⟨Wh,g4,.inr ⟨rfl,none,g5,by rw[g6];exact hj,by simp⟩⟩,g2,g3⟩
   .cases h
  |exit id=>
   rcases jK (by simp) _ h with⟨h,_⟩|⟨Xn,μ,hin,h,Ze,hI2,Yr⟩
   .cases h
   .cases h;simp only[gM,Prod.mk.injEq]at hin;obtain⟨id'',hin',rfl,rfl⟩:=hin;obtain⟨Z2,Ya,hj⟩:=hI2;obtain⟨v,w'',g1,rfl,Z',Y',Wh,g2,g3,g4,g5,g6⟩:=fin Ze a2 w2 (some (.exit id'')) Z2 Yr Ya;exact⟨_,w'',g1,false,Z',Y',rfl,⟨Wh,g4,.inr ⟨rfl,some id'',g5,by rw[g6];exact hj,by simp[hin']⟩⟩,g2,g3⟩
  |goto t=>rcases jK (by simp) _ h with⟨h,_⟩|⟨_,_,_,h,_⟩<;>cases h
  |panic ch=>rcases jK (by simp) _ h with⟨h,_⟩|⟨_,_,_,h,_⟩<;>cases h
  |outgrown=>rcases jK (by simp) _ h with⟨h,_⟩|⟨_,_,_,h,_⟩<;>cases h
 |ret=>exact h.2.choose_spec.1.elim
 |exit id=>rcases h.1 with h|h<;>cases h
 |goto t=>rcases h.1 with h|h<;>cases h
 |panic ch=>rcases h.1 with h|h<;>cases h
 |outgrown=>rcases h.1 with h|h<;>cases h
variable {P:Program} {n:Nat} {st:St} {Q:St->Prop} {k:List It} {I:Mu} {w w':World}
def xq{a:Act}{g:Operand}{l:Nat}{f:FuncId}{cv:List Value}(h:a.eval g=.func (.func f) #[] ⟨cv⟩):
 (resolve a.eval (rangeCall g l) 0).run P w=.ok { target:=.fn (.func f) ⟨cv⟩,args:=#[.func (.yield l) #[] #[]] } w:=by
 simp only[resolve,h,Deferred.ofValue];simp[go_sem]
def ai.Lk{g:VX}{ps:List Nat}{A B:bW}{gf:FuncId}{caps:List V}(hg:g.ev st.s=.fn gf caps){xs:List (List V)}{Z0:ad}(hs00:aa Z0 st.U)
 (hit:fK P gf=true/\∀(Wp:Nat) (τ Jx:List (List V)->ad->Prop) (o:Ob),st.U Wp=none->
   (∀pre x post ZJ U,xs=pre++x::post->τ pre ZJ->aa ZJ U->
     YC P Wp x U λb Z'=>∃Wh,bF ZJ U Wh Z'/\((b=true/\τ (pre++[x]) Wh)\/(b=false/\Jx (pre++[x]) Wh)))->
   τ [] (C' Z0 Wp o)->tO P gf (.yl Wp::caps) (C' st.U Wp o) λ_ Z'=>τ xs Z'\/∃pre,pre <+: xs/\Jx pre Z')
 (hlen:∀x∈xs,x.length=ps.length)(Zn:List Nat)(τ:List (List V)->ad->Prop)(Jx:Option Nat->List (List V)->ad->Prop)(h0:τ [] Z0)
 (hbody:∀pre x post ZJ U,xs=pre++x::post->τ pre ZJ->aa ZJ U->
   ai P n [.code A,.stop λst1=>ai P n (.code B::.stop (λZe=>∃Z2,bF ZJ U Z2 Ze.U/\τ (pre++[x]) Z2)::
    exK (Zn.map λid=>(id,λZe=>∃Z2,bF ZJ U Z2 Ze.U/\Jx (some id) (pre++[x]) Z2))) st1 (λZe=>∃Z2,bF ZJ U Z2 Ze.U/\Jx none (pre++[x]) Z2)]
    ⟨oM st.s ps x,U⟩ (λ_=>False))
 (hdone:∀Z',τ xs Z'->ai P n k ⟨st.s,Z'⟩ Q)
 (hexit:∀id∈Zn,∀pre Z',pre <+: xs->Jx (some id) pre Z'->ai P n (.code (.exit id)::k) ⟨st.s,Z'⟩ Q)
 (hret:∀pre Z',pre <+: xs->Jx none pre Z'->ai P n (.code .ret::k) ⟨st.s,Z'⟩ Q):ai P n (.code (.fk g ps A B)::k) st Q:=by
 intro F hn kt hk a w hs;subst hn;obtain⟨z,YA,rfl,hy,XO⟩:=fg hk;obtain⟨c0,rfl,hc⟩:=iO hy;have hc0:∃g0 ps0 a0 b0,c0=.rangeFunc g0 ps0 a0 b0/\cx F.n g0=g/\ps0.toList=ps/\dZ P F.n a0=A/\dZ P F.n b0=B:=by
  cases c0<;>simp only[dZ,reduceCtorEq,bW.fk.injEq]at hc
  case region=>(split at hc;cases hc);split at hc<;>cases hc
  exact⟨_,_,_,_,rfl,hc.1,hc.2.1,hc.2.2.1,hc.2.2.2⟩
 obtain⟨g0,ps0,a0,b0,rfl,rfl,rfl,rfl,rfl⟩:=hc0;obtain⟨I,hs⟩:=hs;have hrg:=dr hs g0;rw[hg]at hrg;simp only[E']at hrg;obtain⟨cv,hgv,hcv⟩:=hrg;refine wpIn_rangeFunc λfn _=>?_;obtain⟨mark,W0,D,Wm,Wv⟩:=hs.enter (P:=P) fn ps0 a0 b0;generalize hrec:({ state:=.ready,pending:=none,fn,tmps:=a.tmps,params:=ps0,assign:=a0,body:=b0,defers:=D }:Loop)=rec at Wv;have hr1:rec.state=.ready:=by rw[<-hrec]
 have hr2:rec.pending=none:=by rw[<-hrec]
 have hr3:rec.tmps=a.tmps:=by rw[<-hrec]
 have hr4:rec.params=ps0:=by rw[<-hrec]
 have hr5:rec.assign=a0:=by rw[<-hrec]
 have hr6:rec.body=b0:=by rw[<-hrec]
 have hszn:rec.tmps.size=F.n:=by rw[hr3];exact hs.size
 have henv:aq I (aE I st.U) W0 ((List.range F.n).map st.s) (tmpsOf (.loop rec)):=by
  have hl:tmpsOf (.loop rec)=(List.range F.n).map λi=>a.tmps.getD i undef:=by
   simp only[tmpsOf,hr3];apply List.ext_getElem
   .simp[hs.size]
   .intro i h1 h2;simp only[cO,List.length_range]at h2;simp only[Array.getElem_toList,List.getElem_map,List.getElem_range];rw[Zq7,Array.getElem?_eq_getElem (by rw[hs.size];exact h2)];rfl
  rw[hl];have WY:∀l:List Nat,(∀i∈l,i<F.n)->aq I (aE I st.U) W0 (l.map st.s) (l.map λi=>a.tmps.getD i undef):=by
   intro l
   induction l with
   |nil=>intro _;simp[aq]
   |cons i l ih=>
    intro h;simp only[fF,aq];exact⟨_,_,rfl,Wm.slot i (h i (by simp)),ih λj hj=>h j (by simp[hj])⟩
  exact WY _ λi hi=>by simpa using hi
 obtain⟨Wp,hidn,X1,hid1,hle1,hsat1,W4⟩:=Wm.sat.Qv (.loop rec) _ henv;generalize hE:(List.range F.n).map st.s=env at*;have hcvt:aq X1 (aE X1 (C' st.U Wp (gh (.loop rec) env))) (W0.alloc (.loop rec)) caps cv:=by
  have h1:aq I (aE I st.U) W0 caps cv:=by
   have h2:=dr Wm g0;rw[hg]at h2;simp only[E']at h2;obtain⟨cv',h3,h4⟩:=h2;have:a.eval g0=.func (.func gf) #[] ⟨cv'⟩:=h3;rw[hgv]at this;simp only[Value.func.injEq,Array.mk.injEq,true_and]at this;rw[this];exact h4
  exact aq.mono hle1 W4 (by simp) _ _ h1
 obtain⟨W5,hiter⟩:=hit;have key:=hiter Wp (λpre ZJ=>ZJ Wp=some (gh (.loop rec) env)/\τ pre (del ZJ Wp))
  (λpre ZJ=>∃e:Option Nat,ZJ Wp=some (gh (.loop { rec with state:=.done,pending:=some (Ii e) }) env)/\Jx e pre (del ZJ Wp)/\∀id,e=some id->id∈Zn)
  (gh (.loop rec) env) hidn ?_ ⟨ag,by rw[D4 (hs00.none hidn)];exact h0⟩
 .refine⟨W0.heap.size,mark,_,_,_,gf,_,_,by rw[show F.fC.round=F.fC.round from rfl];exact Wv,xq hgv,λ_ _=>trivial,
   by simp only[invoke];exact mr W5 _,lC F,oZ ?_⟩
  have WK:aq X1 (aE X1 (C' st.U Wp (gh (.loop rec) env))) (W0.alloc (.loop rec)) (.yl Wp::caps) (.func (.yield W0.heap.size) #[] #[]::cv):=by
   simp only[aq];exact⟨_,_,rfl,by simp[E',hid1],hcvt⟩
  have Xg:=key X1 _ _ hsat1.here WK;have hvals:(Value.func (.yield W0.heap.size) #[] #[]::cv).toArray=#[.func (.yield W0.heap.size) #[] #[]]++⟨cv⟩:=by
   apply Array.ext';simp
  rw[hvals]at Xg;refine Xg.mono ?_;rintro e w2 ⟨r,Z',Y',val,rfl,hp,hle2,Yr,-⟩;obtain⟨hs3,hk3⟩:=hsat1.compose Yr;have hid2:Y' Wp=.WH W0.heap.size 0 0:=(hle2 Wp (by rw[hid1];simp)).trans hid1;have fin:∀(rec2:Loop),Z' Wp=some (gh (.loop rec2) env)->rec2.state≠.busy->∃w4,(Instr.endLoop W0.heap.size).run P w2=.ok rec2.pending w4/\
   gl F ⟨st.s,del Z' Wp⟩ { a with defers:=mark++a.defers } w4:=by
   intro rec2 WI VP;obtain⟨hl2,henv2⟩:=Yr.ND WI hid2;refine⟨_,run_endLoop hl2 VP,Y',?_⟩;have hset:=hs3.Ty WI hid2 (.loop { rec2 with state:=.exhausted }) env henv2;have G':aa (del Z' Wp) (C' Z' Wp (gh (.loop { rec2 with state:=.exhausted }) env)):=λi o h=>by
    unfold del at h;split at h
    .cases h
    .rename_i hi;rw[ab hi];exact h
   have hks:=di.sub (I:=Y') (w2.putObj W0.heap.size (.loop { rec2 with state:=.exhausted })) G';have hsz2:=Yr.size;have hkall:di (aE I st.U) (aE Y' (del Z' Wp)) W0 (w2.putObj W0.heap.size (.loop { rec2 with state:=.exhausted })):=λb hb hn=>by
    obtain⟨q1,q2⟩:=W4 b hb hn;have hb1:b<(W0.alloc (.loop rec)).heap.size:=by simp;omega
    obtain⟨q3,q4⟩:=hk3 b hb1 q1;have V1:b<w2.heap.size:=Nat.lt_of_lt_of_le hb1 hsz2;obtain⟨q5,q6⟩:=hset.2 b V1 q3;exact⟨λho=>q5 (ho.sub G'),q6.trans (q4.trans q2)⟩
   have hle3:dL I Y':=hle1.trans hle2;have hz:W0.heap.size<=(w2.putObj W0.heap.size (.loop { rec2 with state:=.exhausted })).heap.size:=by
    simp at hsz2|-;omega
   exact⟨hset.1.drop G',Wm.le.trans hle3,Wm.size,Wm.book.mR hkall,λi hi=>E'.mono hle3 hkall hz _ _ (Wm.slot i hi)⟩
  rcases hp with⟨WI,hj⟩|⟨pre,hpre,e,WI,hj,hin⟩
  .obtain⟨w4,g1,g2⟩:=fin rec WI (by rw[hr1];simp);refine⟨_,w4,g1,?_⟩;rw[hr2];exact hdone _ hj F rfl YA XO _ _ g2
  .obtain⟨w4,g1,g2⟩:=fin _ WI (by simp);refine⟨_,w4,g1,?_⟩;cases e with
   |none=>exact hret pre _ hpre hj F rfl (.code .ret::YA) (by simp[KI.it,XO,dZ]) _ _ g2
   |some id=>exact hexit id (hin id rfl) pre _ hpre hj F rfl (.code (.exit id)::YA) (by simp[KI.it,XO,dZ]) _ _ g2
 .intro pre x post ZJ U YV hJ G';have hx:x.length=rec.params.toList.length:=by rw[hr4];exact hlen x (by rw[YV];simp)
  have hb:=hbody pre x post (del ZJ Wp) (del U Wp) YV hJ.2 (DZ G');subst hE;refine I3 hr1 hr2 hszn hx hJ.1 G' (τ (pre++[x])) Zn (λe=>Jx e (pre++[x])) ?_;rw[hr4,hr5,hr6];exact hb
def ai.fk{g:VX}{ps:List Nat}{A B:bW}{gf:FuncId}{caps:List V}(hg:g.ev st.s=.fn gf caps){xs:List (List V)}(hit:Iter P gf caps xs)
 (hlen:∀x∈xs,x.length=ps.length)(Zn:List Nat)(τ:List (List V)->ad->Prop)(Jx:Option Nat->List (List V)->ad->Prop)(h0:τ [] st.U)
 (hbody:∀pre x post ZJ U,xs=pre++x::post->τ pre ZJ->aa ZJ U->
   ai P n [.code A,.stop λst1=>ai P n (.code B::.stop (λZe=>∃Z2,bF ZJ U Z2 Ze.U/\τ (pre++[x]) Z2)::
    exK (Zn.map λid=>(id,λZe=>∃Z2,bF ZJ U Z2 Ze.U/\Jx (some id) (pre++[x]) Z2))) st1 (λZe=>∃Z2,bF ZJ U Z2 Ze.U/\Jx none (pre++[x]) Z2)]
    ⟨oM st.s ps x,U⟩ (λ_=>False))
 (hdone:∀Z',τ xs Z'->ai P n k ⟨st.s,Z'⟩ Q)
 (hexit:∀id∈Zn,∀pre Z',pre <+: xs->Jx (some id) pre Z'->ai P n (.code (.exit id)::k) ⟨st.s,Z'⟩ Q)
 (hret:∀pre Z',pre <+: xs->Jx none pre Z'->ai P n (.code .ret::k) ⟨st.s,Z'⟩ Q):ai P n (.code (.fk g ps A B)::k) st Q:=
 ai.Lk hg (aa.refl _) ⟨hit.1,λWp J' Jx' _ _ hb h=>hit.2 Wp J' Jx' _ hb h⟩ hlen Zn τ Jx h0 hbody hdone hexit hret
variable {P:Program} {n:Nat} {st:St} {Q:St->Prop} {k:List It}
def eD(V':List (List Nat))(A':List Nat):List Nat:=(List.range V'.length).filter λi=>!A'.contains i&&(V'.getD i []).all A'.contains
abbrev kK(ops:Array Oper):List (List Nat):=ops.toList.map λo=>(o.after.toList.filter (Region.binds .any)).map (·.on)
def ym{ops:Array Oper}{arr:Array Bool}{A':List Nat}(hs:arr.size=ops.size)(hl:∀i,i<ops.size->arr.getD i true=A'.contains i)
 (ho:∀i∈A',i<ops.size):Region.ready .any ops arr=eD (kK ops) A':=by
 unfold Region.ready eD;have hlen:(kK ops).length=ops.size:=by simp[kK]
 rw[hlen];refine List.filter_congr λi hi=>?_;have hi:i<ops.size:=by simpa using hi
 rw[hl i hi];congr 1;have h1:ops[i]?=some ops[i]:=Array.getElem?_eq_getElem hi;have h2:(kK ops).getD i []=(ops[i].after.toList.filter (Region.binds .any)).map (·.on):=by
  rw[xA];simp[kK,hi]
 rw[h1,h2];simp only[Option.map_some,Option.getD_some];rw[<-Array.all_toList,List.all_map,List.all_filter];congr 1;funext e;simp only[Function.comp];have h3:arr.getD e.on false=A'.contains e.on:=by
  by_cases he:e.on<ops.size
  .rw[<-hl _ he,Zq7,Zq7,Array.getElem?_eq_getElem (by omega)];rfl
  .rw[Zq7,Array.getElem?_eq_none (by omega)];simp only[Option.getD_none];symm;rw[Bool.eq_false_iff];intro hc;exact he (ho _ (by simpa using hc))
 rw[h3]
def aa.oN{Z0 U:ad}{e:Nat}(h:aa Z0 U)(he:Z0 e=Option.none):aa Z0 (del U e):=λi x hx=>by
 have V2:i≠e:=λe'=>by rw[e',he]at hx;cases hx
 rw[cc V2];exact h i x hx
def rB:(∀{P:Program} {O:Xu P} {n:Nat} {k:List It} {st:St} {Q:St->Prop},step P O n 0 (.r k) st Q=Kof P n k st Q)/\(∀{P:Program} {n:Nat} {c:bW} {k:List It} {st:St} {Q:St->Prop},Kof P n (.code c::k) st Q=ai P n (.code c::k) st Q)/\
 (∀{P:Program} {n:Nat} {l:List aK} {k:List It} {st:St} {Q:St->Prop},Kof P n (.ops l::k) st Q=ai P n (.ops l::k) st Q)/\(∀{P:Program} {n id:Nat} {k:List It} {st:St} {Q:St->Prop},Kof P n (.inBlock id::k) st Q=ai P n (.inBlock id::k) st Q)/\
 ∀{P:Program} {n:Nat} {st:St} {Q:St->Prop},Kof P n [] st Q=ai P n [] st Q:=⟨rfl,rfl,rfl,rfl,rfl⟩
def Wk.aO{U Z':ad}(sz:Nat):Wk U Z' .aO (.sl sz []):=by
 intro I w0 w WU x hs hr;simp only[E']at hr|-;exact⟨none,0,by simpa using hr,by simp,.inl trivial⟩
def ay(K U:ad)(e sz:Nat)(v:V)(rows:List V):Prop:=(v=.aO/\rows=[])\/∃id,v=.own id 0 rows.length/\U id=some ⟨e,sz,rows⟩/\K id=none
def ay.wk{K U:ad}{e sz:Nat}{v:V}{rows:List V}(h:ay K U e sz v rows){K':ad}(hK:aa K' K)(hs:aa K' U):Wk U K' v (.sl sz rows):=by
 rcases h with⟨rfl,rfl⟩|⟨id,rfl,ho,hk⟩
 .exact Wk.aO sz
 .have:=Wk.own hs ho (hK.none hk) (off:=0) (len:=rows.length) (by simp);rw[CB,eF]at this;exact this
def ay.pX{K U:ad}{e sz:Nat}{v:V}{rows:List V}(h:ay K U e sz v rows)(hs:aa K U){v0:V}(hv:V.sl sz rows=v0):
 ak v U λr Z'=>r=v0/\Z'=K:=⟨_,K,hs,h.wk (aa.refl K) hs,hv,rfl⟩
def bt{P:Program}{n:Nat}{Q:St->Prop}{k:List It}{O:Xu P}{f:Nat}{d:Option Nat}{l:List aK}{v:Nat->V}{ob:Ob}{s:Nat->V}{U:ad}{e:Option Nat}
 (h:∀id Z',aa (bN U e) Z'->Z' id=some ob->U id=none->step P O n f (.r (.ops l::k)) ⟨bc s d (v id),Z'⟩ Q):
 FJ P O n f l k d ⟨s,U⟩ Q (some λid=>(v id,Vc.C' (bN U e) id ob)):=by
 rw[ax];refine λid M'=>h id _ ((aa.refl _).C' ?_) ag M';cases e with
 |none=>exact M'
 |some e=>
  simp only[bN,del];split
  .rfl
  .exact M'
def eQ{P:Program}{n:Nat}{Q:St->Prop}{k:List It}{O:Xu P}{f:Nat}{d:Option Nat}{l:List aK}{v:Nat->V}{ob:Ob}{s:Nat->V}{U:ad}{e:Option Nat}
 (h:∀id Z',aa (bN U e) Z'->Z' id=some ob->U id=none->step P O n f (.d l k) ⟨bc s d (v id),Z'⟩ Q):
 Fg P O n f l k d ⟨s,U⟩ Q (some λid=>(v id,Vc.C' (bN U e) id ob)):=by
 rw[aB];refine λid M'=>h id _ ((aa.refl _).C' ?_) ag M';cases e with
 |none=>exact M'
 |some e=>
  simp only[bN,del];split
  .rfl
  .exact M'
def ay.dst{K U:ad}{e sz:Nat}{v:V}{rows:List V}(h:ay K U e sz v rows){Z1:ad}(hs:aa U Z1):
 ∃idA,bL Z1 e sz v=some (rows,idA)/\∀K':ad,aa K' K->∀Z2,aa K' Z2->aa K' (bN Z2 idA):=by
 rcases h with⟨rfl,rfl⟩|⟨id,rfl,ho,hk⟩
 .exact⟨none,rfl,λ_ _ _ h=>h⟩
 .refine⟨some id,?_,λK' hK Z2 h=>h.oN (hK.none hk)⟩;simp only[bL,hs _ _ ho];rw[av ⟨trivial,trivial,trivial,Wa _⟩,eF]
def ay.start{K U:ad}{e sz:Nat}:ay K U e sz .aO []:=.inl ⟨rfl,rfl⟩
def ay.new{K U:ad}{e sz id:Nat}{rows:List V}{n:Nat}(hn:n=rows.length)(h:U id=some ⟨e,sz,rows⟩)(hk:K id=none):ay K U e sz (.own id 0 n) rows:=by
 subst hn;exact .inr ⟨id,rfl,h,hk⟩
def ay.len{K U:ad}{e sz:Nat}{v:V}{rows:List V}(h:ay K U e sz v rows):dX false v=some (.int .i64 rows.length):=by
 rcases h with⟨rfl,rfl⟩|⟨id,rfl,ho,hk⟩<;>rfl
def ay.mono{K U Z':ad}{e sz:Nat}{v:V}{rows:List V}(h:ay K U e sz v rows)(hs:aa U Z'):ay K Z' e sz v rows:=by
 rcases h with h|⟨id,h1,h2,h3⟩
 .exact .inl h
 .exact .inr ⟨id,h1,hs _ _ h2,h3⟩
def bJ{U:ad}{id e sz:Nat}{r:V}(h:U id=some ⟨e,sz,[r]⟩):bM U sz (.own id 0 1)=some [r]:=by
 simp[bM,h]
def Wk.ptr{U Z':ad}(h:aa Z' U){id:Nat}{e sz:Nat}{r:V}(ho:U id=some ⟨e,sz,[r]⟩)(M':Z' id=none):Wk U Z' (.ptr id 0 0) (.rp r):=by
 intro I w0 w WU x hs hr;simp only[E']at hr|-;have WO:=hs.obj id _ ho;split at hr
 .rename_i b XP cap hb;obtain⟨rfl,hz⟩:=hr;rw[hb]at WO;have B':b<w.heap.size:=aE.lt hs ⟨id,_,_,_,ho,hb⟩;obtain⟨g1,g2,g3,g4,g5⟩:=WO.rows hz;refine⟨b,_,rfl,B',.inr ?_,?_⟩
  .rintro⟨Xn,ob',sz'',cap'',e1,e2⟩;have:=hs.inj Xn id ob' _ _ _ _ _ _ (h _ _ e1) ho e2 hb;rw[this,M']at e1;cases e1
  .simp only[bg]at g5;have:=bg.mono (dL.refl I) (di.sub w h) (Wa _) [r] b 0 XP rfl (by simp only[bg];exact⟨g5.1,g5.2.1,trivial⟩);simp only[bg]at this;simpa using this.2.1
 .exact hr.elim
def Wk.fn{U Z':ad}{f:FuncId}{vs vs':List V}(h:WkL U Z' vs vs'):Wk U Z' (.fn f vs) (.fn f vs'):=by
 intro I w0 w WU x hs hr;simp only[E']at hr|-;obtain⟨VI,rfl,h1⟩:=hr;exact⟨VI,rfl,WkL.all hs h h1⟩
def V.oG(vs:List V):V.cells (.agg vs)=vs:=rfl
open Go.Proofs
section
variable {P:Program} {n:Nat} {st:St} {Q:St->Prop} {k:List It}
def Go.Mm{i:aK}{l:List aK}{fx:VX}{xs:List VX}{f:FuncId}{caps:List V}{v:V}(hw:bz st.s i.g=some true)(ho:i.op=.call fx xs)
 (hf:fx.ev st.s=.fn f caps)(hc:aL P f (xs.map (·.ev st.s)++caps) v)(h:Go P n (.d l k) ⟨bc st.s i.dst v,st.U⟩ Q):Go P n (.d (i::l) k) st Q:=by
 refine pL hw ?_;rw[ho];exact⟨f,caps,v,hf,λZ1 _=>hc Z1,h⟩
def pJ{P:Program}{n:Nat}{st:St}{Q:St->Prop}{k}{i:aK}{l:List aK}{fx:VX}{xs:List VX}{f:FuncId}{caps:List V}{v:V}(hw:(bz st.s i.g,i.op,fx.ev st.s)=(some true,.call fx xs,.fn f caps))(hc:aL P f (xs.map (·.ev st.s)++caps) v)(h:Go P n (.d l k) ⟨bc st.s i.dst v,st.U⟩ Q):Go P n (.d (i::l) k) st Q:=Go.Mm (congrArg (·.1) hw) (congrArg (·.2.1) hw) (congrArg (·.2.2) hw) hc h
end
def oq{U:ad}{id:Nat}{o:Ob}(h:U id=some o):C' U id o=U:=by
 funext i;simp only[C'];split
 .rename_i e;rw[e,h]
 .rfl
def Bq(n:Int):Prop:=-1152921504606846976<=n/\n<=1152921504606846976
def rP(n:Int):aL prog 29 [vI n] (.bool (decide (1<=n/\n<=1099511627776))):=λU=>by
 refine e29.q ?_;apply sR;simp only[go_sem,seval,c29];refine And.intro (λh=>?_) (λh=>?_)
 .exact ak.same (by congr 1;exact decide_eq_decide.2 (by omega))
 .exact ak.same (by congr 1;exact(WW (by omega)).symm)
def eA(n:Int):Int:=max (-1099511627776) (min n 1099511627776)
def BV(n:Int):aL prog 80 [vI n] (vI (eA n)):=λU=>by
 refine e80.q ?_;apply sR;simp only[go_sem,seval,c80];exact ak.same (by congr 1;unfold eA;split<;>split<;>omega)
structure Wq where
 (a b:Int)
deriving DecidableEq
def aV(s:Wq):V:=.agg [vI s.a,vI s.b]
def uJ(s:Wq):aL prog 286 [aV s] (.bool (decide (s.b<=s.a))):=λU=>by
 refine Vr.q ?_;apply sR;simp only[go_sem,seval,Qq,aV];refine aA λi1 Z1 s1 a1 f1=>?_;simp only[go_sem,seval,a1];exact ak.pure s1 rfl
def fB(s:Wq):Int:=if s.b<=s.a then 0 else s.b-s.a
def W1(n:Int):Prop:=-2305843009213693952<=n/\n<=2305843009213693952
def I9(s:Wq)(ha:W1 s.a)(hb:W1 s.b):aL prog 262 [aV s] (vI (fB s)):=λU=>by
 obtain⟨h1,h2⟩:=ha;obtain⟨h3,h4⟩:=hb;refine Ui.q ?_;apply sR;simp only[go_sem,seval,QA,aV];refine aA λi1 Z1 s1 a1 f1=>?_;simp only[go_sem,seval,a1];refine pS rfl (uJ ⟨_,_⟩ _) ?_;simp only[go_sem,seval,a1];unfold fB;refine And.intro (λh=>?_) (λh=>?_)
 .rw[av h];exact ak.pure s1 rfl
 .rw[aD h];exact⟨ae,ak.pure s1 rfl⟩
open Go.Proofs
def nL(a b:Wq):Wq:=if a.b<=a.a\/b.b<=b.a\/min a.b b.b<=max a.a b.a then⟨0,0⟩else⟨max a.a b.a,min a.b b.b⟩
def ct(a b:Int):(if b>a then b else a)=max a b:=by split<;>omega
def dD(a b:Int):(if b<a then b else a)=min a b:=by split<;>omega
def Nt(x y:Wq):aL prog 296 [aV x,aV y] (aV (nL x y)):=λU=>by
 refine Vx.q ?_;have hs:=aa.refl U;refine mS 6 ?_;simp only[go_sem,seval,RG,aV];refine ar hs λi2 Z2 s2 a2 f2 z2 hs=>?_;simp only[go_sem,seval,a2];refine ar hs λi3 Z3 s3 a3 f3 z3 hs=>?_;obtain⟨n23,a2⟩:=VB a2 f3 s3;simp only[go_sem,seval,a3,a2];refine ar hs λi4 Z4 s4 a4 f4 z4 hs=>?_;obtain⟨n24,a2⟩:=VB a2 f4 s4;obtain⟨n34,a3⟩:=VB a3 f4 s4;simp only[go_sem,seval,a4,a3,a2];refine ar hs λi5 Z5 s5 a5 f5 z5 hs=>?_;obtain⟨n25,a2⟩:=VB a2 f5 s5;obtain⟨n35,a3⟩:=VB a3 f5 s5;obtain⟨XQ,a4⟩:=VB a4 f5 s5;simp only[go_sem,seval,a5,a4,a3,a2,ct,dD,ab n25,ab n35,ab XQ];generalize Ys:C' _ i5 _=Y5;replace a5:=WC Ys;replace a2:=VN Ys n25 a2;replace a3:=VN Ys n35 a3;replace a4:=VN Ys XQ a4;replace hs:=WD Ys hs z5;refine pR rfl (uJ ⟨_,_⟩ _) ?_;unfold nL;by_cases h1:x.b<=x.a
 .rw[av (.inl h1),WJ h1];apply sR;simp only[go_sem,seval,a4,a5];exact ak.pure (hs.az z4) rfl
 rw[WW h1];apply sR;simp only[go_sem,seval,a3,a5,a4];refine pR rfl (uJ ⟨_,_⟩ _) ?_;by_cases h2:y.b<=y.a
 .rw[av (.inr (.inl h2)),WJ h2];apply sR;simp only[go_sem,seval,a4,a5];exact ak.pure (hs.az z4) rfl
 rw[WW h2];apply sR;simp only[go_sem,seval,a3,a5,a4];refine pR rfl (uJ ⟨_,_⟩ _) ?_;by_cases h3:min x.b y.b<=max x.a y.a
 .rw[av (.inr (.inr h3)),WJ h3];apply sR;simp only[go_sem,seval,a4,a5];exact ak.pure (hs.az z4) rfl
 .rw[aD (by omega),WW h3];apply sR;simp only[go_sem,seval,a4,a5];exact ak.pure (hs.az z4) rfl
def Ku(x y:Wq):aL prog 294 [aV x,aV y] (.bool (decide (nL x y=⟨0,0⟩))):=λU=>by
 refine Si.q ?_;have hs:=aa.refl U;refine mS 5 ?_;simp only[go_sem,seval,Pv,aV];refine ar hs λi2 Z2 s2 a2 f2 z2 hs=>?_;simp only[go_sem,seval,a2];refine ar hs λi3 Z3 s3 a3 f3 z3 hs=>?_;obtain⟨n23,a2⟩:=VB a2 f3 s3;simp only[go_sem,seval,a3,a2];refine pR rfl (Nt ⟨_,_⟩ ⟨_,_⟩ _) ?_;have e:(⟨x.a,x.b⟩:Wq)=x:=rfl;have e':(⟨y.a,y.b⟩:Wq)=y:=rfl;rw[e,e'];generalize nL x y=m;obtain⟨u,v⟩:=m;apply sR;simp only[go_sem,seval,aV];refine ak.pure hs ?_;by_cases h1:u=0<;>by_cases h2:v=0<;>simp[h1,h2]
structure Rct where
 (x y w h:Int)
deriving DecidableEq
def JV(r:Rct):V:=.agg [vI r.x,vI r.y,vI r.w,vI r.h]
def Db(r:Rct)(h1:Bq r.y)(h2:Bq r.h):aL prog 237 [JV r] (aV ⟨r.y,r.y+r.h⟩):=λU=>by
 obtain⟨g1,g2⟩:=h1;obtain⟨g3,g4⟩:=h2;refine U2.q ?_;have hs:=aa.refl U;apply sR;simp only[go_sem,seval,QS,JV];refine ar hs λi1 Z1 s1 a1 f1 z1 hs=>?_;simp only[go_sem,seval,a1];refine ar hs λi2 Z2 s2 a2 f2 z2 hs=>?_;obtain⟨n12,a1⟩:=VB a1 f2 s2;simp only[go_sem,seval,a2,a1];exact⟨ae,ak.pure (hs.az z2) rfl⟩
def I6(r:Rct)(h1:Bq r.x)(h2:Bq r.w):aL prog 288 [JV r] (aV ⟨r.x,r.x+r.w⟩):=λU=>by
 obtain⟨g1,g2⟩:=h1;obtain⟨g3,g4⟩:=h2;refine TY.q ?_;have hs:=aa.refl U;apply sR;simp only[go_sem,seval,Qe,JV];refine ar hs λi1 Z1 s1 a1 f1 z1 hs=>?_;simp only[go_sem,seval,a1];refine ar hs λi2 Z2 s2 a2 f2 z2 hs=>?_;obtain⟨n12,a1⟩:=VB a1 f2 s2;simp only[go_sem,seval,a2,a1];exact⟨ae,ak.pure (hs.az z2) rfl⟩
structure Pn where
 (y m:Int)
deriving DecidableEq
def dC(p:Pn):V:=.agg [vI p.y,vI p.m]
def Fc(p:Pn)(h1:Bq p.y)(h2:Bq p.m):aL prog 134 [dC p] (vI (p.y+p.m)):=λU=>by
 obtain⟨g1,g2⟩:=h1;obtain⟨g3,g4⟩:=h2;refine TU.q ?_;have hs:=aa.refl U;apply sR;simp only[go_sem,seval,QB,dC];refine ar hs λi1 Z1 s1 a1 f1 z1 hs=>?_;simp only[go_sem,seval,a1];exact⟨ae,ak.pure hs rfl⟩
def Np(p:Pn)(y h:Int)(h1:Bq y)(h2:Bq h):aL prog 231 [dC p,vI y,vI h] (dC ⟨y+h,0⟩):=λU=>by
 obtain⟨g1,g2⟩:=h1;obtain⟨g3,g4⟩:=h2;refine Sp.q ?_;have hs:=aa.refl U;apply sR;simp only[go_sem,seval,Pz,dC];refine ar hs λi1 Z1 s1 a1 f1 z1 hs=>?_;simp only[go_sem,seval,a1];refine ar hs λi2 Z2 s2 a2 f2 z2 hs=>?_;obtain⟨n12,a1⟩:=VB a1 f2 s2;simp only[go_sem,seval,a2,a1];exact⟨ae,ak.pure (hs.az z2) rfl⟩
def eV(p:Pn)(low:Int):Pn:=if low>p.y+p.m then⟨low,0⟩else p
def Hr(p:Pn)(low:Int)(h1:Bq p.y)(h2:Bq p.m):aL prog 174 [dC p,vI low] (dC (eV p low)):=λU=>by
 refine T1.q ?_;have hs:=aa.refl U;refine mS 5 ?_;simp only[go_sem,seval,Ps,dC];refine ar hs λi2 Z2 s2 a2 f2 z2 hs=>?_;simp only[go_sem,seval,a2];refine ar hs λi4 Z4 s4 a4 f4 z4 hs=>?_;obtain⟨n24,a2⟩:=VB a2 f4 s4;simp only[go_sem,seval,a4,a2];refine pR rfl (Fc ⟨_,_⟩ h1 h2 _) ?_;unfold eV;by_cases h:low>p.y+p.m
 .have q:(low>p.y+p.m)=True:=L' h;rw[av h];apply sR;simp only[go_sem,seval,a4,a2,q];exact ak.pure (hs.az z4) rfl
 .have q:(low>p.y+p.m)=False:=H' h;rw[aD h];apply sR;simp only[go_sem,seval,a4,a2,q];exact ak.pure (hs.az z4) rfl
def Ek(y m n:Int){U:ad}{id:Nat}(M':U id=some ⟨301,2,[.agg [vI y,vI m]]⟩):au prog 228 [.ptr id 0 0,vI n] U λr Z'=>r=.VG []/\Z'=C' U id ⟨301,2,[.agg [vI y,vI (max m n)]]⟩:=by
 refine UL.q ?_;apply sR;simp only[go_sem,seval,Q1,M',ct];exact WZ ⟨rfl,rfl⟩
def Mb(y m n:Int)(hy:Bq y)(hm:Bq m)(hn:Bq n){U:ad}{id:Nat}(M':U id=some ⟨301,2,[.agg [vI y,vI m]]⟩):au prog 229 [.ptr id 0 0,vI n] U λr Z'=>r=.VG []/\Z'=C' U id ⟨301,2,[.agg [vI (if n>0 then y+m+n else y),vI (if n>0 then 0 else m)]]⟩:=by
 obtain⟨g1,g2⟩:=hy;obtain⟨g3,g4⟩:=hm;obtain⟨g5,g6⟩:=hn;refine Vd.q ?_;by_cases h:n>0
 .have q:(n>0)=True:=L' h;rw[av h,av h];apply sR;simp only[go_sem,seval,NA,M',q];exact⟨ae,ae,_,_,aa.refl _,Wk.refl (aa.refl _) _,rfl,rfl⟩
 .have q:(n>0)=False:=H' h;rw[aD h,aD h];apply sR;simp only[go_sem,seval,NA,M',q];exact WZ ⟨rfl,(by funext i;simp only[C'];split<;>simp_all)⟩
open Go.Proofs
structure O' where
 (node side anchor x y w h:Int)
deriving DecidableEq
def aG(f:O'):V:=.agg [vI f.node,vI f.side,vI f.anchor,vI f.x,vI f.y,vI f.w,vI f.h]
def aC(l:List O'):V:=.sl 7 (l.map aG)
def jD(f:O'):V:=.agg [vI f.node,vI f.side,vI f.anchor,vI f.x,vI f.y,vI f.w,vI f.h,vI f.x,vI f.y,vI f.w,vI f.h]
def O'.ok(f:O'):Prop:=Bq f.x/\Bq f.y/\Bq f.w/\Bq f.h
def ed{U:ad}{l:List O'}{i:Nat}(h:i<l.length):bO U 7 (aC l) (.int .i64 i)=some (.rp (aG l[i])):=by simp[aC,bO,h]
def cQ(l:List O'):dX false (aC l)=some (.int .i64 l.length):=by simp[aC,dX]
def LZ(f:O'):aL prog 236 [aG f] (jD f):=λU=>by
 refine Up.q ?_;have hs:=aa.refl U;apply sR;simp only[go_sem,seval,OR,aG];refine ar hs λi1 Z1 s1 a1 f1 z1 hs=>?_;simp only[go_sem,seval,a1];refine ar hs λi2 Z2 s2 a2 f2 z2 hs=>?_;obtain⟨n12,a1⟩:=VB a1 f2 s2;simp only[go_sem,seval,a2,a1];exact ak.pure (hs.az z2) rfl
def BX(f:O')(hf:f.ok):aL prog 184 [jD f] (vI (f.y+f.h)):=λU=>by
 refine UC.q ?_;have hs:=aa.refl U;apply sR;simp only[go_sem,seval,QD,jD];refine ar hs λi1 Z1 s1 a1 f1 z1 hs=>?_;simp only[go_sem,seval,a1];refine pS rfl (Db ⟨_,_,_,_⟩ hf.2.1 hf.2.2.2 _) ?_;simp only[go_sem,seval,aV];exact ak.pure hs rfl
def eJ(y high:Int)(f:O'):Bool:=!decide (nL ⟨f.y,f.y+f.h⟩ ⟨y,y+max high 1⟩=⟨0,0⟩)
def JE(f:O')(y high:Int)(hf:f.ok)(hy:W1 y)(hh:Bq high):aL prog 287 [jD f,vI y,vI high] (.bool (eJ y high f)):=λU=>by
 obtain⟨g1,g2⟩:=hy;obtain⟨g3,g4⟩:=hh;refine Ug.q ?_;have hs:=aa.refl U;refine mS 7 ?_;simp only[go_sem,seval,Ou,jD];refine ar hs λi3 Z3 s3 a3 f3 z3 hs=>?_;simp only[go_sem,seval,a3];refine pS rfl (Db ⟨_,_,_,_⟩ hf.2.1 hf.2.2.2 _) ?_;simp only[go_sem,seval,ct];refine⟨ae,?_⟩;refine pS rfl (Ku ⟨_,_⟩ ⟨_,_⟩ _) ?_;simp only[go_sem,seval];rw[show max high 1=max 1 high by omega];exact ak.pure hs (by simp[eJ,Int.max_comm])
def iq(f:O')(s:Wq):Wq:=if f.side=1 then⟨max s.a (f.x+f.w),s.b⟩else⟨s.a,min s.b f.x⟩
def LQ(f:O')(s:Wq)(hf:f.ok):aL prog 265 [jD f,aV s] (aV (iq f s)):=λU=>by
 refine Vw.q ?_;have hs:=aa.refl U;refine mS 6 ?_;simp only[go_sem,seval,Qj,jD,aV];refine ar hs λi2 Z2 s2 a2 f2 z2 hs=>?_;simp only[go_sem,seval,a2];refine ar hs λi3 Z3 s3 a3 f3 z3 hs=>?_;obtain⟨n23,a2⟩:=VB a2 f3 s3;simp only[go_sem,seval,a3,a2];refine ar hs λi4 Z4 s4 a4 f4 z4 hs=>?_;obtain⟨n24,a2⟩:=VB a2 f4 s4;obtain⟨n34,a3⟩:=VB a3 f4 s4;simp only[go_sem,seval,a4,a3,a2];refine pS rfl (I6 ⟨_,_,_,_⟩ hf.1 hf.2.2.1 _) ?_;simp only[go_sem,seval,aV];refine ar hs λi5 Z5 s5 a5 f5 z5 hs=>?_;obtain⟨n25,a2⟩:=VB a2 f5 s5;obtain⟨n35,a3⟩:=VB a3 f5 s5;obtain⟨XQ,a4⟩:=VB a4 f5 s5;unfold iq;by_cases h:f.side=1
 .have q:(f.side=1)=True:=L' h;rw[av h];simp only[go_sem,seval,a5,a4,a3,a2,q,ct,dD,ab n25,ab n35,ab XQ,ab n34.symm,ab n35.symm,ab n24,ab n34,ab XQ.symm];exact ak.pure (((hs.az z5).az z3).az z4) rfl
 .have q:(f.side=1)=False:=H' h;rw[aD h];simp only[go_sem,seval,a5,a4,a3,a2,q,ct,dD,ab n25,ab n35,ab XQ,ab n34.symm,ab n35.symm,ab n24,ab n34,ab XQ.symm];exact ak.pure (((hs.az z5).az z3).az z4) rfl
open Go.Proofs
def lF{α:Type}(p:α->Bool)(l:List α){i:Nat}(h:i<l.length):(l.take (i+1)).filter p=(l.take i).filter p++if p l[i]then[l[i]]else[]:=by
 rw[XH h,List.filter_append];cases hp:p l[i]<;>simp[hp]
def Mh(l:List O')(y high:Int)(hl:l.length<=1000000)(VE:∀f∈l,f.ok)(hy:W1 y)(hh:Bq high)(g:FuncId)(caps:List V)(τ:List O'->ad->Prop)
 (hJ:∀pre U Z',τ pre U->aa U Z'->τ pre Z')
 (hg:∀pre f U,f∈l->τ pre U->au prog g (jD f::caps) U λr Z'=>r=.VG []/\τ (pre++[f]) Z'){U:ad}(h0:τ [] U):
 au prog 263 [aC l,vI y,vI high,.fn g caps] U λr Z'=>r=.VG []/\τ (l.filter (eJ y high)) Z':=by
 refine UX.q ?_;refine mS 14 ?_;simp only[go_sem,seval,RZ,cQ];refine ai.loop (λm st=>∃i:Nat,i<=l.length/\m=l.length-i/\τ ((l.take i).filter (eJ y high)) st.U/\st.s 1=vI y/\st.s 2=vI high/\st.s 3=.fn g caps/\st.s 11=aC l/\st.s 12=vI l.length/\st.s 13=vI i) l.length ?_ ?_
 .exact⟨0,by omega,rfl,h0,rfl,rfl,rfl,rfl,rfl,rfl⟩
 .rintro m ⟨s,Z'⟩ ⟨i,hi,rfl,hj,k1,k2,k3,YM,Xk,k13⟩;simp only at hj k1 k2 k3 YM Xk k13;refine ai.mix 14 ?_;by_cases B':i<l.length
  .have q:=qT B';have WG:=λU=>ed (U:=U) B';have aaa:=Ws B';have hfok:=VE _ aaa;have V9:=lF (eJ y high) l B';generalize l[i]=f at*;have hs:=aa.refl Z';apply sR;simp only[go_sem,seval,k1,k2,k3,YM,Xk,k13,q,WG,aG];refine ar hs λi9 Z9 s9 a9 f9 z9 hs=>?_;simp only[go_sem,seval,a9,k1,k2,k3,YM,Xk,k13];generalize Wz:C' _ i9 _=Y9;replace a9:=WC Wz;replace hs:=WD Wz hs z9;refine pS rfl (LZ f _) ?_;simp only[go_sem,seval,jD];refine ar hs λi10 Z10 XV Wn f10 YK hs=>?_;obtain⟨n910,a9⟩:=VB a9 f10 XV;simp only[go_sem,seval,Wn,k1,k2,k3,YM,Xk,k13];generalize Ww:C' _ i10 _=Y10;replace Wn:=WC Ww;replace a9:=VN Ww n910 a9;replace hs:=WD Ww hs YK;refine pR rfl (JE f y high hfok hy hh _) ?_;cases hm:eJ y high f
   .rw[hm]at V9;apply sR;simp only[go_sem,seval,k1,k2,k3,YM,Xk,k13];refine⟨ae,_,by omega,i+1,by omega,rfl,?_,by simp[k1,k2,k3,YM,Xk]⟩;rw[V9];simpa using hJ _ _ _ hj hs
   .rw[hm]at V9;apply sR;simp only[go_sem,seval,Wn,k1,k2,k3,YM,Xk,k13];refine Xv rfl (hg _ f _ aaa (hJ _ _ _ hj hs)) ?_;rintro r Z2 ⟨rfl,hj2⟩;apply sR;simp only[go_sem,seval,k1,k2,k3,YM,Xk,k13];refine⟨ae,_,by omega,i+1,by omega,rfl,?_,by simp[k1,k2,k3,YM,Xk]⟩;rw[V9];simpa using hj2
  .have q:=qF B';apply sR;simp only[go_sem,seval,k1,k2,k3,YM,Xk,k13,q];obtain rfl:i=l.length:=by omega
   rw[eF]at hj;exact WZ ⟨rfl,hj⟩
def bZ(l:List O')(y high:Int)(s:Wq):Wq:=(l.filter (eJ y high)).foldl (λs f=>iq f s) s
def QJ{id:Nat}(f:O')(s:Wq)(hf:f.ok){U:ad}(M':U id=some ⟨219,2,[aV s]⟩):au prog 289 [jD f,.ptr id 0 0] U λr Z'=>r=.VG []/\∃Z1,aa U Z1/\Z'=C' Z1 id ⟨219,2,[aV (iq f s)]⟩:=by
 refine UD.q ?_;have hs:=aa.refl U;have a1:=M';rw[aV]at a1;apply sR;simp only[go_sem,seval,OU,jD];refine aA λi2 Z2 s2 a2 f2=>?_;obtain⟨n2,a1⟩:=VB a1 f2 s2;simp only[go_sem,seval,a2,a1];refine pS rfl (LQ f s hf _) ?_;simp only[go_sem,seval,a1,aV];exact WZ ⟨rfl,Z2,s2,rfl⟩
def DN(l:List O')(y high:Int)(s:Wq)(hl:l.length<=1000000)(VE:∀f∈l,f.ok)(hy:W1 y)(hh:Bq high):aL prog 266 [aC l,vI y,vI high,aV s] (aV (bZ l y high s)):=λU=>by
 refine UB.q ?_;have hs:=aa.refl U;refine mS 10 ?_;simp only[go_sem,seval,QN,aV];refine ar hs λi7 Z7 s7 a7 f7 z7 hs=>?_;simp only[go_sem,seval,a7];refine ar hs λi8 Z8 s8 a8 f8 z8 hs=>?_;obtain⟨YW,a7⟩:=VB a7 f8 s8;simp only[go_sem,seval,a8,a7];refine ar hs λi9 Z9 s9 a9 f9 z9 hs=>?_;obtain⟨n79,a7⟩:=VB a7 f9 s9;obtain⟨n89,a8⟩:=VB a8 f9 s9;simp only[go_sem,seval,a9,a8,a7,ab n79,ab n89];generalize Wz:C' _ i9 _=Y9;replace a9:=WC Wz;replace a7:=VN Wz n79 a7;replace a8:=VN Wz n89 a8;replace hs:=WD Wz hs z9;refine Xv rfl (Mh l y high hl VE hy hh 289 [.ptr i9 0 0] (λpre J=>J i9=some ⟨219,2,[aV (pre.foldl (λs f=>iq f s) s)]⟩/\J i8=some ⟨219,2,[.agg [vI 0,vI 0]]⟩/\aa U J) ?_ ?_ ⟨a9,a8,hs⟩) ?_
 .rintro pre J X' ⟨h1,h2,h4⟩ h5;exact⟨h5 _ _ h1,h5 _ _ h2,h4.trans h5⟩
 .rintro pre f J hf ⟨h1,h2,h4⟩;refine(QJ f _ (VE f hf) h1).mono ?_;rintro r X' ⟨rfl,Y1,h5,rfl⟩;refine⟨rfl,?_,by rw[ab n89];exact h5 _ _ h2,(h4.trans h5).az z9⟩;rw[ag,kZ];rfl
 .rintro r J ⟨rfl,h1,h2,h4⟩;have hcs:aV (List.foldl (λs f=>iq f s) s (List.filter (eJ y high) l))=.agg [vI (bZ l y high s).a,vI (bZ l y high s).b]:=rfl;rw[hcs]at h1;apply sR;simp only[go_sem,seval,h1,h2];exact ak.pure (h4.az z8) rfl
open Go.Proofs
def je(s:Wq)(a:Int×Bool)(f:O'):Int×Bool:=if iq f s=s\/(a.2=true/\f.y+f.h>=a.1)then a else(f.y+f.h,true)
def cL(l:List O')(y high:Int)(s:Wq):Int×Bool:=(l.filter (eJ y high)).foldl (je s) (0,false)
def Km{i1 i2 i3:Nat}(f:O')(s:Wq)(a:Int×Bool)(hf:f.ok)(h12:i1≠i2)(h13:i1≠i3)(h23:i2≠i3){U:ad}(q1:U i1=some ⟨219,2,[aV s]⟩)(q2:U i2=some ⟨4,1,[.bool a.2]⟩)(q3:U i3=some ⟨3,1,[vI a.1]⟩):
 au prog 264 [jD f,.ptr i1 0 0,.ptr i2 0 0,.ptr i3 0 0] U λr Z'=>r=.VG []/\∃Z1,aa U Z1/\Z'=C' (C' Z1 i3 ⟨3,1,[vI (je s a f).1]⟩) i2 ⟨4,1,[.bool (je s a f).2]⟩:=by
 refine SR.q ?_;refine ai.mix 5 ?_;obtain⟨u,v⟩:=a;simp only at q2 q3;apply sR;simp only[go_sem,seval,RM,jD];refine aA λi4 Z4 s4 a4 f4=>?_;have n1:=aU q1 f4;have n2:=aU q2 f4;have n3:=aU q3 f4;replace q1:=s4 _ _ q1;replace q2:=s4 _ _ q2;replace q3:=s4 _ _ q3;have hcut:=LQ f s hf;have hbot:=BX f hf;obtain⟨s1,s2⟩:=s;rw[aV]at q1;simp only[go_sem,seval,a4,q1,q2,q3];refine pJ rfl hcut ?_;unfold je;generalize iq f ⟨s1,s2⟩=c;obtain⟨c1,c2⟩:=c;have same:∀Z':ad,Z'=Z4->C' (C' Z' i3 ⟨3,1,[vI u]⟩) i2 ⟨4,1,[.bool v]⟩=Z4:=λZ' e=>by
  subst e;rw[oq q3,oq q2]
 by_cases hc:c1=s1/\c2=s2
 .obtain⟨rfl,rfl⟩:=hc;apply sG;simp only[go_sem,seval,q1,aV];refine WZ ⟨rfl,Z4,s4,?_⟩;rw[av (by simp),same _ rfl]
 .have hd:(decide (c1=s1)&&decide (c2=s2))=false:=by
   by_cases h1:c1=s1<;>by_cases h2:c2=s2<;>simp_all
  have V2:¬(⟨c1,c2⟩:Wq)=⟨s1,s2⟩:=by simpa using hc
  cases v
  .rw[aD (by simp[V2])];apply sG;simp only[go_sem,seval,q1,q2,a4,aV,hd];refine pS rfl (hbot _) ?_;simp only[go_sem,seval,q2,q3,ab h23,a4];exact WZ ⟨rfl,Z4,s4,rfl⟩
  .apply sG;simp only[go_sem,seval,q1,q2,a4,aV,hd];refine pJ rfl hbot ?_;by_cases hb:f.y+f.h>=u
   .have q:(f.y+f.h>=u)=True:=L' hb;apply sG;simp only[go_sem,seval,q3,q];refine WZ ⟨rfl,Z4,s4,?_⟩;rw[av (.inr (by first|exact hb|exact⟨rfl,hb⟩|simp[hb])),same _ rfl]
   .have q:(f.y+f.h>=u)=False:=H' hb;rw[aD (by simp[V2];omega)];apply sG;simp only[go_sem,seval,q3,a4,q];refine pS rfl (hbot _) ?_;simp only[go_sem,seval,q2,q3,ab h23,a4];exact WZ ⟨rfl,Z4,s4,rfl⟩
def Is(l:List O')(y high:Int)(s:Wq)(hl:l.length<=1000000)(VE:∀f∈l,f.ok)(hy:W1 y)(hh:Bq high):aL prog 233 [aC l,vI y,vI high,aV s] (.VG [vI (cL l y high s).1,.bool (cL l y high s).2]):=λU=>by
 refine Ts.q ?_;have hs:=aa.refl U;refine mS 12 ?_;simp only[go_sem,seval,QW,aV];refine ar hs λi7 Z7 s7 a7 f7 z7 hs=>?_;simp only[go_sem,seval,a7];refine ar hs λi10 Z10 XV Wn f10 YK hs=>?_;obtain⟨YN,a7⟩:=VB a7 f10 XV;simp only[go_sem,seval,Wn,a7];refine ar hs λi11 Z11 Zu X2 f11 z11 hs=>?_;obtain⟨n711,a7⟩:=VB a7 f11 Zu;obtain⟨WV,Wn⟩:=VB Wn f11 Zu;simp only[go_sem,seval,X2,Wn,a7,ab n711,ab WV,ab YN,ab WV.symm];rw[yk WV,oq X2,oq Wn];refine Xv rfl (Mh l y high hl VE hy hh 264 [.ptr i7 0 0,.ptr i11 0 0,.ptr i10 0 0] (λpre J=>J i7=some ⟨219,2,[aV s]⟩/\J i11=some ⟨4,1,[.bool (pre.foldl (je s) (0,false)).2]⟩/\
  J i10=some ⟨3,1,[vI (pre.foldl (je s) (0,false)).1]⟩/\aa U J) ?_ ?_ ⟨a7,X2,Wn,hs⟩) ?_
 .rintro pre J X' ⟨h1,h2,h3,h4⟩ h5;exact⟨h5 _ _ h1,h5 _ _ h2,h5 _ _ h3,h4.trans h5⟩
 .rintro pre f J hf ⟨h1,h2,h3,h4⟩;refine(Km f s _ (VE f hf) n711 YN WV.symm h1 h2 h3).mono ?_;rintro r X' ⟨rfl,Y1,h5,rfl⟩;refine⟨rfl,?_,?_,?_,((h4.trans h5).az YK).az z11⟩
  .rw[ab n711,ab YN];exact h5 _ _ h1
  .rw[ag,kZ];rfl
  .rw[ab WV,ag,kZ];rfl
 .rintro r J ⟨rfl,h1,h2,h3,h4⟩;apply sR;simp only[go_sem,seval,h2,h3];exact ak.pure h4 rfl
def iy(tell:O'->Int×Bool)(a:Int×Bool)(f:O'):Int×Bool:=if(tell f).2=true/\(a.2=false\/(tell f).1>a.1)then((tell f).1,true)else a
def cH(tell:O'->Int×Bool)(l:List O'):Int×Bool:=l.foldl (iy tell) (0,false)
def HG(l:List O')(hl:l.length<=1000000)(g:FuncId)(caps:List V)(tell:O'->Int×Bool)(μ:ad->Prop)(hI:∀U Z',μ U->aa U Z'->μ Z')
 (hg:∀f U,f∈l->μ U->au prog g (jD f::caps) U λr Z'=>r=.VG [vI (tell f).1,.bool (tell f).2]/\Z'=U){U:ad}(h0:μ U):
 au prog 182 [aC l,.fn g caps] U λr Z'=>r=.VG [vI (cH tell l).1,.bool (cH tell l).2]/\Z'=U:=by
 refine Vp.q ?_;refine mS 15 ?_;simp only[go_sem,seval,OC,cQ];refine ai.loop (λm st=>∃i:Nat,i<=l.length/\m=l.length-i/\aa U st.U/\st.s 1=.fn g caps/\st.s 6=vI (cH tell (l.take i)).1/\st.s 7=.bool (cH tell (l.take i)).2/\st.s 12=aC l/\st.s 13=vI l.length/\st.s 14=vI i) l.length ?_ ?_
 .exact⟨0,by omega,rfl,aa.refl _,rfl,rfl,rfl,rfl,rfl,rfl⟩
 .rintro m ⟨s,Z'⟩ ⟨i,hi,rfl,hs,k1,k6,k7,Xk,k13,k14⟩;simp only at hs k1 k6 k7 Xk k13 k14;refine ai.mix 15 ?_;by_cases B':i<l.length
  .have q:=qT B';have WG:=λU=>ed (U:=U) B';have aaa:=Ws B';have V9:cH tell (l.take (i+1))=iy tell (cH tell (l.take i)) l[i]:=by
    rw[XH B',cH,kZ];rfl
   generalize l[i]=f at*;generalize cH tell (l.take i)=a at*;obtain⟨u,v⟩:=a;simp only at k6 k7;apply sR;simp only[go_sem,seval,k1,k6,k7,Xk,k13,k14,q,WG,aG];refine ar hs λi9 Z9 s9 a9 f9 z9 hs=>?_;simp only[go_sem,seval,a9,k1,k6,k7,Xk,k13,k14];generalize Wz:C' _ i9 _=Y9;replace a9:=WC Wz;replace hs:=WD Wz hs z9;refine pS rfl (LZ f _) ?_;simp only[go_sem,seval,k1,k6,k7,Xk,k13,k14];refine pR rfl (hg f _ aaa (hI _ _ h0 hs)) ?_;have r1:=rI i;unfold iy at V9;generalize tell f=t at*;obtain⟨x,is⟩:=t;simp only at V9;cases is
   .rw[aD (by simp)]at V9;apply sR;simp only[go_sem,seval,k1,k6,k7,Xk,k13,k14,r1];exact⟨_,by omega,i+1,by omega,rfl,hs,by simp[k1,k6,k7,Xk,k13,V9]⟩
   .cases v
    .rw[av (by simp)]at V9;apply sR;simp only[go_sem,seval,k1,k6,k7,Xk,k13,k14,r1];exact⟨_,by omega,i+1,by omega,rfl,hs,by simp[k1,Xk,k13,V9]⟩
    .by_cases hb:x>u
     .have q2:(x>u)=True:=L' hb;rw[av ⟨rfl,.inr hb⟩]at V9;apply sR;simp only[go_sem,seval,k1,k6,k7,Xk,k13,k14,r1,q2];exact⟨_,by omega,i+1,by omega,rfl,hs,by simp[k1,Xk,k13,V9]⟩
     .have q2:(x>u)=False:=H' hb;rw[aD (by simp[hb])]at V9;apply sR;simp only[go_sem,seval,k1,k6,k7,Xk,k13,k14,r1,q2];exact⟨_,by omega,i+1,by omega,rfl,hs,by simp[k1,k6,k7,Xk,k13,V9]⟩
  .have q:=qF B';obtain rfl:i=l.length:=by omega
   rw[eF]at k6 k7;apply sR;simp only[go_sem,seval,k1,k6,k7,Xk,k13,k14,q];exact ak.pure hs rfl
def Mz(a b:Int):Int:=IntKind.i64.wrap (BitVec.ofInt IntKind.i64.bits a &&& BitVec.ofInt IntKind.i64.bits b).toNat
def fX(W6:Int)(f:O'):Int×Bool:=(f.y+f.h,decide (Mz f.side W6≠0))
def NT{i:Nat}(f:O')(W6:Int)(hf:f.ok){U:ad}(q:U i=some ⟨3,1,[vI W6]⟩):au prog 183 [jD f,.ptr i 0 0] U λr Z'=>r=.VG [vI (fX W6 f).1,.bool (fX W6 f).2]/\Z'=U:=by
 refine Sy.q ?_;refine ai.mix 5 ?_;have hs:=aa.refl U;apply sR;simp only[go_sem,seval,PV,jD];refine ar hs λi2 Z2 s2 a2 f2 z2 hs=>?_;replace q:=s2 _ _ q;simp only[go_sem,seval,a2,q];refine pJ rfl (BX f hf) ?_;apply sG;simp only[go_sem,seval,a2,q];exact ak.pure hs rfl
def Bi(l:List O')(W6:Int)(hl:l.length<=1000000)(VE:∀f∈l,f.ok):aL prog 135 [aC l,vI W6] (.VG [vI (cH (fX W6) l).1,.bool (cH (fX W6) l).2]):=λU=>by
 refine Uu.q ?_;refine ai.mix 6 ?_;have hs:=aa.refl U;apply sR;simp only[go_sem,seval,OK];refine ar hs λi3 Z3 s3 a3 f3 z3 hs=>?_;simp only[go_sem,seval,a3];refine pS rfl (HG l hl 183 [.ptr i3 0 0] (fX W6) (λJ=>J i3=some ⟨3,1,[vI W6]⟩) (λ_ _ h h'=>h' _ _ h) (λf J hf h=>NT f W6 (VE f hf) h) a3) ?_;simp only[go_sem,seval];exact ak.pure hs rfl
def lv(f:O'):Int×Bool:=(f.y,true)
def M4(f:O')(hf:f.ok):aL prog 290 [jD f] (.VG [vI (lv f).1,.bool (lv f).2]):=λU=>by
 refine Ta.q ?_;refine ai.mix 4 ?_;have hs:=aa.refl U;apply sR;simp only[go_sem,seval,Om,jD];refine ar hs λi1 Z1 s1 a1 f1 z1 hs=>?_;simp only[go_sem,seval,a1];refine pS rfl (Db ⟨_,_,_,_⟩ hf.2.1 hf.2.2.2 _) ?_;simp only[go_sem,seval,aV];exact ak.pure hs rfl
def QP(l:List O')(hl:l.length<=1000000)(VE:∀f∈l,f.ok):aL prog 267 [aC l] (.VG [vI (cH lv l).1,.bool (cH lv l).2]):=λU=>by
 refine UF.q ?_;refine mS 4 ?_;simp only[go_sem,seval,Sa];refine pS rfl (HG l hl 290 [] lv (λ_=>True) (λ_ _ h _=>h) (λf J hf _=>M4 f (VE f hf) J) trivial) ?_;simp only[go_sem,seval];exact ak.same rfl
end Go.Vc

/- Parts of the walks. Conditions: as stated with each. -/
import Derived.Test.YtpieilkmmiopfaaGreatDoorPk22
namespace Go.Proofs.YtpieilkmmiopfaaGreatDoor
open Go.RowKit Tryz
set_option linter.all false
set_option maxHeartbeats 4000000
set_option maxRecDepth 100000
variable{B J k n s x:Nat}{T v v1 v2 v3 v4:aG}{V w:aa}{e:Ed}{g:Gr}{l:bP}
def FK{h D:Type}{l:List h}{m:List D}{x:h}{y:D}(F:l[k]?=some x)(G:m[k]?=some y):(l.zip m).take (k+1)=(l.zip m).take k++[(x,y)]:=by rw[du,Aj (z:=(x,y)) |>.2 ⟨F,G⟩];rfl
def kp3{h p2 D a}(F:h.block≠a.block)(G:p2.block≠a.block)(H:D.block≠a.block)(t:w.cell? h=some v1/\w.cell? p2=some v2/\w.cell? D=some v3):(w.setCell a v).cell? h=some v1/\(w.setCell a v).cell? p2=some v2/\(w.setCell a v).cell? D=some v3:=⟨(cE F).t t.1,(cE G).t t.2.1,(cE H).t t.2.2⟩
def kp4{h p2 D F a}(G:h.block≠a.block)(H:p2.block≠a.block)(I:D.block≠a.block)(J:F.block≠a.block)(t:w.cell? h=some v1/\w.cell? p2=some v2/\w.cell? D=some v3/\w.cell? F=some v4):(w.setCell a v).cell? h=some v1/\(w.setCell a v).cell? p2=some v2/\(w.setCell a v).cell? D=some v3/\(w.setCell a v).cell? F=some v4:=⟨(cE G).t t.1,(cE H).t t.2.1,(cE I).t t.2.2.1,(cE J).t t.2.2.2⟩
def Cy v0 v1 v2 v3 v4 w:(Instr.field 204 (.agg #[v0,v1,v2,v3,v4]) 0).run prog w=.ok (.agg #[v0,v1,v2,v3]) w:=QT
def FL a b A1 A2 A3 D1 D2 D3 c1 c2 c3 d1 d2 d3 w(ha:px a)(hb:px b)(eo:a.o.length=b.i)(hG:jV w A1 A2 A3 a)(hH:jV w D1 D2 D3 b):az 121 (iV (bj a A1 c1 A2 c2 A3 c3) (bj b D1 d1 D2 d2 D3 d3)) w (xr (pK a b) w):=by
 refine NA fun JZ IY=>?_
 refine PX fun H7 q0 q1 q2=>?_
 have⟨ah,J⟩:=bJ ha hb;have g5:=ha.w;have cu:=hb.w;have g4:=ha.o;have⟨cW,es⟩:=aR ((fG a b).length);have⟨dl,dc⟩:=bJ es eo;clear hG hH ha hb es eo;go_enter func121,ntmps121
 go_upto_region 1 with(fail)
 generalize ((w.alloc _).alloc _).alloc _=gL at H7 q0 q1 q2 ⊢;have bv:=(bk.1 q2).1;have ca:=zH bv;have⟨T,be,U,bg⟩:=aB q0;have⟨y0,y1,y2,y3⟩:=aB q1;have⟨c6,d6,d7,d8⟩:=gG H7 q0 q1 q2;clear H7 q0 q1 q2 bv;go_upto_region 2 with(go_at_call 163;refine(JZ.o _ c6.o).x ?_;intro e h Y;obtain⟨b6,cj,Z,a9,av⟩:=Y;rw[<-dl.o]at Z;subst Z;have c8:=zH a9;have c7:=zH av;clear a9 av)
 have⟨bz,b2⟩:=bM h (.cells (CW ((a.w:Int)+(b.w:Int)) b6 cW cj) 54);clear T be U bg y0 y1 y2 y3;have⟨c9,a3⟩:=bJ (c8.ext bz (ae _)) (aT c7 bz);generalize h.alloc _=F at bz b2 c9 a3 ⊢;have dr:=zH b2;have b4:(h:Nat)<F:=(bk.1 b2).1;have⟨bp,cc,a6,ce,f5,bi⟩:=ny b4 c7.size (ai d6 a3) (ai d7 a3) (ai d8 a3) (aT c6 a3);clear bz b2 b4 c8 JZ d6 d7 d8;go_upto_region 3 with(fail)
 have dq:=zH (bw.lit 202 2 EPr F F (ae _));have b0:=aw F (.cells #[] 202);have c5:=zH b0;have⟨T,be,U,bg⟩:=aB (ai a6 b0);generalize F.alloc _=gR at dq c5 T be U bg b0 ⊢;clear b0;go_wp2;clear T be U bg;have⟨O,cq⟩:=aR (BV a b);obtain⟨cb,a5⟩:=bJ cq (by rw[cq];unfold BV;rw[List.length_zip,bs,<-dc.o,rX]:O.length=a.o);clear cq;go_loopw [6,16] (fun u i wr=>∃k:Nat,k<=a.o.length/\i=.int .i64 k/\bw 202 2 EPr wr F u (O.take k)/\ag F wr) (fun _ i _=>a.o.length-(intOf i).toNat)
 case atStart=>exact⟨0,aW _,rfl,dq,c5⟩
 case round=>
  obtain⟨k,a0,rfl,ab,I⟩:=hrel;have⟨bn,a4⟩:=bJ ab I;obtain⟨eb,ee⟩:=IY wr (aT bi I);by_cases FX:k<a.o.length
  .have⟨x,bb⟩:=aq FX;have cA:k<b.i.length:=by rw[<-dc.o];exact FX
   have⟨y,bc⟩:=aq cA;obtain⟨g1,hg,rfl,eg⟩:=eb.o.θ (k:=k) Se;obtain⟨bq,c0,rfl,ei⟩:=ee.i.θ (k:=k) (by rw[aS];exact cA);have f7:=eg k _ (dK bb);have e5:=zH (ei k _ (dK bc));have ej:af F bq (c0+k) (zI (y:Nat)):=by
    obtain⟨g0,hf,ap,gc⟩:=(IY F bi).2.i.θ (k:=k) (by rw[aS];exact cA);cases ap
    exact gc k _ (dK bc)
   have⟨z,H⟩:=aR (y+a.w);have gw:y<b.w:=J.o.inr y (ay (aU bc));have g7:IntKind.i64.wrap ((a.w:Int)+(y:Int))=(z:Int):=Rt;obtain⟨fs,Gu⟩:=bJ (by rw[cb.o];exact FK bb (by rw[bI,bc,H];rfl):O.take (k+1)=O.take k++[(x,z)]) (by rw[cQ,a5.o];omega:(O.take k).length=k);obtain⟨u0,f6,rfl,-⟩:=ab.p;rw[Gu.o]at bn ⊢;have Je:=zH FX;have q0:=ar I (aB a6).1;obtain⟨-,-,q1,-⟩:=aB (ai ce I);have D:=aQ q0 (aQ q1 e5.o);obtain⟨d0,fa,fb,fc⟩:=gG I.size (show(w:Nat)<F from(bk.1 a6).1) (show(w:Nat)+1<F from(bk.1 ce).1) (show bq < (F:Nat) from jB _ _ ej);clear ab I eb ee eg ei bb bc H gw q0 q1 ej;go_upto_region 6 with(fail)
   clear f7;go_region_held3 (fun V=>af V w 0 (zI (a.w:Nat))/\af V ((w:Nat)+1) 2 (.slice (some ⟨bq,c0,none⟩) b.i d2)/\af V bq (c0+k) (zI (y:Nat)))
    (first|with_reducible exact D|with_reducible exact jH (aC _) D|with_reducible exact jH (aw _ _) D|with_reducible exact jH (aw _ _).drew D|with_reducible exact d9)
    ((refine im zm9 rfl (.tmp 21) (.tmp 32) rfl F (wr.alloc (.cells (bC x z) 202)).drew (.slice u0 k f6) (O.take k) (x,z) [.int .i64 x,.int .i64 z] wr (bn.ext (aw _ _).drew) rfl SU (kn.d (bn.ext (aw _ _).drew) (by have:=d0.o;simp;omega) fun W=>rfl) R5 (by have:=d0.o;simp;omega) rfl rfl (ky _ _) ?_;intro br g3 hj cB gs ga a8;rw[Gu.o]at cB ⊢;have fl:=zH cB;have e2:=zH ((a4.t ((aw _ _).drew.x a4.size)).t a8);have d9:=aQ (Below.wy a8 (jH (aw _ _).drew D).1 fa) (aQ (Below.wy a8 (jH (aw _ _).drew D).2.1 fb) (Below.wy a8 (jH (aw _ _).drew D).2.2 fc));clear cB gs ga a8))
   clear D d9;go_wp2;go_roundw
   case rel=>exact⟨k+1,St,Qx,by rw[fs.o];exact fl,e2⟩
   case measure=>have:=Je.o;simp[intOf];omega
  .obtain rfl:k=a.o.length:=Qu;rw[cZ (by rw[a5.o];exact ae _)]at ab;obtain⟨c4,ea,rfl,-⟩:=ab.p;rw[a5.o]at ⊢;have fo:=zH ab;have cu:=aT bi I;have e3:=zH cu;have db:=zH (show ∀V,ag wr V->jV V A1 A2 A3 a/\jV V D1 D2 D3 b from fun V hV=>IY V (aT e3 hV));obtain⟨e6,fd⟩:=bJ (fun(V:aa) (hV:ag wr V)=>(by have:=qg A2 c2 (bD a.i) V (db V hV).1.i (by rw[aS];have:=ah.i;omega);rw[aS]at this;exact this:az 71 #[.slice A2 a.i c2] V fun e w'=>∃u,e=.returned u/\aE w' V u (bD a.i)/\ag V w')) (fun(bh:ax) (ci:Nat) (V:aa) (hV:ag wr V) (f9:aO V bh (bD (dd a.w b.w)))=>tk (bD (dd a.w b.w)) (fun x=>x+a.w) b.o bh ci b.w D3 d3 V QU f9 (db V hV).2.o Sa (by have:=J.o.o;omega) (fun x bb=>qM J.o.inr a.w x (au (ay bb))));obtain⟨T,-,U,-⟩:=aB (ai a6 I);obtain⟨y0,-,-,y3⟩:=aB (ai ce I);have D:=aQ T (aQ U (aQ y0 y3));obtain⟨am,an⟩:=bJ (show w.heap.size≠h.heap.size by have:=(bk.1 a6).1;have Z:=cc.o;have bu:=ca.o;omega) (show(w:Nat)+1≠h.heap.size by have Z:=cc.o;have bu:=ca.o;omega);clear ab I cu bn T U y0 y3;go_upto_region 8 with(fail)
   go_region_held3 (fun V=>af V w 0 (zI (a.w:Nat))/\af V w 2 (.slice A2 a.i c2)/\af V ((w:Nat)+1) 0 (zI (b.w:Nat))/\af V ((w:Nat)+1) 3 (.slice D3 b.o d3))
    (first|with_reducible exact D|with_reducible exact gS (aC _) D|with_reducible exact gS d4.o D|with_reducible exact gS bo.o D|with_reducible exact gS ao.o D|with_reducible exact kp4 am.o am.o an.o an.o (gS ao.o D)|with_reducible exact kp4 am.o am.o an.o an.o (kp4 am.o am.o an.o an.o (gS ao.o D)))
    ((first|(go_at_call 71;refine(e6.o _ (aC _)).x ?_;rintro e hk ⟨u1,rfl,b3,av⟩;obtain⟨ac,a1,rfl,-⟩:=b3.p;have d4:=zH ((aC wr).t (av.x (aC wr).size));have fx:=zH ((b3.fr av.size).to (lo':=wr.heap.size) Qt (ae _));rw[aS]at b3 ⊢;clear b3 av)|(go_at_call 66;refine(sJ a.w b.w _ Qu Qu).x ?_;rintro e hl ⟨u2,rfl,cK,cr⟩;obtain⟨bh,ci,rfl,em,-⟩:=cK.p;rw[aS,c_]at cK ⊢;have bo:=zH (aT d4 cr);have e9:=zH em;have d5:=zH cr;clear cK cr em)|(go_at_call 164;refine(fd bh ci _ bo e9).x ?_;rintro e bd ⟨ad,a2,rfl,ek,ct⟩;have ao:=zH (aT bo ct);have fz:=zH ct;have fy:=zH ek;have H:=ai (ai dr a4) ao;have⟨eA,eB,e0,e1⟩:=aB H;have⟨f0,f1,f2,f3⟩:=cN H;clear H ek ct)))
   have a7:=aT a4 ao;have ey:=ai dr a7;have cF:=bE bd h 2 _ _ (.slice ac a.i a1) ey;simp only[zA]at cF;have b1:=bE _ h.heap.size 3 _ _ (.slice ad b.o a2) cF;simp only[zA]at b1;have ba:∀k,k≠h.heap.size->((bd.setCell ⟨h,2,none⟩ (.slice ac a.i a1)).setCell ⟨h,3,none⟩ (.slice ad b.o a2)).heap[k]?=bd.heap[k]?:=fun k a0=>(a_ _ _ _ _ a0).t (a_ _ _ _ _ a0)
   have b4:=bp.o;have gA:=cc.o;have bv:=ca.o;have gv:=a4.size;have ck:=((c9.ext a7 (ix bp)).y (fun k _ a0=>ba k Qu)).D;have cn:=(((fx.ext d5 (ae _)).ext fz d5.size).y (fun k a0 _=>ba k Qu)).D;have gu:=bo.size;have co:=(fy.y (fun k a0 _=>ba k Qu)).D;have cp:=((fo.ext ao).setCell (a:=⟨h,2,none⟩) bp (.slice ac a.i a1)).setCell (a:=⟨h,3,none⟩) bp (.slice ad b.o a2);obtain⟨gC,g2,ap,br,-⟩:=cp.p;simp only[ep]at ap;obtain⟨rfl,-,rfl⟩:=ap;have cI:=(ba ((w:Nat)+1+1) Qu).t (ai f5 a7);have cz:Below w w ((bd.setCell ⟨h,2,none⟩ (.slice ac a.i a1)).setCell ⟨h,3,none⟩ (.slice ad b.o a2)):=((aT bi a7).setCell (p:=⟨h,2,none⟩) (by show(w:Nat)<=h;omega) _).setCell (p:=⟨h,3,none⟩) (by show(w:Nat)<=h;omega) _;generalize (bd.setCell ⟨h,2,none⟩ _).setCell ⟨h,3,none⟩ _=X at b1 ck cn co cp br cI cz ⊢;have⟨G,hG⟩:=aR (js (jD a b) O);obtain⟨dT,dO,e4⟩:=er (by rw[hG,cb.o];rfl:pK a b=G) cI cz;have e8:=zH (show az 165 #[.agg #[.int .i64 ((a.w:Int)+(b.w:Int)),.slice b6 cW cj,.slice ac a.i a1,.slice ad b.o a2],.slice c4 a.o ea] X (fun e w'=>∃A1 c1 A2 c2 A3 c3 b5 ez ch,e=.returned (.agg #[(G.w:Nat),.slice A1 G.es c1,.slice A2 G.i c2,.slice A3 G.o c3,.slice b5 ez ch])/\Fr w' X w' (fun W=>jV W A1 A2 A3 G)/\ag X w') from by
    have gb:∀e∈(jD a b).es,e.i.length<=65536/\e.o.length<=65536:=fun e gd=>by
     rcases dP.1 gd with Y|Y
     .have:=ah.el e Y;omega
     .obtain⟨ap,gi,rfl⟩:=cH.1 Y;have:=J.o.el ap gi;simp only[Ed.map,bs];omega
    have gn:(jD a b).es.length<=65536:=by
     show(fG a b).length<=65536
     unfold fG;rw[bm,bs];have:=ah.es;have:=J.o.es;omega
    have ev:(jD a b).o.length=b.o:=bs ..;have:=ziv (jD a b) O b6 ac ad c4 cj a1 a2 ea X ⟨ck,cn,co⟩ br (vw ah.inr J.o.inr) (by rw[cb.o];exact yX ah.inr J.o.inr) (by show a.w+b.w<=65536;omega) gn (by have:=ah.i;show a.i.length<=65536;omega) (by rw[ev];have:=J.o.o;omega) gb (by rw[a5.o];omega);rw[a5.o,show(jD a b).es.length=cW from dl.o.q,ev]at this;refine iB this fun e w' Y=>?_
    obtain⟨A1,c1,A2,c2,A3,c3,b5,ch,Z,bu,f8⟩:=Y;rw[<-hG]at Z bu;exact⟨A1,c1,A2,c2,A3,c3,b5,_,ch,Z,bu,f8⟩)
   have⟨T,be,U,bg⟩:=aB b1;clear a7 ey cF b1 ba b4 gA bv gv ck cn gu co cp br cI cz hG eA eB e0 e1 f0 f1 f2 f3 D;have g6:=Cy;go_wp2_with (go_at_call 165;refine e8.x ?_;rintro e hh ⟨b7,cO,b8,cR,b9,cV,gK,ez,he,rfl,a9,hb⟩;have H:=ai dO hb;have⟨eA,eB,e0,e1⟩:=aB H;have⟨g8,g9,hc,hd⟩:=cN H;have f4:=zH H;have e7:=zH a9;have JZ:=zH hb;clear H a9 hb)
   have y:=cP (v0:=.int .i64 (G.w:Nat)) (v1:=.slice b7 G.es cO) (v2:=.slice b8 G.i cR) (v3:=.slice b9 G.o cV) f4;refine O2 fun y0 y1 y2 y3=>?_
   refine aI (v:=.agg (bj G b7 cO b8 cR b9 cV)) (by simp[results,results121,go_sem, *]) rfl ⟨b7,cO,b8,cR,b9,cV,by rw[dT.o],?_,bY (aT e4 JZ) (b:=(w:Nat)+1+1) Qu _ _ _ _⟩;rw[dT.o];have gB:=(bk.1 dO).1;exact(e7.dQ (b:=(w:Nat)+1+1) gB).to Qu (gp eK.q)
def zfR D F A1 G c1 c2 H n2 n V(ac:aO V A1 (bD D))(ad:aO V G (bD F))(Y:H=D.length)(Z:n2=F.length)(ab:n=(D++F).length)(ap:H+n2<=1048576):az 65 #[.slice (bH V) 2 2] (V.alloc (.cells (nj A1 H c1 G n2 c2) 26)) fun e w'=>∃I T,e=.returned (.slice I n T)/\Fr w' V w' (fun W=>aO W I (bD (D++F)))/\ag V w':=by
 have J:=aw V (.cells (nj A1 H c1 G n2 c2) 26);obtain⟨an,ao,-,-⟩:=dD (aH V (.cells (nj A1 H c1 G n2 c2) 26) rfl);have ah:bt (V.alloc (.cells (nj A1 H c1 G n2 c2) 26)) (some ⟨V,0,none⟩) [bD D,bD F]:=au ⟨V,0,rfl,fun k r h=>by
  match k,h with
  |0,h=>simp at h;subst h;exact⟨A1,c1,by rw[aS,<-Y];exact an,ac.ext J⟩
  |1,h=>simp at h;subst h;exact⟨G,c2,by rw[aS,<-Z];exact ao,ad.ext J⟩
  |k+2,h=>simp at h⟩
 have:=ya [bD D,bD F] (some ⟨V,0,none⟩) 2 _ ah Qt (fun k _=>by
  match k with
  |0=>simp
  |1=>simp[aS];omega
  |k+2=>simp[aS];omega)
 refine iB this ?_;rintro e w' ⟨u,rfl,O,U⟩;have am:[bD D,bD F].flatten=bD (D++F):=by simp[jr]
 rw[am]at O;obtain⟨I,T,rfl,-⟩:=O.p;rw[aS,<-ab];rw[aS]at O;exact⟨I,T,rfl,(O.fr U.size).to J.size (ae _),aT J U⟩
def Fm a b A1 A2 A3 D1 D2 D3 c1 c2 c3 d1 d2 d3 w(ha:px a)(hb:px b)(hG:jV w A1 A2 A3 a)(hH:jV w D1 D2 D3 b):az 122 (iV (bj a A1 c1 A2 c2 A3 c3) (bj b D1 d1 D2 d2 D3 d3)) w (xr (ls a b) w):=by
 refine NA fun JZ IY=>?_
 refine PX fun H7 q0 q1 q2=>?_
 have⟨c8,an⟩:=bJ ha hb;have eB:=ha.w;have e1:=hb.w;have eA:=ha.o;have e0:=hb.i;have⟨be,cV⟩:=aR ((fG a b).length);have ch:=zH cV;clear hG hH ha hb cV;go_enter func122,ntmps122
 go_upto_region 1 with(fail)
 generalize ((w.alloc _).alloc _).alloc _=cz at H7 q0 q1 q2 ⊢;have a9:=(bk.1 q2).1;have ah:=zH a9;have⟨bg,c5,a3,a4⟩:=aB q0;have⟨y0,y1,y2,y3⟩:=aB q1;have⟨b7,cr,ct,cu⟩:=gG H7 q0 q1 q2;clear H7 q0 q1 q2 a9;go_upto_region 2 with(go_at_call 163;refine(JZ.o _ b7.o).x ?_;intro e h d8;obtain⟨a5,a7,a8,cB,ap⟩:=d8;rw[<-ch.o]at a8;subst a8;have ca:=zH cB;have b8:=zH ap;clear cB ap)
 have⟨ba,bc⟩:=bM h (.cells (CW ((a.w:Int)+(b.w:Int)) a5 be a7) 54);clear bg c5 a3 a4 y0 y1 y2 y3;have⟨cb,am⟩:=bJ (ca.ext ba (ae _)) (aT b8 ba);generalize h.alloc _=d7 at ba bc cb am ⊢;have ck:=zH bc;have bd:(h:Nat)<d7:=(bk.1 bc).1;have⟨cp,bi⟩:=bJ bd b8.size;have⟨G,cW⟩:=aR ((a.i++b.i.map (fun x=>x+a.w)).length);have⟨H,c0⟩:=aR ((a.o++b.o.map (fun x=>x+a.w)).length);have⟨ci,cj⟩:=bJ cW c0;clear cW c0;have⟨bn,cq,d6,b9⟩:=gG (ai cr am) (ai ct am) (ai cu am) (aT b7 am);have ea:=aQ (aB bn).1 (aB cq).1;obtain⟨bg,y0⟩:=ea;clear ba bc bd ca JZ cr ct cu;go_upto_region 3 with(go_at_call 66;refine(sJ a.w b.w _ Qu Qu).x ?_;rintro e wr ⟨u2,rfl,b0,av⟩;obtain⟨b6,cA,rfl,cR,-⟩:=b0.p;rw[aS,c_]at b0 ⊢;have U:=zH av;have ce:=zH cR;clear b0 av cR)
 clear bg y0;have c9:=zH (aT b9 U);have a6:=zH (show ∀V,ag wr V->jV V A1 A2 A3 a/\jV V D1 D2 D3 b from fun V hV=>IY V (aT c9 hV));obtain⟨dc,dl⟩:=bJ (fun(V:aa) (hV:ag wr V)=>tk (bD (dd a.w b.w)) (fun x=>x+a.w) b.i b6 cA b.w D2 d2 V QU (ce.ext hV) (a6 V hV).2.i Sa (by have:=an.i;omega) (fun x b1=>qM an.inr a.w x (ay b1))) (fun(V:aa) (hV:ag wr V)=>tk (bD (dd a.w b.w)) (fun x=>x+a.w) b.o b6 cA b.w D3 d3 V QU (ce.ext hV) (a6 V hV).2.o Sa (by have:=an.o.o;omega) (fun x b1=>qM an.inr a.w x (au (ay b1))));obtain⟨-,-,a3,a4⟩:=aB (ai bn U);obtain⟨-,-,y2,y3⟩:=aB (ai cq U);have D:=aQ a3 (aQ a4 (aQ y2 y3));obtain⟨Y,Z,dr,dO⟩:=gG (show w.heap.size≠h.heap.size by have:=(bk.1 bn).1;have a8:=bi.o;have d9:=ah.o;omega) (show(w:Nat)+1≠h.heap.size by have a8:=bi.o;have d9:=ah.o;omega) (show a.i.length+b.i<=1048576 by have:=c8.i;omega) (show a.o.length+b.o<=1048576 by have:=an.o.o;omega);clear a3 a4 y2 y3;go_region_held3 (fun V=>af V w 2 (.slice A2 a.i c2)/\af V w 3 (.slice A3 a.o c3)/\af V ((w:Nat)+1) 2 (.slice D2 b.i d2)/\af V ((w:Nat)+1) 3 (.slice D3 b.o d3))
  (first|with_reducible exact D|with_reducible exact gS (aC _) D|with_reducible exact gS ab.o D|with_reducible exact gS (ab.o.alloc ab.o.size _) D|with_reducible exact gS bh.o D|with_reducible exact gS ac.o D|with_reducible exact gS (ac.o.alloc ac.o.size _) D|with_reducible exact gS ad.o D|with_reducible exact kp4 Y.o Y.o Z.o Z.o (gS ad.o D)|with_reducible exact kp4 Y.o Y.o Z.o Z.o (kp4 Y.o Y.o Z.o Z.o (gS ad.o D)))
  ((first|(go_at_call 164;with_reducible refine(dc.o _ (aC _)).x ?_;rintro e b4 ⟨c6,eg,rfl,cF,ap⟩;have ab:=zH ((aC wr).t (ap.x (aC wr).size));have dT:=zH cF.D;clear cF ap)|(go_at_call 65;with_reducible refine(zfR a.i (b.i.map (fun x=>x+a.w)) A2 c6 c2 eg a.i b.i G b4 (a6.o b4 ab.o).1.i dT.o rfl (bs ..).q ci.o dr.o).x ?_;rintro e ez ⟨I,O,rfl,cI,av⟩;have bh:=zH (aT ab.o av);have d0:=zH cI;clear cI av)|(go_at_call 164;with_reducible refine(dl.o _ bh.o).x ?_;rintro e b5 ⟨c7,ei,rfl,cK,br⟩;have ac:=zH (aT bh.o br);have d4:=zH cK.D;have cn:=zH br;clear cK br)|(go_at_call 65;with_reducible refine(zfR a.o (b.o.map (fun x=>x+a.w)) A3 c7 c3 ei a.o b.o H b5 (a6.o b5 ac.o).1.o d4.o rfl (bs ..).q cj.o dO.o).x ?_;rintro e F ⟨J,T,rfl,cO,bu⟩;have ad:=zH (aT ac.o bu);have co:=zH bu;have d5:=zH cO;have b3:=ai (ai ck.o U.o) ad.o;have⟨ej,ek,em,eo⟩:=aB b3;have⟨f0,f1,f2,f3⟩:=cN b3;clear b3 cO bu)))
 have ao:=aT U ad;have c4:=ai ck ao;have bz:=bE F h 2 _ _ (.slice I G O) c4;simp only[zA]at bz;have bb:=bE _ h.heap.size 3 _ _ (.slice J H T) bz;simp only[zA]at bb;have a1:∀k,k≠h.heap.size->((F.setCell ⟨h,2,none⟩ (.slice I G O)).setCell ⟨h,3,none⟩ (.slice J H T)).heap[k]?=F.heap[k]?:=fun k a0=>(a_ _ _ _ _ a0).t (a_ _ _ _ _ a0)
 have bd:=cp.o;have ee:=bi.o;have a9:=ah.o;have eb:=U.size;have ev:=ab.size;have ey:=ac.size;have es:=ad.size;have t3:=cn.size;have t4:=co.size;have b2:((F.setCell ⟨h,2,none⟩ (.slice I G O)).setCell ⟨h,3,none⟩ (.slice J H T):Nat)=F:=Qt;have bo:=((cb.ext ao (ix cp)).y (fun k _ a0=>a1 k Qu)).to (ae _) (Qu:(h:Nat)<=F);have bp:=(((d0.ext cn (ae _)).ext co t3).y (fun k a0 _=>a1 k Qu)).to (Qu:(cz:Nat)<=b4) (Qu:(ez:Nat)<=F);have bq:=(d5.y (fun k a0 _=>a1 k Qu)).to (Qu:(cz:Nat)<=b5) (ae _);have a2:=(a1 ((w:Nat)+1+1) Qu).t (ai d6 ao);have bv:Below w w ((F.setCell ⟨h,2,none⟩ (.slice I G O)).setCell ⟨h,3,none⟩ (.slice J H T)):=((aT b9 ao).setCell (p:=⟨h,2,none⟩) (by show(w:Nat)<=h;omega) _).setCell (p:=⟨h,3,none⟩) (by show(w:Nat)<=h;omega) _;generalize (F.setCell ⟨h,2,none⟩ _).setCell ⟨h,3,none⟩ _=X at bb bo bp bq a2 bv b2 ⊢;have cc:=zH (Fv (g:=ls a b) bo bp bq);rw[<-b2]at cc;have⟨dq,db⟩:=bJ a2 bv;have⟨bg,c5,a3,a4⟩:=aB bb;have⟨e2,e3,e4,e5⟩:=aB a2;have⟨e6,e7,e8,e9⟩:=cN a2;clear ao c4 bz bb a1 bd ee a9 eb ev ey es t3 t4 bo bp bq a2 bv b2 ej ek em eo f0 f1 f2 f3 D;go_wp2;have y:=cP (v0:=.int .i64 ((a.w:Int)+(b.w:Int))) (v1:=.slice a5 be a7) (v2:=.slice I G O) (v3:=.slice J H T) dq;refine O2 fun y0 y1 y2 y3=>?_
 refine aI (v:=.agg (nh ((a.w:Int)+(b.w:Int)) a5 be a7 I G O J H T)) (by simp[results,results122,go_sem, *]) rfl ⟨a5,a7,I,O,J,T,by rw[show(ls a b).es.length=be from ch.o.q,show(ls a b).i.length=G from ci.o.q,show(ls a b).o.length=H from cj.o.q];rfl,?_,bY db (b:=(w:Nat)+1+1) Qu _ _ _ _⟩;exact(cc.dQ (b:=(w:Nat)+1+1) ah).to (by have:=ah.o;omega) (gp eK.q)
def zh4(D:e.jd=true):eU e.k 3 14=true/\gvB e.k e.v=true/\gwI e.k=(e.i:Nat)/\gwO e.k=(e.o:Nat):=by
 unfold Ed.jd at D;simp only[bN,cf]at D;obtain⟨I,U,hi,T⟩:=D;have J:e.k≠1:=Qu;have O:e.k≠2:=Qu;have h:=I;rw[<-zbZ]at h;unfold Ç at h;simp only[uN,lp,aj J,aj O]at h;have H:eU e.k 3 14=true:=by
  by_cases D:eU e.k 3 14=true
  .exact D
  .rw[aj D]at h;cases h
 rw[ak H]at h;have F:=(zea I).1;have G:=(zea I).2;unfold Ä at F;unfold Ã at G;simp only[uN,lp,aj J,aj O,ak H]at F G;exact⟨H,h,by rw[hi,F],by rw[T,G]⟩
def zfG e A1 D c1 c2 w(Y:e.jd=true):az 168 (cY (zj e A1 c1 D c2)) w fun r w'=>r=.returned (.bool true)/\ag w w':=by
 have⟨O,ab,I,J⟩:=zh4 Y;obtain⟨k,v,i,o⟩:=e;dsimp only at *;have⟨a,Z⟩:=aR i.length;have⟨b,h⟩:=aR o.length;rw[<-Z]at I ⊢;rw[<-h]at J ⊢;have G:3<=k/\k<=14:=by simpa[eU]using O
 obtain⟨ao,ap,an⟩:=er (fun(W:aa)=>(by have:=jt k W G.1 G.2;rw[I,J]at this;exact this:az 167 (bK k) W fun e w'=>e=.returned (.agg (iL a b))/\ag W w')) O ab;have⟨H,T⟩:=bM w (.cells (wW k v A1 a c1 D b c2) 155);clear I J Z h Y G O ab;go_enter func168,ntmps168
 go_upto_region 1 with(fail)
 generalize w.alloc _=W at H T ⊢;have⟨ac,av,ad,ah⟩:=aB T;have am:=zH H;clear H T;go_upto_region 3 with(first|(go_at_call 210;refine(Calls.cg (pz _ _) ap).x ?_;rintro e w' ⟨rfl,rfl⟩)|(go_at_call 211;refine(Calls.cg (pd _ _ _) an).x ?_;rintro e w' ⟨rfl,rfl⟩))
 have F:=aQ ac (aQ ad ah);clear ac av ad ah;go_region_held3 (fun V=>af V w 0 (zI k)/\af V w 2 (.slice A1 a c1)/\af V w 3 (.slice D b c2))
  (first|with_reducible exact F|with_reducible exact jH (aC _) F|with_reducible exact jH U.o F)
  ((go_at_call 167;refine(ao.o _).x ?_;rintro e a0 ⟨rfl,h⟩;have U:=zH ((aC W).t (h.x (aC W).size));clear h))
 go_wp2;go_ret
 exact⟨rfl,aT am U⟩
def u_:List Bool->Nat
 |[]=>0
 |b::l=>u_ l+if b=true then 1 else 0
def zcG:∀{l:Fg} {x:Nat},l[x]?=some false->u_ (l.set x true)=u_ l+1
 |[],x,h=>QO
 |b::l,0,h=>by simp at h;subst h;simp[u_]
 |b::l,x+1,h=>by have:=zcG (l:=l) (x:=x) Q_;simp only[xh,u_];omega
def zfN:∀l:Fg,u_ l<=l.length
 |[]=>ae _
 |b::l=>by have:=zfN l;simp only[u_,jT];split<;>omega
def zcH:∀{l:Fg},(∀b∈l,b=true)->u_ l=l.length
 |[],_=>rfl
 |b::l,h=>by
  have:=zcH (l:=l) fun b D=>h b (kC _ D)
  simp only[u_,jT,this,h b (kb ..),p_]
def zgP n:u_ (List.replicate n false)=0:=by
 induction n with
 |zero=>rfl
 |succ n ih=>rw[C7];simp[u_,ih]
def xY(h:x<n):(List.range n).getD x 0=x:=by simp[List.getD,h]
def kV(n:Nat)(d:List (List Nat)):List Bool:=mP n (List.range n) d
def zal:∀{l:Fg} {x:Nat} {b:Bool},l[x]?=some b->l.set x b=l
 |[],_,_,h=>QO
 |a::l,0,b,h=>by simp at h;subst h;rfl
 |a::l,x+1,b,h=>by rw[xh,zal (l:=l) Q_]
structure SI(n B bg ug s uc:Nat)(x1 x2 x3:aG)(d:List (List Nat))(V:aa):Prop where
 ne:bg<ug/\ug<s
 hg:bA V bg #[.int .i64 n,x1,x2,x3] 54
 hs:bA V s (bZ (bH ug) n uc) 209
 ho:bA V (s+1) #[.bool true] 4
 hc:bA V (s+1+1) (bK (u_ (kV n d):Nat)) 3
 us:V.ownsRow B 4 1 (.slice (bH ug) n uc) n ((kV n d).map Value.bool)
def SI.ext{ug G}{H I}{d}{F}(D:SI n B J ug s G T H I d V)(h:ag V F):SI n B J ug s G T H I d F:=⟨D.ne,ai D.hg h,ai D.hs h,ai D.ho h,ai D.hc h,jA D.us (row:=none) ⟨h.os,h.tape,h.output,h.size,fun k O _=>h.block k O⟩ SY⟩
def zam{d}(D:l[k]?=some x)(h:x<n):(kV n (d++[l.take k])).set x true=kV n (d++[l.take (k+1)]):=by have:=zaj (n:=n) (C:=List.range n) (d:=d) D (by rw[xY h];exact h);rw[xY h]at this;exact this
def SI.Φ{ug D}{F G}{d}(h:SI n B J ug s D T F G (d++[l.take k]) V)(O:l[k]?=some x)(H:x<n)(I:(kV n (d++[l.take k]))[x]?=some true):SI n B J ug s D T F G (d++[l.take (k+1)]) V:=by have e:=zam (d:=d) O H;rw[zal I]at e;exact⟨h.ne,h.hg,h.hs,h.ho,by rw[<-e];exact h.hc,by rw[<-e];exact h.us⟩
def SI.Î{ug G}{H I}{d}(h:SI n B J ug s G T H I (d++[l.take k]) V)(ab:l[k]?=some x)(U:x<n)(Z:(kV n (d++[l.take k]))[x]?=some false):SI n B J ug s G T H I (d++[l.take (k+1)]) ((V.setCell ⟨ug,x,none⟩ (.bool true)).setCell ⟨s+1+1,0,none⟩ (zI ((u_ (kV n (d++[l.take k])):Nat)+1))):=by
 have e:=zam (d:=d) ab U;have D:=zcG Z;rw[e]at D;have F:=h.us.j x (.bool true);rw[<-eW,e]at F;have ac:=h.ne;have O:=bE (V.setCell ⟨ug,x,none⟩ (.bool true)) (s+1+1) 0 _ _ (zI ((u_ (kV n (d++[l.take k])):Nat)+1)) ((a_ _ _ _ _ (by show s+1+1≠ug;omega)).t h.hc);refine⟨h.ne,(a_ _ _ _ _ (by show J≠s+1+1;omega)).t ((a_ _ _ _ _ (by show J≠ug;omega)).t h.hg),(a_ _ _ _ _ (by show s≠s+1+1;omega)).t ((a_ _ _ _ _ (by show s≠ug;omega)).t h.hs),(a_ _ _ _ _ (by show s+1≠s+1+1;omega)).t ((a_ _ _ _ _ (by show s+1≠ug;omega)).t h.ho),?_,?_⟩
 .rw[O,D];simp
 .exact jA F.1 (row:=some (s+1+1)) ⟨rfl,rfl,rfl,Qt,fun k _ Y=>a_ _ _ _ _ (by show k≠s+1+1;intro e;exact Y Qv)⟩ (au TQ)
def zbl n B F ug s J O T U d l A ε V(h:SI n B F ug s J O T U d V)(ah:aO V A (bD l))(am:∀x∈l,x<n)(bc:n<=1048576)(bb:l.length<=1048576)(an:∀b o,A=some ⟨b,o,none⟩->0<l.length->b<ug):az 170 #[.slice A l ε,.pointer (bH F),.pointer (some ⟨s+1,0,none⟩),.pointer (bH s),.pointer (some ⟨s+1+1,0,none⟩)] V fun e ac=>e=.returned (.tuple #[])/\SI n B F ug s J O T U (d++[l]) ac/\b_ ug (s+1+1+1) V ac:=by
 have⟨ap,av,a0⟩:=er ah am an;have a1:=zH (show SI n B F ug s J O T U (d++[l.take 0]) V from by
  have e:kV n (d++[l.take 0])=kV n d:=by unfold kV mP pH;simp
  exact⟨h.ne,h.hg,h.hs,h.ho,by rw[e];exact h.hc,by rw[e];exact h.us⟩)
 clear h ah am an;go_enter func170,ntmps170
 go_wp2;go_loopw [10] (fun i wr=>∃k:Nat,k<=l.length/\i=.int .i64 k/\SI n B F ug s J O T U (d++[l.take k]) wr/\b_ ug (s+1+1+1) V wr) (fun i _=>l.length-(intOf i).toNat)
 case atStart=>exact⟨0,aW _,rfl,a1,b_.refl _ _ _⟩
 case round=>
  obtain⟨k,ba,rfl,hu,hw⟩:=hrel;by_cases FX:k<l.length
  .have⟨x,D⟩:=aq FX;obtain⟨b,o,rfl,Y⟩:=ap.θ (k:=k) Se;have bd:=a0 b o rfl Qu;have ao:=hu.ne;have a5:=hw.cell (Y k _ (dK D)) (by show b<ug∨s+1+1+1<=b;omega);have Z:=av x (aU D);obtain⟨q,hq⟩:=aq (by unfold kV;rw[lK];exact Z:x < (kV n (d++[l.take k])).length);have a6:af wr ug x (.bool q):=U9;have a8:=hu.us.g x;have a3:=aF hu.hg 0 rfl;have a4:=aF hu.hs 0 rfl;have ad:=aF hu.hc 0 rfl;have f3:=aK hu.hc 0;have a2:=zH hw;have be:IntKind.i64.wrap ((n:Int)-1)=(n:Int)-1:=Rt;have ab:=zH (RM:eU (x:Int) 0 ((n:Int)-1)=true);have H:=zfN (kV n (d++[l.take k]));unfold kV at H;rw[lK]at H;have⟨c,G⟩:=aR (u_ (kV n (d++[l.take k])));cases q
   .obtain⟨I,I3⟩:=bJ (hu.Î D Z hq) ((hw.xv (p:=⟨ug,x,none⟩) (v:=.bool true) (ae _) (by show ug<s+1+1+1;omega)).xv (p:=⟨s+1+1,0,none⟩) (v:=.int .i64 ((u_ (kV n (d++[l.take k])):Nat)+1)) (by show ug<=s+1+1;omega) (by show s+1+1<s+1+1+1;omega));have a9:(wr.setCell ⟨ug,x,none⟩ (.bool true)).cell? ⟨s+1+1,0,none⟩=some (.int .i64 (c:Nat)):=(cE (by show s+1+1≠ug;omega)).t (by rw[G];exact ad);rw[<-G]at I I3 ad;have a7:IntKind.i64.wrap ((c:Int)+1)=(c:Int)+1:=by
     have:c<=n:=by rw[G];exact H
     rw[bT];omega
    clear Y D hu hw hq H G ao;go_wp2_with (go_at_call 143;refine(Calls.cg (dC _ _ _ _) ab).x ?_;rintro e w' ⟨rfl,rfl⟩)
    go_roundw
    case rel=>exact⟨k+1,Qu,Qx,I,I3⟩
    case measure=>simp[intOf];omega
   .have I:=zH (hu.Φ D Z hq);clear Y D hu hw hq H G ao;go_wp2_with (go_at_call 143;refine(Calls.cg (dC _ _ _ _) ab).x ?_;rintro e w' ⟨rfl,rfl⟩)
    go_roundw
    case rel=>exact⟨k+1,Qu,Qx,I,a2⟩
    case measure=>simp[intOf];omega
  .exact Yl
def G1.el(h:g.G1):∀e∈g.es,e.i.length<=12/\e.o.length<=12:=fun e D=>by have:=h.fit e D;unfold Ed.jd at this;simp only[bN,cf]at this;obtain⟨F,_,hi,G⟩:=this;have:=tK F;omega
def G1.count(F:g.G1):u_ (kV g.w (ec g))=g.w:=by
 rw[zcH,show(kV g.w (ec g)).length=g.w from lK ..];intro b G;obtain⟨r,h⟩:=eH.1 G;have D:r<g.w:=by have:=(bG.1 h).1;rw[show(kV g.w (ec g)).length=g.w from lK ..]at this;exact this
 unfold kV at h;rw[nD _ _ D]at h;cases h
 obtain⟨l,H,I⟩:=(yA g r).2 (F.on r D);unfold pH;rw[nl];refine⟨l,H,?_⟩;rw[nl];exact⟨r,I,by rw[xY D];simp⟩
def qQ g A1 J O c1 c2 Y w(b0:jV w A1 J O g)(a0:g.G1)(b8:g.w<=65536)(U:g.es.length<=65536)(hi:g.i.length<=65536)(b4:g.o.length<=65536):az 124 (cY (bj g A1 c1 J c2 O Y)) w (dt w (jc g)):=by
 have bp:=zH (fun(v2 v3 v4:aG)=>FJ g A1 J O c1 c2 Y (.pointer (bH w)) v2 v3 v4);have⟨n,ad⟩:=aR g.w;have⟨F,an⟩:=aR g.es.length;have⟨H,a9⟩:=aR g.i.length;have⟨I,ba⟩:=aR g.o.length;obtain⟨G,cn,bn,bo⟩:=gG (by rw[ad,an,a9,ba];rfl:jc g=(decide (n<=100)&&(decide (F<=60)&&(decide (H<=12)&&decide (I<=12))))) (by rw[ad];exact G1.count a0:u_ (kV n (ec g))=n) b0 a0;have dq:n<=65536:=by rw[ad];exact b8
 have cp:=zH (show ∀l∈ec g,l.length<=65536 from zfL hi b4 fun e U=>by have:=G1.el a0 e U;omega);rw[<-ad,<-an,<-a9,<-ba]at bp ⊢;have⟨cq,cr⟩:=bJ ad an;have hq:=aH w (.cells (nh n A1 F c1 J H c2 O I Y) 54) rfl;have hB:=aw w (.cells (nh n A1 F c1 J H c2 O I Y) 54);have db:F<=65536:=by rw[an];exact U
 have cb:∀lo hi (W:aa),az 143 (gT n lo hi) W fun e w'=>e=.returned (.bool (eU n lo hi))/\W=w':=fun lo hi W=>dC _ _ _ _
 have Jq:=zH cb;clear b0 a0 b8 U hi b4 ad an a9 ba cb;by_cases ah:n<=100
 .have T:eU (n:Int) 0 100=true:=RM;have E1:=zH T;by_cases ac:F<=60
  .by_cases am:H<=12
   .by_cases ao:I<=12
    .have a7:decide ((60:Int) < (F:Int))=false:=QW;have bu:decide ((12:Int) < (H:Int))=false:=QW;have cA:decide ((12:Int) < (I:Int))=false:=QW;rw[show jc g=true by rw[G.o];simp[ah,ac,am,ao]];clear ac am ao T G;go_enter func124,ntmps124
     go_upto_region 1 with(fail)
     generalize w.alloc _=W at hq hB ⊢;refine NQ fun x0 x1 x2 x3 HB HQ=>?_
     clear hq hB;go_wp2_with (go_at_call 143;refine(Calls.cg (Jq.o _ _ _) E1).x ?_;rintro e w' ⟨rfl,rfl⟩)
     go_loopw [33] (fun i wr=>∃k:Nat,k<=F/\i=.int .i64 k/\ag W wr) (fun i _=>F-(intOf i).toNat)
     case atStart=>exact⟨0,aW _,rfl,al _ _⟩
     case round=>
      obtain⟨k,dc,rfl,Z⟩:=hrel;have ab:=aT HB Z;have a1:=ai HQ Z;clear x0 x1 x2 x3;by_cases cW:k<F
      .obtain⟨e,U⟩:=aq (by rw[<-cr.o];exact cW:k<g.es.length);obtain⟨c8,c9,be,d1,bg,d2,rfl,u0,u1,u2,u3,-,-⟩:=fU bn.es U;have bi:=zH (fun V=>zfG e be bg d1 d2 V (bo.fit e (aU U)));have bd:=ar ab u0;have a4:=ar ab u1;have z2:=ar ab u2;have ci:=ar ab u3;obtain⟨cF,cK,cB,cI⟩:=e;dsimp only at bd a4 z2 ci bi;have⟨a8,bb⟩:=bM wr (.cells (eh cF cK be cB d1 bg cI d2) 155);have bh:=zH (aT Z a8);clear u0 u1 u2 u3 U a1 ab Z;go_upto_region 6 with(fail)
       generalize wr.alloc _=d3 at a8 bb bh ⊢;have⟨dr,dO,n2,dT⟩:=aB bb;clear bd a4 z2 ci a8 bb;go_wp2_with (go_at_call 168;refine(bi.o _).x ?_;rintro e d4 ⟨rfl,av⟩;have cj:=zH (aT bh av);clear av)
       go_roundw
       case rel=>exact⟨k+1,Qu,Qx,cj⟩
       case measure=>simp[intOf];omega
      .obtain rfl:k=F:=Qu;obtain⟨h,rfl⟩:∃h,h=wr:=⟨wr,rfl⟩;have⟨x0,x1,x2,x3⟩:=aB a1;have⟨br,a6⟩:=bJ a1 ab;have⟨ch,b3,cc,ce,FU⟩:=dp Ds;clear a1 ab Z;go_upto_region 10 with((at_make;refine jg _ rfl _ _ 209 rfl h.heap.size 4 ch (.bool false) 1 underlying209 b3 cc ce .i64 .i64 n n n rfl rfl rfl rfl RF SL (ae _) ?_;intro D b5 b2;have bq:=zH b5;have co:=zH (cy b2);clear b5 b2))
       have b6:(h:Nat)<D:=(bS bq _ rfl).2;have b1:=ζ D (.cells (bZ (bH h) n n) 209) (.cells #[.bool true] 4) (.cells jz 3);have⟨t0,t1,t2⟩:=cD D (.cells (bZ (bH h) n n) 209) (.cells #[.bool true] 4) (.cells jz 3);have ap:=aT co b1;have ca:(w:Nat)<h:=(bk.1 br).1;have b7:D.ownsRow h 4 1 (.slice (bH h) n n) n ((kV n []).map Value.bool):=by have:=bq.o;rw[xW,<-AQ n (List.range n)]at this;exact this
       have a2:SI n h w h D n (.slice A1 k c1) (.slice J H c2) (.slice O I Y) [] (((D.alloc (.cells (bZ (bH h) n n) 209)).alloc (.cells #[.bool true] 4)).alloc (.cells jz 3)):=
        ⟨⟨ca,b6⟩,ai br ap,t0,t1,by rw[show kV n []=List.replicate n false from AQ _ _,zgP];exact t2,nm (nm (nm b7 _) _) _⟩
       have bc:(D:Nat)+1+1+1<=(((D.alloc (.cells (bZ (bH h) n n) 209)).alloc (.cells #[.bool true] 4)).alloc (.cells jz 3)):=Qt;clear x0 x1 x2 x3 t0 t1 t2 b7 b1 ch b3 cc ce FU;generalize ((D.alloc _).alloc _).alloc _=c5 at ap a2 bc ⊢;have a5:=zH (aT a6 ap);have ck:=zH (bp (.pointer (some ⟨(D:Nat)+1,0,none⟩)) (.pointer (bH D)) (.pointer (some ⟨(D:Nat)+1+1,0,none⟩)) h ((D:Nat)+1+1+1) w c5 (fun d V=>SI n h w h D n (.slice A1 k c1) (.slice J H c2) (.slice O I Y) d V) bn Qu cp (fun d V c6 cO av=>cO.ext av) a5 a6.size bc a2 (fun d l A ε V cR bz Z c0 dl=>
        zbl n h w h D n (.slice A1 k c1) (.slice J H c2) (.slice O I Y) d l A ε V cR (bz.ext Z) (fun x c3=>by rw[cq.o];exact bo.inr x (c0 x c3)) Qu Qu (fun b o e bv=>by
         subst e;obtain⟨c7,d0,cz,cV⟩:=bz.θ (k:=0) (by rw[aS];exact bv);cases cz
         have⟨y,c4⟩:=aq bv;have ah:=jB _ _ (cV 0 _ (dK c4));have:b < (w:Nat):=ah;omega)))
       have⟨x0,x1,x2,x3⟩:=aB a2.hg;have cu:=zH a6.size;clear ap a2 bc b6 ca;go_wp2_with (go_at_call 169;refine ck.x ?_;rintro e d5 ⟨rfl,a3,b9⟩;have bd:=aF a3.ho 0 rfl;have a4:=aF a3.hc 0 rfl;rw[cn.o]at a4;have z2:=aF a3.hg 0 rfl;have ct:=zH b9;clear a3 b9)
       go_ret
       exact⟨rfl,a5.t (ct.L (aZ cu (ae _)) a5.size)⟩
    .have a7:decide ((60:Int) < (F:Int))=false:=QW;have bu:decide ((12:Int) < (H:Int))=false:=QW;have cA:decide ((12:Int) < (I:Int))=true:=QW;rw[show jc g=false by rw[G.o];simp[ao]];clear G ac am ao T;exact Zg
   .have a7:decide ((60:Int) < (F:Int))=false:=QW;have bu:decide ((12:Int) < (H:Int))=true:=QW;rw[show jc g=false by rw[G.o];simp[am]];clear G ac am T;exact Zg
  .have a7:decide ((60:Int) < (F:Int))=true:=QW;rw[show jc g=false by rw[G.o];simp[ac]];clear G ac T;exact Zg
 .have T:eU (n:Int) 0 100=false:=RM;have E1:=zH T;rw[show jc g=false by rw[G.o];simp[ah]];clear G ah T;exact Zg
end Go.Proofs.YtpieilkmmiopfaaGreatDoor

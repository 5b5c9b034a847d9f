/- Parts of the walks and laws (Blk, Del, Ins). Conditions: as stated with each. -/
import Derived.Test.YtpieilkmmiopfaaGreatDoorPk1
namespace Go.Proofs.YtpieilkmmiopfaaGreatDoor
open Go.RowKit Tryz
set_option linter.all false
set_option maxHeartbeats 4000000
set_option maxRecDepth 100000
variable{A:aq}{B B' H b i j k n r:Nat}{E Rk t:du}{J W w w':aa}{K:mE}{P:iU}{Q:gj}{QJ QS r' xs:aH}{QU:Region.Mode}{R T u v:ax}{Rb o:fR}{Rf cs:eU}{Rm:ml}{a:Act}{ops:gP}{p:Int}{rest:List Oper}{row:Option Nat}{us:bU}
theorem eQ(h:bU)(o:Nat)(D:bU)(F:o+D.length<=h.length):(splice h o D).length=h.length:=length_splice h o D F
theorem zbD(h:bU)(o:Nat)(v:ax)(D:bU)(H:o+1+D.length<=h.length):splice (h.set o v) (o+1) D=splice h o (v::D):=by
 unfold splice;have F:(h.set o v).take (o+1)=h.take o++[v]:=by rw[dH,List.take_set_of_le (af _),fB Rr];rfl
 have G:(h.set o v).drop (o+1+D.length)=h.drop (o+(v::D).length):=by rw[List.drop_set_of_lt Rr];simp[oO,Nat.add_comm 1]
 rw[F,G];simp
theorem dA(g:Nat)(E:du):∀(h:bU) (o:Nat) (w:aa) (D:eU),aW w g D E->o+h.length<=D.size->(w.setCells g o h).heap[g]?=some (.cells (splice D.toList o h).toArray E (0,0))/\w.grownBy (w.setCells g o h) (some g)
 |[],o,w,D,F,_=>by refine⟨?_,⟨rfl,rfl,rfl,af _,fun _ _ _=>rfl⟩⟩;simp only[World.setCells,splice,qs,il,iM,DV];simpa using F
 |v::h,o,w,D,F,O=>by
  simp only[jc]at O;have T:=(aT.1 F).1;have I:(w.setCell ⟨g,o,none⟩ v).heap[g]?=some (.cells (D.setIfInBounds o v) E (0,0)):=by
   have:=(aT.1 F).2
   show(w.heap.modify g _)[g]?=_
   rw[Array.getElem?_modify,ay rfl,F];simp
  obtain⟨R,G⟩:=dA g E h (o+1) _ _ I RS;refine⟨?_,?_⟩
  .show((w.setCell ⟨g,o,none⟩ v).setCells g (o+1) h).heap[g]?=_
   rw[R,Array.toList_setIfInBounds,zbD _ _ _ _ RS]
  .refine⟨G.os,G.tape,G.output,by have:=G.size;rw[World.size_setCell]at this;exact this,fun k J H=>?_⟩;have N:k < (w.setCell ⟨g,o,none⟩ v).heap.size:=by rw[World.size_setCell];exact J
   exact(G.block k N H).trans (aZ _ _ _ _ (by intro e;exact H (by rw[e])))
theorem bN{a b c:aa}(h:a.grownBy b row)(k:b.grownBy c row):a.grownBy c row:=⟨k.os.trans h.os,k.tape.trans h.tape,k.output.trans h.output,aR h.size k.size,fun i hi D=>(k.block i (dI hi h.size) D).trans (h.block i hi D)⟩
theorem dP(w:aa)(row:Option Nat):w.grownBy w.drew row:=⟨rfl,rfl,rfl,af _,fun _ _ _=>rfl⟩
theorem a_{g:Nat}(h:aW w g Rf E)(j:Nat):w.cell? ⟨g,j,none⟩=Rf.toList[j]?:=by simp[World.cell?,h]
theorem aK{g:Nat}(h:aW w g Rf E)(j:Nat):w.frozen? ⟨g,j,none⟩=false:=by simp[World.frozen?,h]
theorem xX(h:bU)(o:Nat)(D:bU)(F:o<=h.length):(splice h o D).take o=h.take o:=by unfold splice;rw[lM RS,lk];simp
theorem iy(h:bU)(o:Nat)(D:bU)(F:o<=h.length):(splice h o D).take (o+D.length)=h.take o++D:=by unfold splice;rw[<-fj,lM RS];rw[cY RS]
theorem zak(D us h J:bU)(n k m:Nat)(I:D.take n=us)(T:n<=D.length)(N:k<n)(H:h=us.drop (k+1))(R:m+1=n)(O:h.length=n-(k+1)):(splice (splice D k h) m J).take (n-1)=us.eraseIdx k:=by have F:n-1=m:=Rr;have G:m=k+h.length:=Rr;rw[F,xX _ _ _ (by rw[eQ _ _ _ Rr];omega),G,iy _ _ _ Rr,H,zg,<-I,lk,gR Rr]
theorem kK(w:aa)(G:o.guard=none)(d s:jk)(t h:du)(H:o.op=.call {callee:=.builtin .copy,args:=#[d,s],argTypes:=#[t,h]})(v u:ax)(F:a.eval d=v)(J:a.eval s=u)(I:(Builtin.copy_ #[t,h] o.type #[v,u]).run P w=.ok R w')(D:wpList P ops Q rest (a.put o.dst R) w'):wpList P ops Q (o::rest) a w:=by
 refine lj G fun K hK=>?_
 unfold Oper.wp execOp;simp only[H,resolve,invoke,builtin,wI,wJ,wK,zj,m_,oQ,F,J,I];exact hK _ _ D
theorem mK{E:Prop}(G:o.guard=none)(d x:jk)(h D:du)(H:o.op=Op.call {callee:=Callee.builtin Builtin.copy,args:=#[d,x],argTypes:=#[h,D]})(v u:ax)(F:a.eval d=v)(J:a.eval x=u)(I:(Builtin.copy_ #[h,D] o.type #[v,u]).run P w=.ok R w')(hK:K (a.put o.dst R) w'):if Region.wanted o (yielded ops a.tmps)=true then Oper.wp P o a w K Q else E:=by rw[ay (by simp[Region.wanted,G]:Region.wanted o (yielded ops a.tmps)=true)];unfold Oper.wp execOp;simp only[H,resolve,invoke,builtin,wI,wJ,wK,zj,m_,oQ,F,J,I];exact hK
def cf{h:Type}(us:List h)(k:Nat)(x:h):List h:=us.take k++x::us.drop k
theorem zal(h us ds:bU)(n k:Nat)(x:ax)(D:h.take n=us)(R:n+1<=h.length)(N:k<n)(Fz:ds=us.drop k):(splice (splice h (k+1) ds) k [x]).take (n+1)=cf us k x:=by
 have O:us.length=n:=by rw[<-D];simp;omega
 have J:ds.length=n-k:=TI;have I:us.take k=h.take k:=by rw[<-D,lk,gR Rr]
 have F:(splice h (k+1) ds).take k=h.take k:=by have:=mX (List.take k) (xX h (k+1) ds Rr);rwa[lk,lk,gR Rr]at this
 have G:(splice h (k+1) ds).drop (k + [x].length)=ds++h.drop (k+1+ds.length):=by unfold splice;rw[List.drop_append_of_le_length RS];simp
 have H:splice (splice h (k+1) ds) k [x]=(h.take k++x::ds)++h.drop (k+1+ds.length):=by
  show(splice h (k+1) ds).take k++([x]++(splice h (k+1) ds).drop (k + [x].length))=_
  rw[F,G];simp
 rw[H,lM RS,cY RS,cf,I,Fz]
theorem Cl(row us ds:bU)(n k:Nat)(x:ax)(J:us.length=n)(N:n+1<=row.length)(I:k<n)(Fz:ds=us.drop k)(G:row.take k=us.take k):(splice (splice row k [x]) (k+1) ds).take (n+1)=cf us k x:=by have H:ds.length=n-k:=TI;have h:=iy row k [x] Rr;have D:=iy (splice row k [x]) (k+1) ds (by rw[eQ _ _ _ RS];omega);have F:k+1+ds.length=n+1:=Rr;rw[F]at D;rw[D];simp only[jc,il,iO]at h;rw[h,G,cf,Fz];simp
theorem zbE{g:Nat}(h:aW w g Rf E):w.cell? ⟨g,0,none⟩=Rf.toList[0]?/\w.cell? ⟨g,1,none⟩=Rf.toList[1]?:=⟨a_ h 0,a_ h 1⟩
theorem bS{g:Nat}(h:aW w g Rf E):w.cell? ⟨g,0,none⟩=Rf.toList[0]?/\w.cell? ⟨g,1,none⟩=Rf.toList[1]?/\w.cell? ⟨g,2,none⟩=Rf.toList[2]?:=⟨a_ h 0,a_ h 1,a_ h 2⟩
theorem tI{g:Nat}(h:aW w g Rf E):w.cell? ⟨g,0,none⟩=Rf.toList[0]?/\w.cell? ⟨g,1,none⟩=Rf.toList[1]?/\w.cell? ⟨g,2,none⟩=Rf.toList[2]?/\w.cell? ⟨g,3,none⟩=Rf.toList[3]?:=⟨a_ h 0,a_ h 1,a_ h 2,a_ h 3⟩
theorem bR{g:Nat}(h:aW w g Rf E):w.frozen? ⟨g,0,none⟩=false/\w.frozen? ⟨g,1,none⟩=false/\w.frozen? ⟨g,2,none⟩=false:=⟨aK h 0,aK h 1,aK h 2⟩
theorem zu(B g n cap:Nat)(i:Int)(us:bU)(w:aa)(Y:w.ownsRow B 3 1 (.slice (some ⟨g,0,none⟩) n cap) n us)(h1:∀u∈us,u.oneCell'=true)(hi:0<=i)(ac:i<n)(bd:n<=1048576):aw 272 #[.slice (some ⟨g,0,none⟩) n cap,i,.int .i64 (i+1)] w fun e w'=>e=.returned (.slice (some ⟨g,0,none⟩) (n-1) cap)/\w'.ownsRow B 3 1 (.slice (some ⟨g,0,none⟩) (n-1) cap) (n-1) (us.eraseIdx i.toNat)/\w.grownBy w' (some g):=by
 obtain⟨k,rfl⟩:=fY hi;obtain⟨a1,ab,bp,a0,bq⟩:=de fT;obtain⟨H,ad⟩:=Y;rcases ad with⟨ap,_⟩|⟨a6,a5,D,ao,Z,J,bg,I,Fp,Fo⟩
 .cases ap
 cases ao
 simp only[eG]at H Fp Fo;have O:k<n:=Rr;obtain⟨j,N⟩:=aM (k+1);rw[show((k:Int)+1)=(j:Int) by omega];have Fe:∀t,t<n->D.toList[t]?=us[t]?:=fun t ht=>TZ
 have Gc:aW w.drew g D 3:=J;obtain⟨Gb,FG⟩:=aM (us.drop j);have ES:Gb.length=n-j:=by rw[FG];simp;omega
 obtain⟨A,a7,am⟩:∃A:dk,(if cap=j then some (⟨g,0,none⟩:dk) else some ⟨g,j,none⟩)=some A/\Hd (∀t u,Gb[t]?=some u->w.drew.cell? (A.add t)=some u):=Zl;have a2:Hd (Gb.length=(n-j)*1):=Ti;have a3:Hd (∀u∈Gb,u.oneCell'=true):=Wv;have a4:Hd (∀t,t<Gb.length->(w.drew.cell? ⟨g,0+k*1+t,none⟩).isSome=true/\w.drew.frozen? ⟨g,0+k*1+t,none⟩=false):=XG;obtain⟨h,G⟩:=aM (w.drew.setCells g (0+k*1) Gb);obtain⟨b1,F⟩:=dA g 3 Gb (0+k*1) w.drew D Gc SF;rw[<-G]at b1 F;have Gd:(splice D.toList (0+k*1) Gb).length=cap:=Vz;have a8:∀ty,(Builtin.clear_ #[26] ty #[.slice (some ⟨g,k+(n-j),none⟩) (n-(k+(n-j))) (cap-(k+(n-j)))]).run prog h=.ok (.tuple #[]) (h.setCells g (k+(n-j)) (List.replicate (n-(k+(n-j))) (.int .i64 0))):=
  fun ty=>Lib.run_clear_slice (P:=prog) h 26 3 ty (.int .i64 0) dY (fun _=>RP) rfl rfl g (k+(n-j)) _ _ Rr
   (fun t ht=>VO) (fun t ht=>aK b1 _)
 obtain⟨c1,c2⟩:=dA g 3 (List.replicate (n-(k+(n-j))) (.int .i64 0)) (k+(n-j)) h _ b1 UQ;have U:=zH (show(h.setCells g (k+(n-j)) (List.replicate (n-(k+(n-j))) (.int .i64 0))).ownsRow B 3 1 (.slice (some ⟨g,0,none⟩) (n-1) cap) (n-1) (us.eraseIdx k) by
  refine⟨by simp[mY,H,O],an ⟨g,cap,_,rfl,Z,c1,Rr,I,?_,?_⟩⟩
  .exact Xp
  .skip
   simp only[eG,iO];exact zak D.toList us Gb _ n k (k+(n-j)) Fo RS O (by rw[FG,N]) Rr SF)
 obtain⟨T,V⟩:=bD (bN (dP w (some g)) (bN F c2)) G;have bc:k<j:=Rr;have ba:j<=n:=Rr;have a9:j<=cap:=Rr;have bb:k<=cap:=Rr;have bi:k+(n-j)<cap:=Rr;have bo:k+(n-j)<=n:=Rr;have R:k+(n-j)+1=n:=Rr;have HX:=zH R;unfold maxLen at I;clear H Fp Fo J Gc h1 hi Fe FG ES G b1 F Gd c1 c2 ac N R;go_enter func272,ntmps272
 go_wp2_with fail
 go_region_law (refine sD rfl (.tmp 22) (.tmp 25) 26 rfl 3 a1 1 dY ab a0 g 0 k cap Uf A (n-j) (cap-j) Gb Uf a2.o am.o a3.o Rr a4.o ?_;rw[<-V.o])
 go_wp2;go_ret
 refine⟨?_,?_,T.o⟩
 .exact WJ
 .exact U.o
theorem q6(B g n cap:Nat)(i:Int)(us:bU)(w:aa)(Y:w.ownsRow B 26 1 (.slice (some ⟨g,0,none⟩) n cap) n us)(h1:∀u∈us,u.oneCell'=true)(hi:0<=i)(ac:i<n)(bd:n<=1048576):aw 257 #[.slice (some ⟨g,0,none⟩) n cap,i,.int .i64 (i+1)] w fun e w'=>e=.returned (.slice (some ⟨g,0,none⟩) (n-1) cap)/\w'.ownsRow B 26 1 (.slice (some ⟨g,0,none⟩) (n-1) cap) (n-1) (us.eraseIdx i.toNat)/\w.grownBy w' (some g):=by
 obtain⟨k,rfl⟩:=fY hi;obtain⟨a1,ab,bp,a0,bq⟩:=de jV;obtain⟨H,ad⟩:=Y;rcases ad with⟨ap,_⟩|⟨a6,a5,D,ao,Z,J,bg,I,Fp,Fo⟩
 .cases ap
 cases ao
 simp only[eG]at H Fp Fo;have O:k<n:=Rr;obtain⟨j,N⟩:=aM (k+1);rw[show((k:Int)+1)=(j:Int) by omega];have Fe:∀t,t<n->D.toList[t]?=us[t]?:=fun t ht=>TZ
 have Gc:aW w.drew g D 26:=J;obtain⟨Gb,FG⟩:=aM (us.drop j);have ES:Gb.length=n-j:=by rw[FG];simp;omega
 obtain⟨A,a7,am⟩:∃A:dk,(if cap=j then some (⟨g,0,none⟩:dk) else some ⟨g,j,none⟩)=some A/\Hd (∀t u,Gb[t]?=some u->w.drew.cell? (A.add t)=some u):=Zl;have a2:Hd (Gb.length=(n-j)*1):=Ti;have a3:Hd (∀u∈Gb,u.oneCell'=true):=Wv;have a4:Hd (∀t,t<Gb.length->(w.drew.cell? ⟨g,0+k*1+t,none⟩).isSome=true/\w.drew.frozen? ⟨g,0+k*1+t,none⟩=false):=XG;obtain⟨h,G⟩:=aM (w.drew.setCells g (0+k*1) Gb);obtain⟨b1,F⟩:=dA g 26 Gb (0+k*1) w.drew D Gc SF;rw[<-G]at b1 F;have Gd:(splice D.toList (0+k*1) Gb).length=cap:=Vz;have a8:∀ty,(Builtin.clear_ #[55] ty #[.slice (some ⟨g,k+(n-j),none⟩) (n-(k+(n-j))) (cap-(k+(n-j)))]).run prog h=.ok (.tuple #[]) (h.setCells g (k+(n-j)) (List.replicate (n-(k+(n-j))) (.slice none 0 0))):=
  fun ty=>Lib.run_clear_slice (P:=prog) h 55 26 ty (.slice none 0 0) gF (fun _=>RP) rfl rfl g (k+(n-j)) _ _ Rr
   (fun t ht=>VO) (fun t ht=>aK b1 _)
 obtain⟨c1,c2⟩:=dA g 26 (List.replicate (n-(k+(n-j))) (.slice none 0 0)) (k+(n-j)) h _ b1 UQ;have U:=zH (show(h.setCells g (k+(n-j)) (List.replicate (n-(k+(n-j))) (.slice none 0 0))).ownsRow B 26 1 (.slice (some ⟨g,0,none⟩) (n-1) cap) (n-1) (us.eraseIdx k) by
  refine⟨by simp[mY,H,O],an ⟨g,cap,_,rfl,Z,c1,Rr,I,?_,?_⟩⟩
  .exact Xp
  .skip
   simp only[eG,iO];exact zak D.toList us Gb _ n k (k+(n-j)) Fo RS O (by rw[FG,N]) Rr SF)
 obtain⟨T,V⟩:=bD (bN (dP w (some g)) (bN F c2)) G;have bc:k<j:=Rr;have ba:j<=n:=Rr;have a9:j<=cap:=Rr;have bb:k<=cap:=Rr;have bi:k+(n-j)<cap:=Rr;have bo:k+(n-j)<=n:=Rr;have R:k+(n-j)+1=n:=Rr;have HX:=zH R;unfold maxLen at I;clear H Fp Fo J Gc h1 hi Fe FG ES G b1 F Gd c1 c2 ac N R;go_enter func257,ntmps257
 go_wp2_with fail
 go_region_law (refine sD rfl (.tmp 22) (.tmp 25) 55 rfl 26 a1 1 gF ab a0 g 0 k cap Uf A (n-j) (cap-j) Gb Uf a2.o am.o a3.o Rr a4.o ?_;rw[<-V.o])
 go_wp2;go_ret
 refine⟨?_,?_,T.o⟩
 .exact WJ
 .exact U.o
theorem sQ(B g n cap h:Nat)(i:Int)(us:bU)(x:ax)(w:aa)(ac:w.ownsRow B 3 1 (.slice (some ⟨g,0,none⟩) n cap) n us)(T:∀u∈us,u.oneCell'=true)(Gi:x.oneCell'=true)(hv:aW w h #[x] 3)(Fq:h≠g)(hi:0<=i)(ap:i<n)(bp:n+1<=cap)(bi:n<=1048576):aw 277 #[.slice (some ⟨g,0,none⟩) n cap,i,.slice (some ⟨h,0,none⟩) 1 1] w fun e w'=>e=.returned (.slice (some ⟨g,0,none⟩) (n+1) cap)/\w'.ownsRow B 3 1 (.slice (some ⟨g,0,none⟩) (n+1) cap) (n+1) (cf us i.toNat x)/\w.grownBy w' (some g):=by
 obtain⟨k,rfl⟩:=fY hi;obtain⟨b0,Gf,a6,Gh,bv⟩:=de fT;have V:(prog.info? 3).map (·.size)=some 1:=Tk;obtain⟨Ge,a2⟩:=ac;rcases a2 with⟨a5,_⟩|⟨a9,a8,G,a3,ad,N,bo,am,Fp,Fo⟩
 .cases a5
 cases a3
 simp only[eG]at Ge Fp Fo;unfold maxLen at am;have a0:k<n:=Rr;have Fe:∀t,t<n->G.toList[t]?=us[t]?:=fun t ht=>TZ
 have Gc:aW w.drew g G 3:=N;have a4:aW w.drew h #[x] 3:=hv;have a1:∀O I,(callFunc 278 #[.slice (some ⟨h,0,none⟩) 1 1,.slice (some ⟨g,k+1,none⟩) O I]).run prog w=.ok (.value (.bool false)) w:=fun O I=>by
  rw[run_callFunc_extern func278 RP RP RP (e:=Extern.SlicesOverlaps.overlaps #[26,26] #[4]) RP,
   Lib.run_overlaps_apart w 26 4 3 dY 1 Tryz.sizeOf3 ⟨h,0,none⟩ ⟨g,k+1,none⟩ 1 1 O I Fq 3 3 1 cap (by simp[World.shape?,hv]) (by simp[World.shape?,N,Fp]) Rr (aK hv _) (aK hv _)]
  rfl
 obtain⟨ds,Fz⟩:=aM (us.drop k);have Gg:ds.length=n-k:=TI;have U:∀ty D R,(Builtin.copy_ #[26,26] ty #[.slice (some ⟨g,k+1,none⟩) (n-k) D,.slice (some ⟨g,k,none⟩) (n+1-k) R]).run prog w.drew=.ok (goInt ds.length) (w.drew.setCells g (k+1) ds):=fun ty D R=>
  oX w.drew _ _ ty 3 g (k+1) (n-k) D ⟨g,k,none⟩ (n+1-k) R ds dY V Vn
   (fun j v hj=>V9)
   (fun j hj=>U0) (fun j hj=>aK Gc _) (fun v hv=>T v (ko Tj))
 obtain⟨F,J⟩:=aM (w.drew.setCells g (k+1) ds);obtain⟨b1,H⟩:=dA g 3 ds (k+1) w.drew G Gc (by rw[Gg];omega);rw[<-J]at b1 H U;have Gd:(splice G.toList (k+1) ds).length=cap:=Vy;have Y:aW F h #[x] 3:=(H.block h (aT.1 hv).1 Sw).trans hv;have ao:∀ty D,(Builtin.copy_ #[26,26] ty #[.slice (some ⟨g,k,none⟩) (n+1-k) D,.slice (some ⟨h,0,none⟩) 1 1]).run prog F=.ok (goInt [x].length) (F.setCells g k [x]):=fun ty D=>
  oX F _ _ ty 3 g k (n+1-k) D ⟨h,0,none⟩ 1 1 [x] dY V Vk
   (fun j v hj=>by
    match j,hj with
    |0,hj=>simp at hj;subst hj;rw[dj,a_ Y];rfl
    |j+1,hj=>simp at hj)
   (fun j hj=>VU) (fun j hj=>aK b1 _) (fun v hv=>UE)
 obtain⟨c1,c2⟩:=dA g 3 [x] k F _ b1 UQ;have ab:=zH (show(F.setCells g k [x]).ownsRow B 3 1 (.slice (some ⟨g,0,none⟩) (n+1) cap) (n+1) (cf us k x) by
  refine⟨TF,an ⟨g,cap,_,rfl,ad,c1,Rr,TD,?_,?_⟩⟩
  .exact Xp
  .simp only[eG];exact zal G.toList us ds n k x Fo RS a0 Fz)
 obtain⟨Z,a7⟩:=bD (bN (dP w (some g)) (bN H c2)) J;have bu:¬((1:Int)=0):=Rr;have bz:¬((k:Int)=(n:Int)):=Rr;have bg:k<=n:=Rr;have br:IntKind.i64.wrap ((k:Int)+1)=(k:Int)+1:=Sq;have ba:(0:Int)<=(k:Int)+1:=Rr;have bq:((k:Int)+1).toNat=k+1:=Rr;have bb:¬(cap=k+1):=Rr;have bc:(k:Int)<=(n:Int)+1:=Rr;have bd:¬(cap=k):=Rr;clear Ge Fp Fo N Gc T hi Fe Fz Gg J b1 H Gd c1 c2 ap hv a4 Y a6;go_enter func277,ntmps277
 go_wp2_with (simp only[a1])
 go_region_law (refine mK rfl (.tmp 73) (.tmp 76) 26 26 rfl _ _ Uf Uf (U _ _ _) ?_)
 go_wp2_with (with_reducible refine kK _ rfl (.tmp 80) (.tmp 81) 26 26 rfl _ _ rfl rfl (ao _ _) ?_)
 go_ret
 exact⟨rfl,ab.o,Z.o⟩
theorem vB(B n F:Nat)(v:ax)(us:bU)(x:ax)(w:aa)(D:w.ownsRow B 3 1 v n us)(a2:x.oneCell'=true)(H:aW w F #[x] 3)(a1:n<=1048576)(N:B<=w.heap.size):aw 277 #[v,n,.slice (some ⟨F,0,none⟩) 1 1] w fun e w'=>∃g cap,e=.returned (.slice (some ⟨g,0,none⟩) (n+1) cap)/\w'.ownsRow B 3 1 (.slice (some ⟨g,0,none⟩) (n+1) cap) (n+1) (cf us n x)/\w.grownBy w' v.ownBlock/\(v.ownBlock=some g∨w.heap.size<=g):=by
 obtain⟨ad,T,Z,ab,ac⟩:=de fT;have G:us.length=n:=by simpa using D.1
 have U:cf us n x=us++[x]:=by simp[cf,<-G]
 have HI:=zH U;clear U;have V:Hd (∀j u,([x]:bU)[j]?=some u->w.cell? ((⟨F,0,none⟩:dk).add j)=some u):=fun j u h=>by
  match j,h with
  |0,h=>simp at h;subst h;rw[dj,a_ H];rfl
  |j+1,h=>simp at h
 have J:Hd (∀u∈([x]:bU),u.oneCell'=true):=fun u Y=>by simp at Y;subst Y;exact a2
 have I:=zH D;rcases D.2 with⟨rfl,rfl⟩|⟨g,cap,a4,rfl,_,_,a5,ap,_⟩
 .clear D G H;go_enter func277,ntmps277
  go_wp2_with (at_builtin;refine zm _ rfl (.tmp 23) (.tmp 24) 26 rfl B 3 ad (.int .i64 0) 1 8 dY T Z ab ac rfl Rs _ 0 us rfl I.o ⟨F,0,none⟩ 1 1 [x] rfl rfl V.o J.o Rs Rs Rs N w.heap.size rfl ?_;intro g cap a3 EF GZ JN a0)
  exact XH
 .unfold maxLen at ap;have O:(n+1)<=maxLen:=TD;have R:(n+1)*8<=140737488355328:=Rr;obtain⟨am,ao⟩:=bD O R;clear D G H O R a1;go_enter func277,ntmps277
  go_wp2_with (at_builtin;refine zm _ rfl (.tmp 23) (.tmp 24) 26 rfl B 3 ad (.int .i64 0) 1 8 dY T Z ab ac rfl Rs _ n us rfl I.o ⟨F,0,none⟩ 1 1 [x] rfl rfl V.o J.o Rs am.o ao.o N w.heap.size rfl ?_;intro g cap a3 EF GZ JN a0)
  all_goals (go_ret;exact⟨g,cap,rfl,by rw[HI.o];exact EF,GZ,JN.imp id fun e=>Rr⟩)
theorem ud(B g n cap N:Nat)(i:Int)(us:bU)(x:ax)(w:aa)(h:w.ownsRow B 3 1 (.slice (some ⟨g,0,none⟩) n cap) n us)(Y:∀u∈us,u.oneCell'=true)(Gi:x.oneCell'=true)(hv:aW w N #[x] 3)(hi:0<=i)(ba:i<n)(bg:cap<n+1)(b6:n<=1048576)(a5:B<=w.heap.size):aw 277 #[.slice (some ⟨g,0,none⟩) n cap,i,.slice (some ⟨N,0,none⟩) 1 1] w fun e w'=>∃D,e=.returned (.slice (some ⟨w.heap.size,0,none⟩) (n+1) D)/\w'.ownsRow B 3 1 (.slice (some ⟨w.heap.size,0,none⟩) (n+1) D) (n+1) (cf us i.toNat x)/\w.grownBy w' none:=by
 obtain⟨k,rfl⟩:=fY hi;obtain⟨a2,Gf,a1,Gh,EK⟩:=de fT;have ap:(prog.info? 3).map (·.size)=some 1:=Tk;obtain⟨Ge,bd⟩:=h;rcases bd with⟨bq,_⟩|⟨bu,br,U,bo,bv,R,b7,a7,ad,Fo⟩
 .cases bq
 cases bo
 simp only[eG]at Ge ad Fo;unfold maxLen at a7;have bc:k<n:=Rr;obtain rfl:n=cap:=Rr;have a9:g<w.heap.size:=(aT.1 R).1;have bp:N<w.heap.size:=(aT.1 hv).1;have Fe:∀t,t<n->U.toList[t]?=us[t]?:=fun t ht=>TZ
 have ao:(Builtin.firstCells a2.size k (.slice (some ⟨g,0,none⟩) k n)).run prog w.drew=.ok (us.take k).toArray w.drew:=by rw[Gh];exact run_firstCells_some w.drew 1 k ⟨g,0,none⟩ k n (us.take k) RS (fun j v hj=>by have bb:=(bG.1 hj).1;simp at bb;rw[dj,a_ (show aW w.drew g U 3 from R),iO,Fe _ Rr,<-hj,gm,ay Rr])
 obtain⟨D,hG⟩:=aM (grownCap w (n+1) n 3);have a6:n+1<=D:=by rw[hG];exact grownCap_ge w _ _ _
 have bz:D<=9223372036854775807:=by have:=grownCap_le_maxLen w (n+1) n 3 TD;rw[<-hG]at this;unfold maxLen at this;omega
 obtain⟨H,JE⟩:∃H:eU,H=(us.take k).toArray++Builtin.zeroCells (Value.cells (.int .i64 0)) (n+1-k)++Builtin.zeroCells (Value.cells (.int .i64 0)) (D-(n+1)):=⟨_,rfl⟩;have JI:H.size=D:=VK;have Z:H.toList.take k=us.take k:=X7;obtain⟨F,JH⟩:=aM (w.drew.alloc (.cells H 3));have bi:∀ty,(Builtin.append_ #[26,3] ty #[.slice (some ⟨g,0,none⟩) k n,.int .i64 ((n:Int)+1-(k:Int))]).run prog w=.ok (.slice (some ⟨w.heap.size,0,none⟩) (n+1) D) F:=fun ty=>by have h:=Lib.run_append_grow_zeros (P:=prog) w 26 3 ty 3 a2 _ .i64 .i64 dY gE Gf a1 (some ⟨g,0,none⟩) k n (us.take k) ao (n+1-k) Rr Rr Rr Rr SA Wf;exact YO
 have EG:aW F w.heap.size H 3:=by rw[JH];exact aC _ _ rfl
 have T:∀q,q<w.heap.size->F.heap[q]?=w.heap[q]?:=fun q O=>by rw[JH];exact bJ w.drew _ O
 have I:w.grownBy F none:=VL;have a0:aW F N #[x] 3:=(T N bp).trans hv;have ac:∀ty J,(Builtin.copy_ #[26,26] ty #[.slice (some ⟨w.heap.size,k,none⟩) (n+1-k) J,.slice (some ⟨N,0,none⟩) 1 1]).run prog F=.ok (goInt [x].length) (F.setCells w.heap.size k [x]):=fun ty J=>
  oX F _ _ ty 3 w.heap.size k (n+1-k) J ⟨N,0,none⟩ 1 1 [x] dY ap Vk
   (fun j v hj=>by
    match j,hj with
    |0,hj=>simp at hj;subst hj;rw[dj,a_ a0];rfl
    |j+1,hj=>simp at hj)
   (fun j hj=>Vu) (fun j hj=>aK EG _) (fun v hv=>UE)
 obtain⟨G,ab⟩:=aM (F.setCells w.heap.size k [x]);obtain⟨c1,c2⟩:=dA w.heap.size 3 [x] k F _ EG RS;rw[<-ab]at c1 c2 ac;obtain⟨ds,Fz⟩:=aM (us.drop k);have Gg:ds.length=n-k:=TI;have JG:(splice H.toList k [x]).length=D:=Vp;have am:aW G g U 3:=(c2.block g (by have:=I.size;omega) RS).trans ((T g a9).trans R);have JJ:G.drew.heap[w.heap.size]?=_:=c1;have JF:G.drew.heap[g]?=_:=am;have a8:∀ty J V,(Builtin.copy_ #[26,26] ty #[.slice (some ⟨w.heap.size,k+1,none⟩) (n-k) J,.slice (some ⟨g,k,none⟩) (n-k) V]).run prog G.drew=.ok (goInt ds.length) (G.drew.setCells w.heap.size (k+1) ds):=fun ty J V=>
  oX G.drew _ _ ty 3 w.heap.size (k+1) (n-k) J ⟨g,k,none⟩ (n-k) V ds dY ap Vn
   (fun j v hj=>V_)
   (fun j hj=>VT) (fun j hj=>aK JJ _) (fun v hv=>Y v (ko Tj))
 obtain⟨d1,d2⟩:=dA w.heap.size 3 ds (k+1) G.drew _ JJ UK;have a4:=zH (show(G.drew.setCells w.heap.size (k+1) ds).ownsRow B 3 1 (.slice (some ⟨w.heap.size,0,none⟩) (n+1) D) (n+1) (cf us k x) by
  refine⟨TF,an ⟨w.heap.size,D,_,rfl,a5,d1,a6,TD,?_,?_⟩⟩
  .exact Xl
  .simp only[eG];exact Cl H.toList us ds n k x Ge RS bc Fz Z)
 have a3:=zH (show w.grownBy (G.drew.setCells w.heap.size (k+1) ds) none from
  ⟨d2.os.trans (c2.os.trans I.os),d2.tape.trans (c2.tape.trans I.tape),d2.output.trans (c2.output.trans I.output),aR I.size (aR c2.size d2.size),fun q O _=>
   (d2.block q (dI O (aR I.size c2.size)) RS).trans ((c2.block q (dI O I.size) RS).trans (T q O))⟩)
 have ca:¬((1:Int)=0):=Rr;have cb:¬((k:Int)=(n:Int)):=Rr;have cc:(n:Int) < (n:Int)+1:=Rr;have b5:k<=n:=Rr;have b9:IntKind.i64.wrap ((k:Int)+1)=(k:Int)+1:=Sq;have b2:(0:Int)<=(k:Int)+1:=Rr;have b8:((k:Int)+1).toNat=k+1:=Rr;have b0:¬(D=k):=Rr;have b1:¬(D=k+1):=Rr;have b4:¬(n=k):=Rr;have b3:(k:Int)<=(n:Int)+1:=Rr;clear Ge ad Fo R Y hi Fe Fz Gg JH ab EG T I a0 JG c1 c2 d1 d2 am JJ JF ba hv a1 hG JE JI Z ao bg;go_enter func277,ntmps277
 go_wp2_with (first
  |(at_builtin;refine Lib.wpList_append_run _ rfl (.tmp 34) (.tmp 39) _ _ rfl _ _ rfl rfl _ _ (bi _) ?_)
  |(with_reducible refine kK _ rfl (.tmp 43) (.tmp 44) 26 26 rfl _ _ rfl rfl (ac _ _) ?_))
 go_region_law (refine mK rfl (.tmp 50) (.tmp 53) 26 26 rfl _ _ Uf Uf (a8 _ _ _) ?_)
 go_wp2;go_ret
 exact⟨D,rfl,a4.o,a3.o⟩
theorem AS(B n h:Nat)(i:Int)(v:ax)(us:bU)(x:ax)(w:aa)(D:w.ownsRow B 3 1 v n us)(J:∀u∈us,u.oneCell'=true)(I:x.oneCell'=true)(H:aW w h #[x] 3)(T:v.ownBlock≠some h)(hi:0<=i)(V:i<=n)(F:n<=1048576)(N:B<=w.heap.size):aw 277 #[v,i,.slice (some ⟨h,0,none⟩) 1 1] w fun e w'=>∃g cap,e=.returned (.slice (some ⟨g,0,none⟩) (n+1) cap)/\w'.ownsRow B 3 1 (.slice (some ⟨g,0,none⟩) (n+1) cap) (n+1) (cf us i.toNat x)/\w.grownBy w' v.ownBlock/\(v.ownBlock=some g∨w.heap.size<=g):=by
 by_cases R:i=n
 .subst R;rw[Int.toNat_natCast];exact vB B n h v us x w D I H F N
 .have O:i<n:=Rr;obtain⟨g,cap,rfl,_,_⟩:=D.form Rr;by_cases U:n+1<=cap
  .refine(sQ B g n cap h i us x w D J I H (by intro e;subst e;exact T rfl) hi O U F).mono ?_;exact WK
  .refine(ud B g n cap h i us x w D J I H hi O Rr F N).mono ?_;exact YF
theorem sU(B g n cap h:Nat)(i:Int)(us:bU)(x:ax)(w:aa)(ac:w.ownsRow B 26 1 (.slice (some ⟨g,0,none⟩) n cap) n us)(T:∀u∈us,u.oneCell'=true)(Gi:x.oneCell'=true)(hv:aW w h #[x] 26)(Fq:h≠g)(hi:0<=i)(ap:i<n)(bp:n+1<=cap)(bi:n<=1048576):aw 261 #[.slice (some ⟨g,0,none⟩) n cap,i,.slice (some ⟨h,0,none⟩) 1 1] w fun e w'=>e=.returned (.slice (some ⟨g,0,none⟩) (n+1) cap)/\w'.ownsRow B 26 1 (.slice (some ⟨g,0,none⟩) (n+1) cap) (n+1) (cf us i.toNat x)/\w.grownBy w' (some g):=by
 obtain⟨k,rfl⟩:=fY hi;obtain⟨b0,Gf,a6,Gh,bv⟩:=de jV;have V:(prog.info? 26).map (·.size)=some 1:=Tk;obtain⟨Ge,a2⟩:=ac;rcases a2 with⟨a5,_⟩|⟨a9,a8,G,a3,ad,N,bo,am,Fp,Fo⟩
 .cases a5
 cases a3
 simp only[eG]at Ge Fp Fo;unfold maxLen at am;have a0:k<n:=Rr;have Fe:∀t,t<n->G.toList[t]?=us[t]?:=fun t ht=>TZ
 have Gc:aW w.drew g G 26:=N;have a4:aW w.drew h #[x] 26:=hv;have a1:∀O I,(callFunc 262 #[.slice (some ⟨h,0,none⟩) 1 1,.slice (some ⟨g,k+1,none⟩) O I]).run prog w=.ok (.value (.bool false)) w:=fun O I=>by
  rw[run_callFunc_extern func262 RP RP RP (e:=Extern.SlicesOverlaps.overlaps #[55,55] #[4]) RP,
   Lib.run_overlaps_apart w 55 4 26 gF 1 Tryz.sizeOf26 ⟨h,0,none⟩ ⟨g,k+1,none⟩ 1 1 O I Fq 26 26 1 cap (by simp[World.shape?,hv]) (by simp[World.shape?,N,Fp]) Rr (aK hv _) (aK hv _)]
  rfl
 obtain⟨ds,Fz⟩:=aM (us.drop k);have Gg:ds.length=n-k:=TI;have U:∀ty D R,(Builtin.copy_ #[55,55] ty #[.slice (some ⟨g,k+1,none⟩) (n-k) D,.slice (some ⟨g,k,none⟩) (n+1-k) R]).run prog w.drew=.ok (goInt ds.length) (w.drew.setCells g (k+1) ds):=fun ty D R=>
  oX w.drew _ _ ty 26 g (k+1) (n-k) D ⟨g,k,none⟩ (n+1-k) R ds gF V Vn
   (fun j v hj=>V9)
   (fun j hj=>U0) (fun j hj=>aK Gc _) (fun v hv=>T v (ko Tj))
 obtain⟨F,J⟩:=aM (w.drew.setCells g (k+1) ds);obtain⟨b1,H⟩:=dA g 26 ds (k+1) w.drew G Gc (by rw[Gg];omega);rw[<-J]at b1 H U;have Gd:(splice G.toList (k+1) ds).length=cap:=Vy;have Y:aW F h #[x] 26:=(H.block h (aT.1 hv).1 Sw).trans hv;have ao:∀ty D,(Builtin.copy_ #[55,55] ty #[.slice (some ⟨g,k,none⟩) (n+1-k) D,.slice (some ⟨h,0,none⟩) 1 1]).run prog F=.ok (goInt [x].length) (F.setCells g k [x]):=fun ty D=>
  oX F _ _ ty 26 g k (n+1-k) D ⟨h,0,none⟩ 1 1 [x] gF V Vk
   (fun j v hj=>by
    match j,hj with
    |0,hj=>simp at hj;subst hj;rw[dj,a_ Y];rfl
    |j+1,hj=>simp at hj)
   (fun j hj=>VU) (fun j hj=>aK b1 _) (fun v hv=>UE)
 obtain⟨c1,c2⟩:=dA g 26 [x] k F _ b1 UQ;have ab:=zH (show(F.setCells g k [x]).ownsRow B 26 1 (.slice (some ⟨g,0,none⟩) (n+1) cap) (n+1) (cf us k x) by
  refine⟨TF,an ⟨g,cap,_,rfl,ad,c1,Rr,TD,?_,?_⟩⟩
  .exact Xp
  .simp only[eG];exact zal G.toList us ds n k x Fo RS a0 Fz)
 obtain⟨Z,a7⟩:=bD (bN (dP w (some g)) (bN H c2)) J;have bu:¬((1:Int)=0):=Rr;have bz:¬((k:Int)=(n:Int)):=Rr;have bg:k<=n:=Rr;have br:IntKind.i64.wrap ((k:Int)+1)=(k:Int)+1:=Sq;have ba:(0:Int)<=(k:Int)+1:=Rr;have bq:((k:Int)+1).toNat=k+1:=Rr;have bb:¬(cap=k+1):=Rr;have bc:(k:Int)<=(n:Int)+1:=Rr;have bd:¬(cap=k):=Rr;clear Ge Fp Fo N Gc T hi Fe Fz Gg J b1 H Gd c1 c2 ap hv a4 Y a6;go_enter func261,ntmps261
 go_wp2_with (simp only[a1])
 go_region_law (refine mK rfl (.tmp 73) (.tmp 76) 55 55 rfl _ _ Uf Uf (U _ _ _) ?_)
 go_wp2_with (with_reducible refine kK _ rfl (.tmp 80) (.tmp 81) 55 55 rfl _ _ rfl rfl (ao _ _) ?_)
 go_ret
 exact⟨rfl,ab.o,Z.o⟩
theorem vC(B n F:Nat)(v:ax)(us:bU)(x:ax)(w:aa)(D:w.ownsRow B 26 1 v n us)(a2:x.oneCell'=true)(H:aW w F #[x] 26)(a1:n<=1048576)(N:B<=w.heap.size):aw 261 #[v,n,.slice (some ⟨F,0,none⟩) 1 1] w fun e w'=>∃g cap,e=.returned (.slice (some ⟨g,0,none⟩) (n+1) cap)/\w'.ownsRow B 26 1 (.slice (some ⟨g,0,none⟩) (n+1) cap) (n+1) (cf us n x)/\w.grownBy w' v.ownBlock/\(v.ownBlock=some g∨w.heap.size<=g):=by
 obtain⟨ad,T,Z,ab,ac⟩:=de jV;have G:us.length=n:=by simpa using D.1
 have U:cf us n x=us++[x]:=by simp[cf,<-G]
 have HI:=zH U;clear U;have V:Hd (∀j u,([x]:bU)[j]?=some u->w.cell? ((⟨F,0,none⟩:dk).add j)=some u):=fun j u h=>by
  match j,h with
  |0,h=>simp at h;subst h;rw[dj,a_ H];rfl
  |j+1,h=>simp at h
 have J:Hd (∀u∈([x]:bU),u.oneCell'=true):=fun u Y=>by simp at Y;subst Y;exact a2
 have I:=zH D;rcases D.2 with⟨rfl,rfl⟩|⟨g,cap,a4,rfl,_,_,a5,ap,_⟩
 .clear D G H;go_enter func261,ntmps261
  go_wp2_with (at_builtin;refine zm _ rfl (.tmp 23) (.tmp 24) 55 rfl B 26 ad (.slice none 0 0) 1 24 gF T Z ab ac rfl Rs _ 0 us rfl I.o ⟨F,0,none⟩ 1 1 [x] rfl rfl V.o J.o Rs Rs Rs N w.heap.size rfl ?_;intro g cap a3 EF GZ JN a0)
  exact XH
 .unfold maxLen at ap;have O:(n+1)<=maxLen:=TD;have R:(n+1)*24<=140737488355328:=Rr;obtain⟨am,ao⟩:=bD O R;clear D G H O R a1;go_enter func261,ntmps261
  go_wp2_with (at_builtin;refine zm _ rfl (.tmp 23) (.tmp 24) 55 rfl B 26 ad (.slice none 0 0) 1 24 gF T Z ab ac rfl Rs _ n us rfl I.o ⟨F,0,none⟩ 1 1 [x] rfl rfl V.o J.o Rs am.o ao.o N w.heap.size rfl ?_;intro g cap a3 EF GZ JN a0)
  all_goals (go_ret;exact⟨g,cap,rfl,by rw[HI.o];exact EF,GZ,JN.imp id fun e=>Rr⟩)
theorem ue(B g n cap N:Nat)(i:Int)(us:bU)(x:ax)(w:aa)(h:w.ownsRow B 26 1 (.slice (some ⟨g,0,none⟩) n cap) n us)(Y:∀u∈us,u.oneCell'=true)(Gi:x.oneCell'=true)(hv:aW w N #[x] 26)(hi:0<=i)(ba:i<n)(bg:cap<n+1)(b6:n<=1048576)(a5:B<=w.heap.size):aw 261 #[.slice (some ⟨g,0,none⟩) n cap,i,.slice (some ⟨N,0,none⟩) 1 1] w fun e w'=>∃D,e=.returned (.slice (some ⟨w.heap.size,0,none⟩) (n+1) D)/\w'.ownsRow B 26 1 (.slice (some ⟨w.heap.size,0,none⟩) (n+1) D) (n+1) (cf us i.toNat x)/\w.grownBy w' none:=by
 obtain⟨k,rfl⟩:=fY hi;obtain⟨a2,Gf,a1,Gh,EK⟩:=de jV;have ap:(prog.info? 26).map (·.size)=some 1:=Tk;obtain⟨Ge,bd⟩:=h;rcases bd with⟨bq,_⟩|⟨bu,br,U,bo,bv,R,b7,a7,ad,Fo⟩
 .cases bq
 cases bo
 simp only[eG]at Ge ad Fo;unfold maxLen at a7;have bc:k<n:=Rr;obtain rfl:n=cap:=Rr;have a9:g<w.heap.size:=(aT.1 R).1;have bp:N<w.heap.size:=(aT.1 hv).1;have Fe:∀t,t<n->U.toList[t]?=us[t]?:=fun t ht=>TZ
 have ao:(Builtin.firstCells a2.size k (.slice (some ⟨g,0,none⟩) k n)).run prog w.drew=.ok (us.take k).toArray w.drew:=by rw[Gh];exact run_firstCells_some w.drew 1 k ⟨g,0,none⟩ k n (us.take k) RS (fun j v hj=>by have bb:=(bG.1 hj).1;simp at bb;rw[dj,a_ (show aW w.drew g U 26 from R),iO,Fe _ Rr,<-hj,gm,ay Rr])
 obtain⟨D,hG⟩:=aM (grownCap w (n+1) n 26);have a6:n+1<=D:=by rw[hG];exact grownCap_ge w _ _ _
 have bz:D<=9223372036854775807:=by have:=grownCap_le_maxLen w (n+1) n 26 TD;rw[<-hG]at this;unfold maxLen at this;omega
 obtain⟨H,JE⟩:∃H:eU,H=(us.take k).toArray++Builtin.zeroCells (Value.cells (.slice none 0 0)) (n+1-k)++Builtin.zeroCells (Value.cells (.slice none 0 0)) (D-(n+1)):=⟨_,rfl⟩;have JI:H.size=D:=VK;have Z:H.toList.take k=us.take k:=X7;obtain⟨F,JH⟩:=aM (w.drew.alloc (.cells H 26));have bi:∀ty,(Builtin.append_ #[55,3] ty #[.slice (some ⟨g,0,none⟩) k n,.int .i64 ((n:Int)+1-(k:Int))]).run prog w=.ok (.slice (some ⟨w.heap.size,0,none⟩) (n+1) D) F:=fun ty=>by have h:=Lib.run_append_grow_zeros (P:=prog) w 55 3 ty 26 a2 _ .i64 .i64 gF gE Gf a1 (some ⟨g,0,none⟩) k n (us.take k) ao (n+1-k) Rr Rr Rr Rr SA Wf;exact YO
 have EG:aW F w.heap.size H 26:=by rw[JH];exact aC _ _ rfl
 have T:∀q,q<w.heap.size->F.heap[q]?=w.heap[q]?:=fun q O=>by rw[JH];exact bJ w.drew _ O
 have I:w.grownBy F none:=VL;have a0:aW F N #[x] 26:=(T N bp).trans hv;have ac:∀ty J,(Builtin.copy_ #[55,55] ty #[.slice (some ⟨w.heap.size,k,none⟩) (n+1-k) J,.slice (some ⟨N,0,none⟩) 1 1]).run prog F=.ok (goInt [x].length) (F.setCells w.heap.size k [x]):=fun ty J=>
  oX F _ _ ty 26 w.heap.size k (n+1-k) J ⟨N,0,none⟩ 1 1 [x] gF ap Vk
   (fun j v hj=>by
    match j,hj with
    |0,hj=>simp at hj;subst hj;rw[dj,a_ a0];rfl
    |j+1,hj=>simp at hj)
   (fun j hj=>Vu) (fun j hj=>aK EG _) (fun v hv=>UE)
 obtain⟨G,ab⟩:=aM (F.setCells w.heap.size k [x]);obtain⟨c1,c2⟩:=dA w.heap.size 26 [x] k F _ EG RS;rw[<-ab]at c1 c2 ac;obtain⟨ds,Fz⟩:=aM (us.drop k);have Gg:ds.length=n-k:=TI;have JG:(splice H.toList k [x]).length=D:=Vp;have am:aW G g U 26:=(c2.block g (by have:=I.size;omega) RS).trans ((T g a9).trans R);have JJ:G.drew.heap[w.heap.size]?=_:=c1;have JF:G.drew.heap[g]?=_:=am;have a8:∀ty J V,(Builtin.copy_ #[55,55] ty #[.slice (some ⟨w.heap.size,k+1,none⟩) (n-k) J,.slice (some ⟨g,k,none⟩) (n-k) V]).run prog G.drew=.ok (goInt ds.length) (G.drew.setCells w.heap.size (k+1) ds):=fun ty J V=>
  oX G.drew _ _ ty 26 w.heap.size (k+1) (n-k) J ⟨g,k,none⟩ (n-k) V ds gF ap Vn
   (fun j v hj=>V_)
   (fun j hj=>VT) (fun j hj=>aK JJ _) (fun v hv=>Y v (ko Tj))
 obtain⟨d1,d2⟩:=dA w.heap.size 26 ds (k+1) G.drew _ JJ UK;have a4:=zH (show(G.drew.setCells w.heap.size (k+1) ds).ownsRow B 26 1 (.slice (some ⟨w.heap.size,0,none⟩) (n+1) D) (n+1) (cf us k x) by
  refine⟨TF,an ⟨w.heap.size,D,_,rfl,a5,d1,a6,TD,?_,?_⟩⟩
  .exact Xl
  .simp only[eG];exact Cl H.toList us ds n k x Ge RS bc Fz Z)
 have a3:=zH (show w.grownBy (G.drew.setCells w.heap.size (k+1) ds) none from
  ⟨d2.os.trans (c2.os.trans I.os),d2.tape.trans (c2.tape.trans I.tape),d2.output.trans (c2.output.trans I.output),aR I.size (aR c2.size d2.size),fun q O _=>
   (d2.block q (dI O (aR I.size c2.size)) RS).trans ((c2.block q (dI O I.size) RS).trans (T q O))⟩)
 have ca:¬((1:Int)=0):=Rr;have cb:¬((k:Int)=(n:Int)):=Rr;have cc:(n:Int) < (n:Int)+1:=Rr;have b5:k<=n:=Rr;have b9:IntKind.i64.wrap ((k:Int)+1)=(k:Int)+1:=Sq;have b2:(0:Int)<=(k:Int)+1:=Rr;have b8:((k:Int)+1).toNat=k+1:=Rr;have b0:¬(D=k):=Rr;have b1:¬(D=k+1):=Rr;have b4:¬(n=k):=Rr;have b3:(k:Int)<=(n:Int)+1:=Rr;clear Ge ad Fo R Y hi Fe Fz Gg JH ab EG T I a0 JG c1 c2 d1 d2 am JJ JF ba hv a1 hG JE JI Z ao bg;go_enter func261,ntmps261
 go_wp2_with (first
  |(at_builtin;refine Lib.wpList_append_run _ rfl (.tmp 34) (.tmp 39) _ _ rfl _ _ rfl rfl _ _ (bi _) ?_)
  |(with_reducible refine kK _ rfl (.tmp 43) (.tmp 44) 55 55 rfl _ _ rfl rfl (ac _ _) ?_))
 go_region_law (refine mK rfl (.tmp 50) (.tmp 53) 55 55 rfl _ _ Uf Uf (a8 _ _ _) ?_)
 go_wp2;go_ret
 exact⟨D,rfl,a4.o,a3.o⟩
theorem rR(B n h:Nat)(i:Int)(v:ax)(us:bU)(x:ax)(w:aa)(D:w.ownsRow B 26 1 v n us)(J:∀u∈us,u.oneCell'=true)(I:x.oneCell'=true)(H:aW w h #[x] 26)(T:v.ownBlock≠some h)(hi:0<=i)(V:i<=n)(F:n<=1048576)(N:B<=w.heap.size):aw 261 #[v,i,.slice (some ⟨h,0,none⟩) 1 1] w fun e w'=>∃g cap,e=.returned (.slice (some ⟨g,0,none⟩) (n+1) cap)/\w'.ownsRow B 26 1 (.slice (some ⟨g,0,none⟩) (n+1) cap) (n+1) (cf us i.toNat x)/\w.grownBy w' v.ownBlock/\(v.ownBlock=some g∨w.heap.size<=g):=by
 by_cases R:i=n
 .subst R;rw[Int.toNat_natCast];exact vC B n h v us x w D I H F N
 .have O:i<n:=Rr;obtain⟨g,cap,rfl,_,_⟩:=D.form Rr;by_cases U:n+1<=cap
  .refine(sU B g n cap h i us x w D J I H (by intro e;subst e;exact T rfl) hi O U F).mono ?_;exact WK
  .refine(ue B g n cap h i us x w D J I H hi O Rr F N).mono ?_;exact YF
theorem tmod_neg{a:Int}(H:a<0)(G:0<p):-p<a.tmod p/\a.tmod p<=0/\(a.tmod p<0->a%p=a.tmod p+p)/\(a.tmod p=0->a%p=0):=by
 have e:a.tmod p=-((-a)%p):=by have:=Int.neg_tmod (-a) p;rw[Int.neg_neg]at this;rw[this,DW Rr]
 have I:=gU (-a) (Rr:p≠0);have J:=gV (-a) G;refine⟨Rr,Rr,fun N=>?_,fun D=>?_⟩
 .have F:a%p=(a.tmod p+p)%p:=by
   have:=Int.tmod_add_mul_tdiv a p;have h:a=a.tmod p+p*a.tdiv p:=this.symm;conv=>lhs;rw[h]
   simp
  rw[F,qB Rr Rr]
 .have h:a=a.tmod p+p*a.tdiv p:=(Int.tmod_add_mul_tdiv a p).symm;rw[h,D];simp
theorem zcw(p a:Int)(w:aa)(Z:1<=p)(ab:p<=1000)(U:-9000000000000000000<=a)(V:a<=9000000000000000000):aw 127 (bf p a) w fun e w'=>e=.returned (.int .i64 (a%p))/\w=w':=by
 by_cases O:0<=a
 .have R:=gU a (Rr:p≠0);have T:=gV a (Rr:0<p);go_enter func127,ntmps127
  exact Wn
 .obtain⟨J,N,D,F⟩:=tmod_neg (Rr:a<0) (Rr:0<p);obtain⟨m,h⟩:=aM (a.tmod p);rw[<-h]at J N D F;obtain⟨G,H⟩:=bD D F;clear D F;have Y:a.tmod p=m:=h.symm;clear h;by_cases I:m<0
  .go_enter func127,ntmps127
   go_wp2;go_ret
   exact⟨by rw[G.o I];rfl,rfl⟩
  .obtain rfl:m=0:=Rr;go_enter func127,ntmps127
   go_wp2;go_ret
   exact⟨by rw[show a%p=0 from by simpa using H.o];rfl,rfl⟩
theorem zhm{b y:Int}(D:-1000000<=b)(F:b<=1000000)(h:0<=y)(I:y<=1000):-1000000000<=b*y/\b*y<=1000000000:=by have G:=DT D h;have H:=DT F h;omega
theorem zff(D:ag W w')(h:aW W b cs t)(j:Nat):w'.cell? ⟨b,j,none⟩=cs.toList[j]?:=a_ ((D.block b (aT.1 h).1).trans h) j
theorem zhn(D:ag W w')(h:aW W b cs t)(j:Nat):w'.frozen? ⟨b,j,none⟩=false:=aK ((D.block b (aT.1 h).1).trans h) j
theorem cH(D:ag W w')(h:aW W b cs t):aW w' b cs t:=(D.block b (aT.1 h).1).trans h
theorem cm(w:aa)(h D F:Obj):(((w.alloc h).alloc D).alloc F).heap[w.heap.size]?=some h/\(((w.alloc h).alloc D).alloc F).heap[w.heap.size+1]?=some D/\(((w.alloc h).alloc D).alloc F).heap[w.heap.size+1+1]?=some F:=⟨(bJ _ _ Sp).trans ((bJ _ _ Rq).trans (aC _ _ rfl)),(bJ _ _ Rq).trans (aC _ _ Rq),aC _ _ Rq⟩
theorem below_alloc3(w:aa)(h D F:Obj):Below w.heap.size w (((w.alloc h).alloc D).alloc F):=((aj _ _).alloc Rq _ |>.alloc Rq _).alloc Sp _
theorem bV{a p:dk}(h:p.block≠a.block):(w.setCell a u).cell? p=w.cell? p:=v_ (w:=w) (aZ _ _ _ _ h)
theorem kO{a p:dk}(h:p.block≠a.block):(w.setCell a u).drew.cell? p=w.cell? p:=bV h
theorem eV{a p:dk}(h:p.block≠a.block):(w.drew.setCell a u).cell? p=w.cell? p:=bV h
def rK(p b:Int)(xs ys:aH)(k:Nat):List Int:=(List.zipWith (fun x y=>(x+b*y)%p) xs ys).take k++xs.drop k
def dD(p b:Int)(xs ys:aH):List Int:=List.zipWith (fun x y=>(x+b*y)%p) xs ys
theorem Ay(p b:Int)(xs ys:aH):rK p b xs ys 0=xs:=by simp[rK]
theorem Cy(p b:Int)(xs ys:aH)(h:xs.length=ys.length)(k:Nat)(D:ys.length<=k):rK p b xs ys k=dD p b xs ys:=by unfold rK dD;rw[cY RS,iN Rr,k9]
theorem Cz(p b:Int)(xs ys:aH)(k:Nat)(D:k<ys.length)(h:xs.length=ys.length):(rK p b xs ys k)[k]?=xs[k]?:=by unfold rK;exact Wx
theorem CA(p b:Int)(xs ys:aH)(k:Nat)(x y:Int)(hx:xs[k]?=some x)(h:ys[k]?=some y):(rK p b xs ys k).set k ((x+b*y)%p)=rK p b xs ys (k+1):=by
 have h1:=(bG.1 hx).1;have H:=(bG.1 h).1;have G:(List.zipWith (fun x y=>(x+b*y)%p) xs ys)[k]?=some ((x+b*y)%p):=by rw[D0,hx,h]
 unfold rK;rw[lI _ _ RS,dH,G];have D:xs.drop k=x::xs.drop (k+1):=Ww;have F:k-((List.zipWith (fun x y=>(x+b*y)%p) xs ys).take k).length=0:=RS;rw[D,F,oM];simp
theorem pR(p b:Int)(B g cap ao:Nat)(I:aq)(xs ys:aH)(w:aa)(a3:1<=p)(a4:p<=1000)(ap:-1000000<=b)(a0:b<=1000000)(R:w.ownsRow B 3 1 (.slice (some ⟨g,0,none⟩) xs.length cap) xs.length (xs.map (Value.int .i64)))(T:aJ w I ys)(U:∀b o,I=some ⟨b,o,none⟩->b≠g)(Y:xs.length=ys.length)(a2:xs.length<=1048576)(h:∀x∈xs,0<=x/\x<=1000)(D:∀y∈ys,0<=y/\y<=1000):aw 176 #[p,.slice (some ⟨g,0,none⟩) xs.length cap,b,.slice I ys.length ao] w fun e w'=>e=.returned (.tuple #[])/\w'.ownsRow B 3 1 (.slice (some ⟨g,0,none⟩) xs.length cap) xs.length ((dD p b xs ys).map (Value.int .i64))/\w.grownBy w' (some g):=by
 obtain⟨ab,J,ad,am⟩:=fU R Y h D;have bb:ys.length<9223372036854775807:=Rr;clear R Y h D a2;go_enter func176,ntmps176
 go_wp2;go_loopw [12] (fun i wr=>∃k:Nat,k<=ys.length/\i=.int .i64 k/\wr.ownsRow B 3 1 (.slice (some ⟨g,0,none⟩) xs.length cap) xs.length ((rK p b xs ys k).map (Value.int .i64))/\w.grownBy wr (some g))
  (fun i _=>ys.length-(intOf i).toNat)
 case atStart=>exact⟨0,aX _,rfl,by rw[Ay];exact ab.o,⟨rfl,rfl,rfl,af _,fun _ _ _=>rfl⟩⟩
 case round=>
  obtain⟨k,ba,rfl,F,G⟩:=hrel;by_cases N:k<ys.length
  .have a1:k<xs.length:=by have:=J.o;omega
   obtain⟨x,h⟩:=aB a1;obtain⟨y,D⟩:=aB N;obtain⟨O,o,rfl,V⟩:=T.here N;have a8:ae wr O (o+k) (.int .i64 y):=G.cell (V _ _ D) (by have:=U O o rfl;simpa using this);have a7:ae wr g k (.int .i64 x):=by rw[F.cellAt k Rr,cC,Cz _ _ _ _ _ N J.o,h];rfl
   have a9:=F.frozenAt k;obtain⟨bg,bi⟩:=ad.o x (aY h);obtain⟨a5,a6⟩:=am.o y (aY D);obtain⟨bc,bd⟩:=zhm ap a0 a5 a6;have H:=F.stored k (.int .i64 ((x+b*y)%p));rw[<-fh,CA _ _ _ _ _ _ _ h D]at H;obtain⟨ac,Z⟩:=bD H.1 (bN G H.2);clear H h D V F G T U;go_wp2_with (go_at_call 127;refine(zcw _ _ _ a3 a4 Rr Rr).mono ?_;rintro e w' ⟨rfl,rfl⟩)
   go_roundw
   case rel=>exact⟨k+1,Rr,Rt,ac.o,Z.o⟩
   case measure=>simp[intOf];omega
  .go_wp2;go_end0
   rw[Cy _ _ _ _ J.o _ Rr]at F;exact⟨rfl,F,G⟩
theorem zgF{S:iT}(hi:ops.toList[i]?=some Rb)(J:Region.noSelect ops=true)(G:Region.free QU ops Rm i=true)(I:(Region.ready QU ops Rm).contains i=true)(N:YieldsIf P ops S Rb v a)(F:S w)(h:wpAnyH P QU ops (fun e a w=>Q e a w) S H (Rm.setIfInBounds i true) (a.put Rb.dst v) w)(D:∀c a w,Q (.panic c) (a.put Rb.dst v) w->Q (.panic c) a w:=by exact fun _ _ _ h=>h):wpAnyH P QU ops Q S (H+1) Rm a w:=wpAnyH_take (by rw[<-oV];exact hi) J G I D N F h
theorem dB{S:iT}(i:Nat)(hi:ops.toList[i]?=some Rb)(N:YieldsIf P ops S Rb v a)(h:wpAnyH P QU ops (fun e a w=>Q e a w) S H (Rm.setIfInBounds i true) (a.put Rb.dst v) w)(J:Region.noSelect ops=true:=by kernel_rfl)(G:Region.free QU ops Rm i=true:=by kernel_rfl)(I:(Region.ready QU ops Rm).contains i=true:=by kernel_rfl)(F:S w:=by assumption)(D:∀c a w,Q (.panic c) (a.put Rb.dst v) w->Q (.panic c) a w:=by exact fun _ _ _ h=>h):wpAnyH P QU ops Q S (H+1) Rm a w:=zgF hi J G I N F h D
theorem ep{S:iT}(i:Nat)(h:wpAnyH P QU ops (fun e a w=>Q e a w) S H (Rm.setIfInBounds i true) (a.put Rb.dst v) w)(hi:ops.toList[i]?=some Rb:=by rfl)(I:Region.wanted Rb (yielded ops a.tmps)=true:=by rfl)(O:∀w,S w->(execOp a.eval Rb).run P w=.ok (.value v) w:=by intro w h;(try dsimp only at h);go_simp;(try with_reducible rfl))(N:Region.noSelect ops=true:=by kernel_rfl)(G:Region.free QU ops Rm i=true:=by kernel_rfl)(J:(Region.ready QU ops Rm).contains i=true:=by kernel_rfl)(F:S w:=by assumption)(D:∀c a w,Q (.panic c) (a.put Rb.dst v) w->Q (.panic c) a w:=by exact fun _ _ _ h=>h):wpAnyH P QU ops Q S (H+1) Rm a w:=zgF hi N G J (au ⟨I,O⟩) F h D
theorem mA{S:iT}{rs:bO}(ho:ops.toList[i]?=some o)(D:∀h:mE,Shut (∀a w,S w->(S w->wpAnyH P QU ops Q S H (Rm.setIfInBounds i true) a w)->h a w)->if Region.wanted o (yielded ops a.tmps)=true then Oper.wp P o a w h Q else h (a.put o.dst undef) w)(F:AllReadyH P QU ops Q S H Rm a w rs):AllReadyH P QU ops Q S H Rm a w (i::rs):=AllReadyH.cons Tf D F
def sw(i j k:Nat):Nat:=if k=j then i else if k=i then j else k
theorem zhh{l:Nat}(h:sw i j k=sw i j l):k=l:=by unfold sw at h;split at h<;>split at h<;>(try split at h)<;>(try split at h)<;>omega
theorem Ae{G:Type}{l:List G}{x y:G}(hi:l[i]?=some x)(F:l[j]?=some y)(k:Nat):((l.set i y).set j x)[k]?=l[sw i j k]?:=by
 have hi':=(bG.1 hi).1;have H:=(bG.1 F).1;unfold sw;by_cases h:k=j
 .subst h;rw[ay rfl,fB (by simpa using H),hi]
 .rw[av h,eF (lK h)];by_cases D:k=i
  .subst D;rw[ay rfl,fB hi',F]
  .rw[av D,eF (lK D)]
theorem bC.mono{w:aa}{B B':Nat}{v:ax}{rows:aN}{us:bU}(h:bC w B v rows us)(H:B'<=B):bC w B' v rows us:=⟨⟨h.outer.1,h.outer.2.imp id fun⟨g,cap,G,D,N,F⟩=>⟨g,cap,G,D,Rr,F⟩⟩,fun k u r J I=>(h.each k u r J I).mono H,h.apart⟩
theorem bC.swap{g cap:Nat}{rows:aN}(Y:n=rows.length)(D:bC w B (.slice (some ⟨g,0,none⟩) n cap) rows us)(hi:us[i]?=some R)(I:us[j]?=some T)(Z:rows[i]?=some QS)(ab:rows[j]?=some QJ):bC ((w.setCell ⟨g,i,none⟩ T).setCell ⟨g,j,none⟩ R) B (.slice (some ⟨g,0,none⟩) n cap) ((rows.set i QJ).set j QS) ((us.set i T).set j R):=by
 subst Y;have F:=D.outer.stored i T;have G:=F.1.stored j R;refine⟨by simpa using G.1,fun k u r h N=>?_,fun k l u ac b h O U V=>?_⟩
 .rw[Ae hi I]at h;rw[Ae Z ab]at N;have J:=D.each _ u r h N;have H:=eT D.outer J;exact aD.kept (aD.kept J F.2 H) G.2 H
 .rw[Ae hi I]at h O;exact zhh (D.apart _ _ u ac b h O U V)
theorem fv(F:w.ownsRow B 26 1 v n us)(D:aD w B' u xs):v.ownBlock=none∨v.ownBlock≠u.ownBlock:=by
 rcases eT F D with h|h
 .rw[h];cases v.ownBlock <;>simp
 .exact an (lK h)
theorem bC.mod{rows:aN}(D:bC w B v rows us)(J:us[k]?=some u)(V:w.grownBy w' u.ownBlock)(ab:aD w' B R r')(Y:∀b,R.ownBlock=some b->u.ownBlock=some b∨w.heap.size<=b):w'.ownsRow B 26 1 v rows.length us/\(∀(j:Nat) (x:ax) (r:aH),(us.set k R)[j]?=some x->(rows.set k r')[j]?=some r->aD w' B x r)/\(∀(i j:Nat) (x y:ax) (b:Nat),(us.set k R)[i]?=some x->(us.set k R)[j]?=some y->x.ownBlock=some b->y.ownBlock=some b->i=j):=by
 obtain⟨ad,ac,Z⟩:=D.kC J;have N:=(bG.1 J).1;have other:∀(i:Nat) (x:ax) (b:Nat),i≠k->us[i]?=some x->x.ownBlock=some b->R.ownBlock=some b->False:=fun i x b hi h F I=>by
  obtain⟨am,_,T⟩:=D.kC h;rcases Y b I with U|U
  .exact hi (D.apart i k x u b h J F U)
  .have:=(T.lt b F).2;omega
 refine⟨ik D.outer V (fv D.outer Z),fun j x r h O=>?_,fun i j x y b h H F I=>?_⟩
 .by_cases G:k=j
  .subst G;rw[fB N]at h;rw[fB (by rw[<-D.len];exact N)]at O;cases h;cases O;exact ab
  .rw[eF G]at h O;have T:=D.each j x r h O;refine T.kept V ?_;rcases F:x.ownBlock with _|b
   .exact au rfl
   .refine an fun e=>G (D.apart k j u x b J h e.symm F)
 .by_cases hi:k=i <;>by_cases G:k=j
  .omega
  .subst hi;rw[fB N]at h;rw[eF G]at H;cases h
   exact(other j y b (lK G) H I F).elim
  .subst G;rw[fB N]at H;rw[eF hi]at h;cases H
   exact(other i x b (lK hi) h F I).elim
  .rw[eF hi]at h;rw[eF G]at H;exact D.apart i j x y b h H F I
theorem kb{F:Type}{l:List F}{x:F}(h:l[k]?=some x):l.set k x=l:=by
 apply gS;intro j;by_cases D:k=j
 .subst D;rw[fB (bG.1 h).1,h]
 .rw[eF D]
theorem bC.inner{rows:aN}(H:bC w B v rows us)(F:us[k]?=some u)(J:w.grownBy w' u.ownBlock)(N:aD w' B u r'):bC w' B v (rows.set k r') us:=by
 obtain⟨G,h,D⟩:=H.mod F J N fun b I=>au I
 rw[kb F]at h D;exact⟨by simpa using G,h,D⟩
theorem bC.put{g cap:Nat}{rows:aN}(U:n=rows.length)(J:bC w B (.slice (some ⟨g,0,none⟩) n cap) rows us)(T:us[k]?=some u)(O:w.grownBy w' u.ownBlock)(V:aD w' B R r')(N:∀b,R.ownBlock=some b->u.ownBlock=some b∨w.heap.size<=b):bC (w'.setCell ⟨g,k,none⟩ R) B (.slice (some ⟨g,0,none⟩) n cap) (rows.set k r') (us.set k R):=by subst U;obtain⟨h,D,I⟩:=J.mod T O V N;have G:=h.stored k R;exact⟨by simpa using G.1,fun j x r H F=>(D j x r H F).kept G.2 (eT h (D j x r H F)),I⟩
theorem so{h:Type}(l:List h)(k j:Nat):(l.eraseIdx k)[j]?=l[if j<k then j else j+1]?:=by rw[List.getElem?_eraseIdx];split <;>rfl
theorem bC.erase{g cap:Nat}{rows:aN}(D:bC w B (.slice (some ⟨g,0,none⟩) n cap) rows us)(R:k<rows.length)(I:w'.ownsRow B 26 1 (.slice (some ⟨g,0,none⟩) (rows.length-1) H) (rows.length-1) (us.eraseIdx k))(O:w.grownBy w' (some g)):bC w' B (.slice (some ⟨g,0,none⟩) (rows.length-1) H) (rows.eraseIdx k) (us.eraseIdx k):=by
 refine⟨by rw[wC R];exact I,fun j x r h F=>?_,fun i j x y b h G J N=>?_⟩
 .rw[so]at h F;exact(D.each _ x r h F).kept O (eT D.outer (D.each _ x r h F))
 .rw[so]at h G;have:=D.apart _ _ x y b h G J N;split at this <;>split at this <;>omega
theorem jr{h:Type}(l:List h)(k:Nat)(x:h)(D:k<=l.length):(l.take k++x::l.drop k).length=l.length+1:=Sp
theorem xG{G:Type}(l:List G)(k j:Nat)(x:G)(D:k<=l.length):(l.take k++x::l.drop k)[j]?=if j<k then l[j]? else if j=k then some x else l[j-1]?:=by
 by_cases h:j<k
 .rw[ay h,df Sp,List.getElem?_take_of_lt h]
 .rw[av h,ef Sp];by_cases F:j=k
  .subst F;rw[ay rfl];simp[gR D]
  .rw[av F];obtain⟨m,rfl⟩:∃m,j=k+1+m:=⟨j-(k+1),Rr⟩;have H:k+1+m-(l.take k).length=m+1:=by simp[gR D];omega
   have I:k+1+m-1=k+m:=Rr;rw[H,I,cP,eX]
theorem bC.insert{r:aH}{rows:aN}(h:bC J B v rows us)(hb:ag J w)(I:aD w J.heap.size u r)(O:B<=J.heap.size)(hk:k<=rows.length)(T:w'.ownsRow B 26 1 R (rows.length+1) (cf us k u))(GZ:w.grownBy w' v.ownBlock):bC w' B R (rows.take k++r::rows.drop k) (cf us k u):=by
 have hW:=h.ext hb;have N:k<=us.length:=Tl;have new:∀(i:Nat) (x:ax) (b:Nat),us[i]?=some x->x.ownBlock=some b->u.ownBlock=some b->False:=fun i x b hx hb LR=>by obtain⟨rx,_,U⟩:=h.kC hx;have:=(U.lt b hb).2;have:=(I.lt b LR).1;omega
 refine⟨by rw[jr _ _ _ hk];exact T,fun j x rx hx hr=>?_,fun i j x y b hx hy hb LR=>?_⟩
 .rw[cf,xG _ _ _ _ N]at hx;rw[xG _ _ _ _ hk]at hr;by_cases F:j<k
  .rw[ay F]at hx hr;exact Xn
  .rw[av F]at hx hr;by_cases G:j=k
   .rw[ay G]at hx hr;cases hx;cases hr
    exact(I.kept GZ (eT hW.outer I)).mono O
   .rw[av G]at hx hr;exact Xn
 .rw[cf,xG _ _ _ _ N]at hx hy;by_cases F:i<k <;>by_cases G:j<k
  .rw[ay F]at hx;rw[ay G]at hy;exact h.apart _ _ x y b hx hy hb LR
  .rw[ay F]at hx;rw[av G]at hy;by_cases D:j=k
   .rw[ay D]at hy;cases hy;exact(new i x b hx hb LR).elim
   .rw[av D]at hy;exact Wt
  .rw[av F]at hx;rw[ay G]at hy;by_cases D:i=k
   .rw[ay D]at hx;cases hx;exact(new j y b hy LR hb).elim
   .rw[av D]at hx;exact Wt
  .rw[av F]at hx;rw[av G]at hy;by_cases D:i=k <;>by_cases H:j=k
   .omega
   .rw[ay D]at hx;rw[av H]at hy;cases hx;exact(new _ y b hy LR hb).elim
   .rw[av D]at hx;rw[ay H]at hy;cases hy;exact(new _ x b hx hb LR).elim
   .rw[av D]at hx;rw[av H]at hy;exact Wt
theorem j5{cap:Nat}{rows:aN}(h:bC w B (.slice A n cap) rows us)(G:0<rows.length):∃g,A=some ⟨g,0,none⟩/\B<=g/\g<w.heap.size:=by obtain⟨g,H,e,D,F⟩:=h.outer.form G;simp only[dW]at e;exact⟨g,e.1,D,F⟩
theorem kh{cap:Nat}(h:aD w B (.slice A n cap) xs)(G:0<xs.length):∃g,A=some ⟨g,0,none⟩/\B<=g/\g<w.heap.size:=by obtain⟨g,H,e,D,F⟩:=kn h G;simp only[dW]at e;exact⟨g,e.1,D,F⟩
def mC(p b:Int)(xs:aH)(k:Nat):List Int:=(xs.map fun x=>x*b%p).take k++xs.drop k
def iZ(p b:Int)(xs:aH):List Int:=xs.map fun x=>x*b%p
theorem tW(p b:Int)(xs:aH):mC p b xs 0=xs:=by simp[mC]
theorem xA(p b:Int)(xs:aH)(k:Nat)(hk:xs.length<=k):mC p b xs k=iZ p b xs:=by unfold mC iZ;rw[cY Sh,iN hk,k9]
theorem xB(p b:Int)(xs:aH)(k:Nat)(h:k<xs.length):(mC p b xs k)[k]?=xs[k]?:=by unfold mC;exact Wx
theorem xC(p b:Int)(xs:aH)(k:Nat)(x:Int)(hx:xs[k]?=some x):(mC p b xs k).set k (x*b%p)=mC p b xs (k+1):=by have h1:=(bG.1 hx).1;unfold mC;rw[lI _ _ RS,dH];have h:xs.drop k=x::xs.drop (k+1):=Ww;have D:k-((xs.map fun x=>x*b%p).take k).length=0:=RS;rw[h,D,oM];simp[hx]
theorem zaH(a b p v h:Int)(A:aq)(cap:Nat)(rows:aN)(w:aa)(a2:bk w A rows)(cI:rows.length<=160)(EM:∀r∈rows,r.length<=1000)(c0:1<=p)(c3:p<=1000)(co:0<=a)(cp:a<rows.length)(hb:0<=b)(b4:b<=1000)(hx:∀r∈rows,∀x∈r,0<=x/\x<=1000):aw 249 (gQ (bf a b) p (ar v h A rows cap)) w fun e w'=>∃u,e=.returned (.agg (dK v h u))/\aU w' w.heap.size u (rows.set a.toNat (iZ p b (rows.getD a.toNat [])))/\ag w w':=by
 obtain⟨D,Fk⟩:=aB (Rr:a.toNat<rows.length);obtain⟨bc,bq⟩:=bD (TN:rows.getD a.toNat []=D) (show ∀x∈D,0<=x/\x<=1000 from hx D (aY Fk));have c4:D.length<=1000:=EM D (aY Fk);clear hx;obtain⟨bg,bi⟩:=bD (Rr:rows.length<=1048576) (show ∀r∈rows,r.length<=1048576 from fun r hr=>T3);go_enter func249,ntmps249
 go_wp2_with fail
 refine(kH _ _ _ _ _ _ (a2.ext (((aj _ _).alloc Rq _ |>.alloc Rq _).alloc Sp _)) bg.o bi.o).mono ?_;rintro e G ⟨u,rfl,⟨us,hu⟩,Y⟩;obtain⟨N,I,rfl,_,_,_⟩:=aU.view ⟨us,hu⟩;obtain⟨a9,ba,bb⟩:=cm w (.cells (bf a b) 231) (.cells (ar v h A rows cap) 57) (.cells bj 57);have b7:=Y.size;simp only[dt]at b7;go_upto_region 2 with(fail)
 obtain⟨H,EJ⟩:=aM (G.alloc (.cells (ar v h N rows I) 57));rw[<-EJ];have ad:ag G H:=Vj;have c5:H.heap.size=G.heap.size+1:=So;have R:=Y.trans (ad.mono Y.size);have ao:aW H G.heap.size (ar v h N rows I) 57:=Uo;have a6:=cH R a9;have b8:=cH R ba;have a7:=cH R bb;have Fa:bC H (w.heap.size+3) (.slice N rows.length I) rows us:=(hu.ext ad).mono Rq;have a5:∀g',N=some ⟨g',0,none⟩->g'<G.heap.size:=fun g' e=>U8
 have a4:∀(k:Nat) (x:ax),us[k]?=some x->∀b,x.ownBlock=some b->b<G.heap.size:=fun k x hx b hb=>VA
 have a3:ag w H:=(below_alloc3 w _ _ _).trans (R.mono Sp);clear hu Y ad R a2 EM a9 ba bb EJ;obtain⟨c7,Fx,Z⟩:=Fa.get Fk;obtain⟨g,b5,ct,cA⟩:∃g,N=some ⟨g,0,none⟩/\w.heap.size+3<=g/\g<H.heap.size:=j5 Fa Rr;subst b5;have cB:=a5 g rfl;obtain⟨V,J,rfl,a1,_⟩:=Z.view;obtain⟨ac,T⟩:=zbE a6;have U:=a_ ao 2;simp only[cZ,cP]at ac T U;have ap:ae H g a.toNat (.slice V D.length J):=Vg;obtain⟨bo,bd,bp,GR,cb,ca,br,bu,a0,Ga⟩:=zhJ Fa a3 Fx Z Fk a1 a7 ao (a4 _ _ Fx) (fv Fa.outer Z);clear Fa a3 Fx Z Fk a1 a5 a4 a6 b8 a7 ao;go_wp2;go_loopw [19] (fun i wr=>∃k:Nat,k<=D.length/\i=.int .i64 k/\wr.ownsRow (w.heap.size+3) 3 1 (.slice V D.length J) D.length ((mC p b D k).map (Value.int .i64))/\H.grownBy wr (Value.slice V D.length J).ownBlock)
  (fun i _=>D.length-(intOf i).toNat)
 case atStart=>exact⟨0,aX _,rfl,Tx,⟨rfl,rfl,rfl,af _,fun _ _ _=>rfl⟩⟩
 case round=>
  obtain⟨k,cF,rfl,EF,F⟩:=hrel;by_cases EH:k<D.length
  .obtain⟨x,hx⟩:=aB EH;obtain⟨O,rfl,cu,_⟩:=kh GR.o Rr;have cz:=a0.o O rfl;have cO:g≠O:=Xb;have c8:ae wr w.heap.size 0 (.int .i64 a):=F.cell ac Uu;have c9:ae wr w.heap.size 1 (.int .i64 b):=F.cell T Uu;have db:ae wr G.heap.size 2 (.slice (some ⟨g,0,none⟩) rows.length I):=F.cell U Uu;have dc:ae wr g a.toNat (.slice (some ⟨O,0,none⟩) D.length J):=F.cell ap Uu;have cq:ae wr O k (.int .i64 x):=WL;have cr:=EF.frozenAt k;obtain⟨T,U⟩:=bq.o x (aY hx);have b9:0<=x*b:=y_ T hb;have c6:x*b<=1000000:=by have:=Int.mul_le_mul U b4 hb Rr;omega
   have ab:=EF.stored k (.int .i64 (x*b%p));rw[<-fh,xC _ _ _ _ _ hx]at ab;obtain⟨HS,HG⟩:=bD ab.1 (bN F ab.2);have cj:=gU (x*b) (Rr:p≠0);have ck:=gV (x*b) (Rr:0<p);have ci:¬p=0:=Rr;have cn:(x*b).tmod p=x*b%p:=DW b9;clear ab hx EF F ac ap;go_wp2_with fail
   go_region_held3 (fun w'=>ae w' w.heap.size 0 (.int .i64 a)/\ae w' w.heap.size 1 (.int .i64 b)/\ae w' G.heap.size 2 (.slice (some ⟨g,0,none⟩) rows.length I)/\ae w' g a.toNat (.slice (some ⟨O,0,none⟩) D.length J))
    (first|(simp[*];done)|(refine⟨?_,?_,?_,?_⟩<;>(first|(refine(eV Sp).trans ?_;assumption)|(refine(kO Sp).trans ?_;assumption)))) (fail)
   exact Ym
  .have GP:∀b,(Value.slice V D.length J).ownBlock=some b->w.heap.size+3<=b/\b<G.heap.size:=fun b hb=>⟨(bL GR.o b hb).1,a0.o b hb⟩
   have a8:=(F.block G.heap.size Rr (fun e=>Ut)).trans bu.o;have am:=(F.block (w.heap.size+1+1) Rr (fun e=>Ut)).trans br.o;have b6:k=D.length:=Rr;subst b6;have HO:=zH (show aU wr (w.heap.size+3) (.slice (some ⟨g,0,none⟩) rows.length I) (rows.set a.toNat (iZ p b (rows.getD a.toNat []))) from
    ⟨_,bo.o.inner bp.o F (by rw[bc.o,<-xA p b D D.length (af _)];unfold aD;rw[show(mC p b D D.length).length=D.length by simp[mC]];exact EF)⟩)
   have HE:=zH (bd.o.grown F Rr fun b hb=>Ud);clear EF F GP ac T U ap;obtain⟨bv,bz,b0⟩:=bS a8;obtain⟨b1,b2,b3⟩:=bS am;obtain⟨cc,ce,ch⟩:=bR am;simp only[cZ,cP]at bv bz b0 b1 b2 b3;clear a8 am;go_wp2;refine aE (v:=.agg (ar v h (some ⟨g,0,none⟩) rows I)) (by simp[results,results249,go_sem, *]) rfl ⟨_,rfl,?_,?_⟩
   .exact Yp
   .exact X_
section
variable{P:iU}{ops:gP}{Q:gj}{md:Region.Mode}{S:iT}
def pS(P:iU)(md:Region.Mode)(ops:gP)(Q:gj)(S:iT)(n:Nat):Nat->Array Bool->Act->World->Prop
 |0,h,a,w=>Region.ready md ops h=[]/\Q .normal a w
 |F+1,h,a,w=>
  (Region.ready md ops h=[]->Q .normal a w)/\
  ∀i∈Region.ready md ops h,wpOp P ops Q i (fun D w'=>(i<n->S w')/\pS P md ops Q S n F (h.setIfInBounds i true) D w') a w
theorem zaA{n:Nat}:∀(h:Nat) (F:ml) (a:Act) (w:aa),pS P md ops Q S n h F a w->wpAny P md ops Q h F a w
 |0,_,_,_,D=>D
 |h+1,_,_,_,D=>⟨D.1,fun i hi=>wpOp_mono (fun G w' H=>zaA h _ G w' H.2) (D.2 i hi)⟩
theorem zbS(hi:ops[i]?=some Rb)(am:∀(j:Nat) (o:fR) cs b,ops[j]?=some o->o.op≠.select cs b)(a1:∀c a w,Q (.panic c) (a.put Rb.dst v) w->Q (.panic c) a w)(bg:Region.sinkB md ops n=true)(a4:Region.chainB md ops n=true)(bb:n<ops.size)(a8:i<n):∀(N:Nat) (h:ml) (a:Act) (w:aa),HeadInv md ops n h->(∀j H,ops[j]?=some H->j≠i->h.getD j true=false->(∀e∈H.after,Region.binds md e=true->e.on≠i)->Rb.apart ops H=true)->i∈Region.ready md ops h->YieldsIf P ops S Rb v a->S w->pS P md ops Q S n N (h.setIfInBounds i true) (a.put Rb.dst v) w->pS P md ops Q S n (N+1) h a w:=by
 intro N;induction N with
 |zero=>
  intro h a w _ _ G V O J;refine⟨fun F=>(by rw[F]at G;cases G),fun j I=>?_⟩;by_cases D:j=i
  .subst D;exact V.wpOp hi O ⟨fun _=>O,J⟩
  .have:=ready_mono I D;rw[J.1]at this;cases this
 |succ N ih=>
  intro h a w ao Z G V O J;refine⟨fun F=>(by rw[F]at G;cases G),fun j I=>?_⟩;have R:h.getD i true=false:=(mem_ready.1 G).1;have ac:j<n:=by
   rcases Nat.lt_or_ge j n with F|F
   .exact F
   .exact absurd I (tail_waits bg a4 bb ao (n-i) i rfl a8 R j F)
  by_cases D:j=i
  .subst D;exact V.wpOp hi O ⟨fun _=>O,J⟩
  .have T:=J.2 j (ready_mono I D);obtain⟨ad,H,Y,a2⟩:=mem_ready.1 I;have bd:∀e∈H.after,Region.binds md e=true->e.on≠i:=fun e a5 a3 a6=>by have T:=a2 e a5 a3;rw[a6,getD_both R]at T;cases T
   have a0:=wpOp_putIf Y (Z j H Y D ad bd) (fun cs b=>am i Rb cs b hi) (fun cs b=>am j H cs b Y) a1 V T;have a7:∀k ok,ops[k]?=some ok->k≠i->(h.setIfInBounds j true).getD k true=false->
     (∀e∈ok.after,Region.binds md e=true->e.on≠i)->Rb.apart ops ok=true:=fun k ok a9 ba R bc=>by
    refine Z k ok a9 ba ?_ bc;by_cases ab:j=k
    .subst ab;exact ad
    .rw[getD_set_ne true ab]at R;exact R
   refine wpOp_mono (fun ap w' U=>⟨U.2.1,ih (h.setIfInBounds j true) ap w' (ao.set I ac) a7 (ready_mono G (lK D)) U.1 (U.2.1 ac) ?_⟩) a0;rw[Array.setIfInBounds_comm _ _ D];exact U.2.2
def zaB(md:Region.Mode)(ops:gP)(n:Nat)(h:ml):Bool:=
 (h.size==ops.size)&&((List.range ops.size).all fun j=>!h.getD j false||(match ops.toList[j]? with|some D=>D.after.toList.all fun e=>!Region.binds md e||h.getD e.on false|none=>true))&&
 ((List.range ops.size).all fun t=>decide (t<n)||!h.getD t true)
theorem zbT(h:zaB md ops n Rm=true):HeadInv md ops n Rm:=by
 simp only[zaB,bE,mU,fZ,fi]at h;obtain⟨⟨F,G⟩,H⟩:=h;refine⟨F,fun j V D R e N I=>?_,fun t U T=>?_⟩
 .have O:=(aT.1 D).1;have:=G j O;rw[R,oV,D]at this;simp only[Bool.not_true,Bool.false_or,fZ]at this;have:=this e (by simpa using N);rw[I]at this;simpa using this
 .have:=H t T;have J:decide (t<n)=false:=RS;rw[J]at this;simpa using this
theorem zgJ(hi:ops.toList[i]?=some Rb)(V:Region.noSelect ops=true)(T:Region.free md ops Rm i=true)(U:(Region.ready md ops Rm).contains i=true)(D:(zaB md ops n Rm&&Region.sinkB md ops n&&Region.chainB md ops n&&decide (n<ops.size)&&decide (i<n))=true)(Y:YieldsIf P ops S Rb v a)(R:S w)(h:pS P md ops Q S n H (Rm.setIfInBounds i true) (a.put Rb.dst v) w)(O:∀c a w,Q (.panic c) (a.put Rb.dst v) w->Q (.panic c) a w:=by exact fun _ _ _ h=>h):pS P md ops Q S n (H+1) Rm a w:=by
 simp only[bE,bX]at D;obtain⟨⟨⟨⟨F,G⟩,I⟩,J⟩,N⟩:=D;have hi':ops[i]?=some Rb:=by rw[<-oV];exact hi
 exact zbS hi' (Region.noSelect_spec V) O G I J N H Rm a w (zbT F) (Region.free_spec hi' T) (by simpa using U) Y R h
theorem zfg(i:Nat)(hi:ops.toList[i]?=some Rb)(O:YieldsIf P ops S Rb v a)(h:pS P md ops Q S n H (Rm.setIfInBounds i true) (a.put Rb.dst v) w)(N:Region.noSelect ops=true:=by kernel_rfl)(I:Region.free md ops Rm i=true:=by kernel_rfl)(J:(Region.ready md ops Rm).contains i=true:=by kernel_rfl)(G:(zaB md ops n Rm&&Region.sinkB md ops n&&Region.chainB md ops n&&decide (n<ops.size)&&decide (i<n))=true:=by kernel_rfl)(F:S w:=by assumption)(D:∀c a w,Q (.panic c) (a.put Rb.dst v) w->Q (.panic c) a w:=by exact fun _ _ _ h=>h):pS P md ops Q S n (H+1) Rm a w:=zgJ hi N I J G O F h D
theorem aP(i:Nat)(h:pS P md ops Q S n H (Rm.setIfInBounds i true) (a.put Rb.dst v) w)(hi:ops.toList[i]?=some Rb:=by rfl)(J:Region.wanted Rb (yielded ops a.tmps)=true:=by rfl)(R:∀w,S w->(execOp a.eval Rb).run P w=.ok (.value v) w:=by intro w h;(try dsimp only at h);go_simp;(try with_reducible rfl))(O:Region.noSelect ops=true:=by kernel_rfl)(I:Region.free md ops Rm i=true:=by kernel_rfl)(N:(Region.ready md ops Rm).contains i=true:=by kernel_rfl)(G:(zaB md ops n Rm&&Region.sinkB md ops n&&Region.chainB md ops n&&decide (n<ops.size)&&decide (i<n))=true:=by kernel_rfl)(F:S w:=by assumption)(D:∀c a w,Q (.panic c) (a.put Rb.dst v) w->Q (.panic c) a w:=by exact fun _ _ _ h=>h):pS P md ops Q S n (H+1) Rm a w:=zgJ hi O I N G (au ⟨J,R⟩) F h D
theorem zit(hr:Region.ready md ops Rm=[i])(ho:ops.toList[i]?=some o)(G:∀h:mE,Shut (∀a w,(i<n->S w)->((i<n->S w)->pS P md ops Q S n H (Rm.setIfInBounds i true) a w)->h a w)-> if Region.wanted o (yielded ops a.tmps)=true then Oper.wp P o a w h Q else h (a.put o.dst undef) w):pS P md ops Q S n (H+1) Rm a w:=by refine⟨fun h0=>TW,fun j D=>?_⟩;rw[hr]at D;simp only[dQ,gu,gI]at D;subst D;exact wpOp_step Tf (fun h hK=>G h (fun a w F I=>hK a w ⟨F,I F⟩))
theorem cw(i:Nat)(D:∀h:mE,Shut (∀a w,(i<n->S w)->((i<n->S w)->pS P md ops Q S n H (Rm.setIfInBounds i true) a w)->h a w)->if Region.wanted o (yielded ops a.tmps)=true then Oper.wp P o a w h Q else h (a.put o.dst undef) w)(G:Region.ready md ops Rm=[i]:=by kernel_rfl)(F:ops.toList[i]?=some o:=by rfl):pS P md ops Q S n (H+1) Rm a w:=zit G F D
theorem gN(D:Region.ready md ops Rm=[])(h:Q .normal a w):∀F,pS P md ops Q S n F Rm a w
 |0=>⟨D,h⟩
 |_+1=>⟨fun _=>h,by rw[D];simp⟩
theorem cR(n:Nat){id:Nat}(F:P.follows .mixedOrders=true)(D:S w.drew)(h:S w.drew->pS P .any ops Q S n ops.size (Array.replicate ops.size false) a w.drew):(Code.region id ops true).wp P Q a w:=wp_region_any F (zaA _ _ _ _ (h D))
end
theorem oA{rows:aN}(h:bC w B v rows us):∀u∈us,u.oneCell'=true:=fun u G=>by obtain⟨k,D⟩:=fk.1 G;obtain⟨r,_,F⟩:=h.kC D;obtain⟨H,I,rfl,_⟩:=F.view;rfl
theorem CN(w:aa)(b j:Nat)(u:ax):w.grownBy (w.setCell ⟨b,j,none⟩ u) (some b):=⟨rfl,rfl,rfl,Rq,fun k _ h=>en w ⟨b,j,none⟩ k u (fun e=>h Ry)⟩
theorem bC.kR{fr:fQ}{rows:aN}(h:bC w B v rows us)(hb:w.heap[b]?=some (.cells cs 57 fr)):bC (w.setCell ⟨b,j,none⟩ u) B v rows us:=by
 refine⟨ik h.outer (CN w b j u) ?_,fun k x r F D=>aD.kept (h.each k x r F D) (CN w b j u) ?_,h.apart⟩
 .rcases h.outer.2 with⟨rfl,_⟩|⟨g,cap,G,rfl,_,hg,_⟩
  .exact au rfl
  .exact XS
 .rcases(h.each k x r F D).2 with⟨rfl,_⟩|⟨g,cap,G,rfl,_,hg,_⟩
  .exact au rfl
  .exact XS
theorem zb2(a p v G:Int)(A:aq)(cap:Nat)(rows:aN)(w:aa)(ad:bk w A rows)(b8:rows.length<=160)(EM:∀r∈rows,r.length<=1000)(br:0<=a)(bu:a<rows.length):aw 255 (gQ (bs a) p (ar v G A rows cap)) w fun e w'=>∃u,e=.returned (.agg (dK v G u))/\aU w' w.heap.size u (rows.eraseIdx a.toNat)/\ag w w':=by
 obtain⟨a9,ba⟩:=bD (Rr:rows.length<=1048576) (show ∀r∈rows,r.length<=1048576 from fun r hr=>T3);go_enter func255,ntmps255
 go_wp2_with fail
 refine(kH _ _ _ _ _ _ (ad.ext (((aj _ _).alloc Rq _ |>.alloc Rq _).alloc Sp _)) a9.o ba.o).mono ?_;rintro e h ⟨u,rfl,⟨us,hu⟩,N⟩;obtain⟨H,D,rfl,_,_,_⟩:=aU.view ⟨us,hu⟩;obtain⟨a3,a4,a5⟩:=cm w (.cells (bs a) 235) (.cells (ar v G A rows cap) 57) (.cells bj 57);have b0:=N.size;simp only[dt]at b0;go_upto_region 2 with(fail)
 obtain⟨F,EJ⟩:=aM (h.alloc (.cells (ar v G H rows D) 57));rw[<-EJ];have T:ag h F:=Vj;have b9:F.heap.size=h.heap.size+1:=So;have I:=N.trans (T.mono N.size);have Z:aW F h.heap.size (ar v G H rows D) 57:=Uo;have a1:=cH I a3;have b1:=cH I a4;have a2:=cH I a5;have V:bC F (w.heap.size+3) (.slice H rows.length D) rows us:=(hu.ext T).mono Rq;have a0:∀g',H=some ⟨g',0,none⟩->g'<h.heap.size:=fun g' e=>U8
 have bz:∀(k:Nat) (x:ax),us[k]?=some x->∀b,x.ownBlock=some b->b<h.heap.size:=fun k x hx b hb=>VA
 have ao:ag w F:=(below_alloc3 w _ _ _).trans (I.mono Sp);clear hu N T I ad EM a3 a4 a5 EJ;obtain⟨g,bv,b5,b6⟩:∃g,H=some ⟨g,0,none⟩/\w.heap.size+3<=g/\g<F.heap.size:=j5 V Rr;subst bv;have b7:=a0 g rfl;have a6:=a_ a1 0;have a7:=a_ Z 2;simp only[cZ,cP]at a6 a7;obtain⟨R,a8,bb,bc⟩:=fU V ao a2 Z;clear V ao a0 bz a1 b1 a2 Z;go_upto_region 3 with(go_at_call 257;refine(q6 (w.heap.size+3) g rows.length D a us _ R.o.outer (oA R.o) br bu Rr).mono ?_;rintro e wr ⟨rfl,ap,U⟩;have J:=(U.block h.heap.size Rr RS).trans bc.o;have O:=zH U;have HO:=zH ap;have f2:=aK J 2;have c2:=a_ J 2;simp only[cZ,cP]at c2;have ac:=zH J;clear J U ap)
 have ab:=bm wr h.heap.size 2 _ _ (.slice (some ⟨g,0,none⟩) (rows.length-1) D) ac.o;simp only[zA]at ab;have Y:=(en wr ⟨h.heap.size,2,none⟩ (w.heap.size+1+1) (.slice (some ⟨g,0,none⟩) (rows.length-1) D) Sp).trans ((O.o.block _ Rr RS).trans bb.o);have am:=R.o.erase Rr HO.o O.o;obtain⟨HO,HE⟩:=bD (show aU _ (w.heap.size+3) _ _ from⟨_,am.kR ac.o (j:=2) (u:=.slice (some ⟨g,0,none⟩) (rows.length-1) D)⟩) ((a8.o.grown O.o Rr fun b hb=>Sx).setCell (p:=⟨h.heap.size,2,none⟩) Sp (.slice (some ⟨g,0,none⟩) (rows.length-1) D));clear am c2 f2 a6 a7;obtain⟨bd,bg,bi⟩:=bS ab;obtain⟨bo,bp,bq⟩:=bS Y;obtain⟨b2,b3,b4⟩:=bR Y;simp only[cZ,cP]at bd bg bi bo bp bq;clear ab Y;go_wp2;refine aE (v:=.agg (fy v G (some ⟨g,0,none⟩) (rows.length-1) D)) (by simp[results,results255,go_sem, *]) rfl ⟨_,rfl,?_,?_⟩
 .exact Yp
 .exact X_
def jM{h:Type}(f:h->h)(xs:List h)(k:Nat):List h:=(xs.map f).take k++xs.drop k
theorem lA{h:Type}(f:h->h)(xs:List h):jM f xs 0=xs:=by simp[jM]
theorem nj{h:Type}(f:h->h)(xs:List h)(k:Nat)(hk:xs.length<=k):jM f xs k=xs.map f:=by unfold jM;rw[cY Sh,iN hk,k9]
theorem nk{h:Type}(f:h->h)(xs:List h)(k:Nat)(D:k<xs.length):(jM f xs k)[k]?=xs[k]?:=by unfold jM;exact Wx
theorem dU{h:Type}(f:h->h)(xs:List h)(k:Nat)(D:k<=xs.length):(jM f xs k).length=xs.length:=by unfold jM;simp;omega
theorem ix{h:Type}(f:h->h)(xs:List h)(k:Nat)(x:h)(hx:xs[k]?=some x):(jM f xs k).set k (f x)=jM f xs (k+1):=by have h1:=(bG.1 hx).1;unfold jM;rw[lI _ _ RS,dH];have D:xs.drop k=x::xs.drop (k+1):=Ww;have F:k-((xs.map f).take k).length=0:=RS;rw[D,F,oM];simp[hx]
theorem fK{I:bU}{fr:fQ}(D:w.ownsRow B Rk H v n I)(G:w.heap[b]?=some (.cells cs 57 fr))(F:Rk≠57):v.ownBlock=none∨v.ownBlock≠some b:=by
 rcases D.2 with⟨rfl,_⟩|⟨g,cap,J,rfl,_,h,_⟩
 .exact au rfl
 .refine an fun e=>?_
  simp only[Value.ownBlock,dZ]at e;subst e;rw[G]at h;simp at h;exact F h.2.1.symm
theorem frz{a:dk}(G:w.grownBy w' (some r))(h:w.frozen? a=false)(F:w.cell? a=some v)(Fq:a.block≠r):w'.frozen? a=false:=by have D:=G.block a.block (jA w a F) Sw;unfold World.frozen? at h ⊢;rw[D];exact h
theorem oe{a:dk}(D:w.grownBy w' (some r))(h:w.cell? a=some v)(Fq:a.block≠r):w'.cell? a=some v:=(v_ (w:=w) (D.block a.block (jA w a h) Sw)).trans h
theorem xe{h D:Type}(f:h->D)(l:List h)(i:Nat):(l.map f).eraseIdx i=(l.eraseIdx i).map f:=by apply gS;intro j;rw[so,cC,cC,so]
theorem xS(b v h:Int)(A:aq)(cap:Nat)(rows:aN)(w:aa)(a5:bk w A rows)(c4:rows.length<=160)(EM:∀r∈rows,r.length<=1000)(c8:0<=v)(c9:v<=1000)(hb:0<=b)(cz:b<=1000)(cO:1<=h)(c0:h<=1000)(a7:∀r∈rows,v+b<r.length):aw 271 (gD (ar v h A rows cap) b) w fun e w'=>∃u,e=.returned (.agg (dK v (h-1) u))/\aU w' w.heap.size u (rows.map (fun r=>r.eraseIdx (v+b).toNat))/\ag w w':=by
 have bz:=zH (show ∀r∈rows,v+b<r.length/\r.length<=1000 from fun r hr=>⟨a7 r hr,EM r hr⟩);clear a7;obtain⟨b0,b2⟩:=bD (Rr:rows.length<=1048576) (show ∀r∈rows,r.length<=1048576 from fun r hr=>T3);go_enter func271,ntmps271
 go_wp2_with fail
 refine(kH _ _ _ _ _ _ (a5.ext ((aj _ _).alloc Rq _ |>.alloc Rq _)) b0.o b2.o).mono ?_;rintro e D ⟨u,rfl,⟨us,hu⟩,T⟩;obtain⟨I,G,rfl,_,_,_⟩:=aU.view ⟨us,hu⟩;have bo:((w.alloc (.cells (ar v h A rows cap) 57)).alloc (.cells bj 57)).heap[w.heap.size]?=some (.cells (ar v h A rows cap) 57):=(bJ _ _ Rq).trans (aC _ _ rfl);have bp:((w.alloc (.cells (ar v h A rows cap) 57)).alloc (.cells bj 57)).heap[w.heap.size+1]?=some (.cells bj 57):=aC _ _ Rq;have cj:=T.size;simp only[dt]at cj;go_upto_region 2 with(fail)
 obtain⟨H,EJ⟩:=aM (D.alloc (.cells (ar v h I rows G) 57));rw[<-EJ];have V:ag D H:=Vj;have c7:H.heap.size=D.heap.size+1:=So;have R:=T.trans (V.mono T.size);have ac:aW H D.heap.size (ar v h I rows G) 57:=Uo;have ab:=cH R bo;have bi:=cH R bp;have bg:bC H (w.heap.size+2) (.slice I rows.length G) rows us:=(hu.ext V).mono Rq;have a6:ag w H:=((aj w.heap.size w).alloc Rq _ |>.alloc Rq _).trans (R.mono Sp);clear hu T V R a5 EM bo bp EJ;have ao:=a_ ab 0;have br:=a_ ac 2;simp only[cZ,cP]at ao br;obtain⟨b4,bv,cq,b6,b7⟩:=mD bg a6 ab bi ac;clear bg a6 ab bi ac;go_wp2;go_loopw [13] (fun i wr=>∃k:Nat,k<=rows.length/\i=.int .i64 k/\(∃bq,bC wr (w.heap.size+2) (.slice I rows.length G) (jM (fun r=>r.eraseIdx (v+b).toNat) rows k) bq)/\
   aW wr D.heap.size (ar v h I rows G) 57/\Below (w.heap.size+2) H wr)
  (fun i _=>rows.length-(intOf i).toNat)
 case atStart=>exact⟨0,aX _,rfl,⟨us,by rw[lA];exact b4.o⟩,b7.o,aj _ _⟩
 case round=>
  obtain⟨k,hk,rfl,⟨bq,EF⟩,Fs,J⟩:=hrel;by_cases a8:k<rows.length
  .obtain⟨r,hr⟩:=aB a8;have Z:(jM (fun r=>r.eraseIdx (v+b).toNat) rows k)[k]?=some r:=(nk _ _ _ a8).trans hr;obtain⟨dq,Fu,GV⟩:=EF.get Z;obtain⟨ci,c3⟩:=bz.o r (aY hr);obtain⟨co,O,rfl,_⟩:=GV.view;obtain⟨gr,rfl,cF,cI⟩:=kh GV Rr;obtain⟨g,rfl,cA,cB⟩:=j5 EF TX;have Ft:=EF.outer;rw[dU _ _ _ hk]at Ft;have bu:ae wr g k (.slice (some ⟨gr,0,none⟩) r.length O):=UM;have ap:ae wr w.heap.size 0 (.int .i64 v):=(J.cell Sp).trans ao;have a0:ae wr D.heap.size 2 (.slice (some ⟨g,0,none⟩) rows.length G):=a_ Fs 2;have c5:gr≠D.heap.size:=fun e=>Xy
   have c6:g≠D.heap.size:=fun e=>XL
   have f0:=Ft.frozenAt k;obtain⟨HO,a3,HW,b1,cp,b5,b3⟩:=zH7 EF GV J Fs Z Fu hr;clear Ft EF GV J Fs Z Fu hr;have db:IntKind.i64.wrap (v+b)=v+b:=Sq;have dc:IntKind.i64.wrap (v+b+1)=v+b+1:=Sq;have a9:g≠gr:=by
    rcases fv HO.o.outer a3.o with h1|h1
    .cases h1
    .exact Wo
   have a1:=zH (zu (w.heap.size+2) gr r.length O (v+b) (r.map (Value.int .i64)) wr.drew (wE a3.o) VG Rr ci Rr);go_wp2_with fail
   go_region_held3 (fun w'=>ae w' w.heap.size 0 (.int .i64 v)/\ae w' D.heap.size 2 (.slice (some ⟨g,0,none⟩) rows.length G))
    (first|(exact cc)|(exact⟨ap,a0⟩)|(refine⟨?_,?_⟩<;>(first|(refine(eV Sp).trans ?_;assumption)|(refine(kO Sp).trans ?_;assumption))))
    ((go_at_call 272;refine a1.o.mono ?_;rintro e am ⟨rfl,bb,F⟩;have f3:am.frozen? ⟨g,k,none⟩=false:=(frz (w:=wr.drew) F f0 bu a9);have ck:=oe (w:=wr.drew) F ap (Rr:w.heap.size≠gr);have cn:=oe (w:=wr.drew) F a0 (Rr:D.heap.size≠gr);have cc:=aF ck cn;clear ap a0;have dr:=oe (w:=wr.drew) F bu a9))
   have F:=bN (dP wr (some gr)) F;have ba:aD am (w.heap.size+2) (.slice (some ⟨gr,0,none⟩) (r.length-1) O) (r.eraseIdx (v+b).toNat):=by unfold aD;rw[<-xe,wC Rr];exact bb
   have Y:=HO.o.put (dU _ _ _ hk).symm b5.o F ba (fun b hb=>au hb);rw[ix _ _ _ _ b3.o]at Y;obtain⟨HN,Fw,EN⟩:=dO Y ((en am ⟨g,k,none⟩ D.heap.size (.slice (some ⟨gr,0,none⟩) (r.length-1) O) Sp).trans ((F.block D.heap.size UC RS).trans b1.o)) (jB (oT HW.o F UC (fun b hb=>Sx)) (p:=⟨g,k,none⟩) Sp (.slice (some ⟨gr,0,none⟩) (r.length-1) O));clear Y ba bb F a1;exact Yn
  .skip
   have ce:k=rows.length:=Rr;subst ce;rw[nj _ _ _ (af _)]at EF;have N:=(J.block _ Rr).trans b6.o;have U:=a_ Fs 1;have a4:=aK Fs 1;simp only[cZ,cP]at U;obtain⟨HO,HW,a2,ch⟩:=fU EF J Fs N;have dl:IntKind.i64.wrap (h-1)=h-1:=Sq;clear EF J Fs N ao br;go_upto_region 8 with(fail)
   have ad:=bm wr D.heap.size 1 _ _ (.int .i64 (h-1)) a2.o;simp only[zA]at ad;have N:=(en wr ⟨D.heap.size,1,none⟩ (w.heap.size+1) (.int .i64 (h-1)) Sp).trans ch.o;have bd:=HO.o.kR a2.o (j:=1) (u:=.int .i64 (h-1));have HO:=zH (show aU _ (w.heap.size+2) _ _ from⟨_,bd⟩);have bc:=((bv.o.trans (HW.o.mono Rr)).setCell (p:=⟨D.heap.size,1,none⟩) Sp (.int .i64 (h-1)));have HE:=zH bc;clear bd bc;obtain⟨U,a4,b8⟩:=bS ad;obtain⟨b9,ca,cb⟩:=bS N;obtain⟨cr,ct,cu⟩:=bR N;simp only[cZ,cP]at U a4 b8 b9 ca cb;clear ad N;go_wp2;refine aE (v:=.agg (ar v (h-1) I rows G)) (by simp[results,results271,go_sem, *]) rfl ⟨_,rfl,?_,?_⟩
   .exact Yp
   .exact X_
end Go.Proofs.YtpieilkmmiopfaaGreatDoor

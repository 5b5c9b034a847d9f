/- Parts of the walks. Conditions: as stated with each. -/
import Derived.Test.YtdpgblncijojiaaGreatDoorPk10
import Derived.Test.YtdpgblncijojiaaGreatDoorPk9
namespace Go.Proofs.YtdpgblncijojiaaGreatDoor
open Go.RowKit Tryz
set_option linter.all false
set_option maxHeartbeats 4000000
set_option maxRecDepth 100000
variable{A:aq}{D N N' b c d hi i j k lo n r:Nat}{H Rw u v:av}{Ra U:aC}{Rd Rq r' xs:aH}{p:Int}{s:Sy}{us:bN}{w w':aa}
section
variable{M:aC}
def yE(p:Int)(N:Nat):gZ p N 0 (List.replicate N []):=⟨iU,fun i hi=>by rw[bg,fR,ar hi];rfl,fun i d _ z=>Ry⟩
def zcK(hi:i<r):eM (M.take r) i d=eM M i d:=by unfold eM;rw[bg (l:=M.take r),fP,ar hi,bg (l:=M)]
def gZ.take(h:gZ p N n M)(B:r<=N):gZ p r n (M.take r):=by
 refine⟨by rw[dX,h.1];omega,fun i hi=>?_,fun i d hi z=>?_⟩
 .rw[bg,fP,ar hi,<-bg];exact h.2.1 i Ry
 .rw[zcK hi];exact h.2.2 i d Ry z
def zg1{A:aC}(z:gZ p r n A)(B:gZ p r n U)(h:∀i,i<r->∀d,d<n->eM A i d=eM U i d):A=U:=by
 apply eQ;intro i;by_cases hi:i<r
 .obtain⟨a,D⟩:=aw (by rw[z.1];exact hi:i<A.length);obtain⟨b,E⟩:=aw (by rw[B.1];exact hi:i<U.length);have F:=z.2.1 i hi;have H:=B.2.1 i hi;rw[bg,D]at F;rw[bg,E]at H;rw[D,E];have:a=b:=by
   apply eQ;intro d;by_cases O:d<n
   .have e:=h i hi d O;unfold eM at e;rw[bg (l:=A),D,bg (l:=U),E]at e;obtain⟨x,I⟩:=aw (show d<a.length by simpa using(by have:a.length=n:=F;omega:d<a.length));obtain⟨y,J⟩:=aw (show d<b.length by simpa using(by have:b.length=n:=H;omega:d<b.length));simp only[yZ,bg,I,J]at e;rw[I,J,e]
   .rw[fy (by have:a.length=n:=F;omega),fy (by have:b.length=n:=H;omega)]
  rw[this]
 .rw[fy (by rw[z.1];omega),fy (by rw[B.1];omega)]
def jM(p:Int)(n:Nat)(M:aC):List (List Int):=(gp p n M (List.replicate M [])).2.1.take (gp p n M (List.replicate M [])).1
def j7(R:cP p=true)(Q:2<=p)(s:gZ p N n M):∃r l,r<=N/\gZ p r n (jM p n M)/\lS p n r (eM (jM p n M)) l/\∀x:Nat->Int,(∀i,i<N->p∣cm (fun d=>eM M i d*x d) n)↔xm p n r (eM (jM p n M)) x:=by
 obtain⟨c,l,e,F,z,H⟩:=qk (n2:=0) R Q s (by have:=yE p N;rwa[<-s.1]at this ⊢);unfold jM;rw[<-s.1]at F H ⊢;obtain⟨D,Z⟩:=aK (gp p n M (List.replicate M []));rw[<-Z]at e F z H ⊢;have B:∀i d,i<D.1->eM (D.2.1.take D.1) i d=eM D.2.1 i d:=fun i d hi=>zcK hi
 have O:=e.s1;rw[<-s.1]at O;refine⟨D.1,l,F,O.take F,⟨fun i d hi E=>by rw[B i d hi];exact z.bd i d hi E,z.ln,z.inc,fun i hi=>by rw[B i _ hi];exact z.one i hi,fun i d hi E=>by rw[B i d hi];exact z.low i d hi E,fun i j hi T U=>by rw[B i _ hi];exact z.col i j hi T U⟩,fun x=>?_⟩;have I:=e.ann x;rw[<-s.1]at I;refine I.trans ⟨fun h i hi=>?_,fun h i hi=>?_⟩
 .rw[cG (fun d _=>by rw[B i d hi])];exact h i Ry
 .by_cases J:i<D.1
  .have:=h i J;rwa[cG (fun d _=>by rw[B i d J])]at this
  .rw[lY fun d E=>by rw[H i Ry hi d E,lP]];exact⟨0,Rx⟩
def CT(B:cP p=true)(z:2<=p)(s:gZ p N n M)(R:gZ p N' n U)(h:∀x:Nat->Int,(∀i,i<N->p∣cm (fun d=>eM M i d*x d) n)↔(∀i,i<N'->p∣cm (fun d=>eM U i d*x d) n)):jM p n M=jM p n U:=by obtain⟨r,l,_,D,E,F⟩:=j7 B z s;obtain⟨r',T,_,H,I,J⟩:=j7 B z R;obtain⟨O,Q⟩:=zbJ z E I (fun x=>(F x).symm.trans ((h x).trans (J x)));subst O;exact zg1 D H Q
end
section
variable{M:aC}
def B5(M:aC)(n:Nat):List (List Int):=(List.range n).map fun j=>M.map fun r=>r.getD j 0
def zhL(z:j<n):eM (B5 M n) j i=eM M i j:=by unfold eM B5;rw[bg (l:=List.map _ _),bR,kx z];simp only[pa,yZ,bg,bR];cases M[i]? <;>simp
def Dd(h:gZ p N n M):gZ p n N (B5 M n):=by
 refine⟨by simp[B5],fun i hi=>?_,fun i d hi z=>?_⟩
 .unfold B5;rw[bg,bR,kx hi];simp[h.1]
 .rw[zhL hi];exact h.2.2 d i z hi
def zan(hi:i<n)(z:j<n):eM (yr n) i j=if j=i then 1 else 0:=by
 unfold eM;rw[bg (l:=yr n),CR hi]
 show(tH n i).getD j 0=_
 unfold tH;rw[bg,ph];by_cases h:i=j
 .subst h;rw[ar rfl,ar (by simpa using hi),ar rfl];rfl
 .rw[ak h,ak (fX h),fR,ar z];rfl
def De(B:2<=p):gZ p n n (yr n):=by
 refine⟨CQ n,fun i hi=>?_,fun i d hi z=>?_⟩
 .rw[bg,CR hi];exact xb n i
 .rw[zan hi z];split <;>omega
def Df(M:aC)(r i d:Nat):eM (M.drop r) i d=eM M (r+i) d:=by unfold eM;rw[bg (l:=M.drop r),fI,<-bg]
def gZ.drop(h:gZ p N n M)(B:r<=N):gZ p (N-r) n (M.drop r):=by
 refine⟨by rw[mh,h.1],fun i hi=>?_,fun i d hi z=>?_⟩
 .rw[bg,fI,<-bg];exact h.2.1 (r+i) Ry
 .rw[Df];exact h.2.2 (r+i) d Ry z
def zd7(p:Int)(n:Nat)(M:aC):List (List Int):=(gp p n M (yr M)).2.2.drop (gp p n M (yr M)).1
def zbL(p:Int)(n:Nat)(M:aC):List (List Int):=jM p M (zd7 p n M)
def zd8(O:cP p=true)(F:2<=p)(s:gZ p N n M):∃N',N'<=N/\gZ p N' N (zd7 p n M)/\∀y:Nat->Int,(∀i,i<N'->p∣cm (fun d=>eM (zd7 p n M) i d*y d) N)↔(∀x:Nat->Int,(∀c,c<n->p∣cm (fun k=>x k*eM M k c) N)->p∣cm (fun k=>x k*y k) N):=by
 have hid:=De (n:=N) F;obtain⟨c,l,e,E,H,I⟩:=qk (n2:=N) O F s hid;unfold zd7;rw[s.1];obtain⟨B,R⟩:=aK (gp p n M (yr N));rw[<-R]at e E H I ⊢;have Q:=e.mul (eM M) (fun i hi d ab=>by rw[jV hi (fun j z D=>by rw[zan hi z,ak D,lP]),zan hi hi,ar rfl];exact⟨0,Ry⟩)
 have J:=e.all (fun x=>⟨x,fun j z=>by rw[jV z (fun i hi D=>by rw[zan hi z,ak (fX D),o0]),zan z z,ar rfl];exact⟨0,Ry⟩⟩)
 refine⟨N-B.1,Ry,e.s2.drop E,fun y=>?_⟩;have T:=zar E H I Q J y;refine Iff.trans ⟨fun h i U Z=>?_,fun h i hi=>?_⟩ T
 .have:=h (i-B.1) Ry;rwa[cG (fun d _=>by rw[Df,show B.1+(i-B.1)=i by omega])]at this
 .rw[cG (fun d _=>by rw[Df])];exact h (B.1+i) Ry Ry
def Dg(p:Int)(N n:Nat)(M:aC)(y:Nat->Int):Prop:=∀x:Nat->Int,(∀i,i<N->p∣cm (fun d=>eM M i d*x d) n)->p∣cm (fun d=>x d*y d) n
def zao(p:Int)(M:aC)(n:Nat):List (List Int):=zd7 p M (B5 M n)
def jE(p:Int)(M:aC)(n:Nat):List (List Int):=zbL p M (B5 M n)
def xt(s:gZ p N n M):jE p M n=jM p n (zao p M n):=by unfold jE zbL zao;rw[(Dd s).1]
def uo(F:cP p=true)(B:2<=p)(s:gZ p N n M):∃N',N'<=n/\gZ p N' n (zao p M n)/\∀y:Nat->Int,(∀i,i<N'->p∣cm (fun d=>eM (zao p M n) i d*y d) n)↔Dg p N n M y:=by
 obtain⟨N',z,D,E⟩:=zd8 F B (Dd s);unfold zao;rw[s.1];refine⟨N',z,D,fun y=>(E y).trans ?_⟩;unfold Dg;refine pb fun x=>imp_congr_left (pb fun i=>pb fun _=>?_)
 rw[cG (fun k H=>by rw[zhL H,iI])]
def qi(B:cP p=true)(z:2<=p)(s:gZ p N n M):∃r l,r<=n/\gZ p r n (jE p M n)/\lS p n r (eM (jE p M n)) l/\∀y:Nat->Int,xm p n r (eM (jE p M n)) y↔Dg p N n M y:=by obtain⟨N',O,H,I⟩:=uo B z s;obtain⟨r,l,J,D,E,F⟩:=j7 B z H;rw[xt s];exact⟨r,l,Ry,D,E,fun y=>(F y).symm.trans (I y)⟩
end
section
variable{M:aC}
def zdw(E:k<xs.length)(D:∀c,c<k->xs.getD c 0=0)(z:xs.getD k 0≠0):kG xs=k:=by
 rcases sZ (kG xs) k with h|h|h
 .obtain⟨x,B⟩:=aw (Ry:kG xs<xs.length);have:=D _ h;rw[bg,B]at this;exact absurd this (xe B)
 .exact h
 .have:=rq h;rw[bg,this]at z;exact absurd rfl z
def pw(z:aC)(i:Nat):Nat:=kG (z.getD i [])
def zcA{l:gj}(s:gZ p r n U)(h:lS p n r (eM U) l):lS p n r (eM U) (pw U):=by
 have e:∀i,i<r->pw U i=l i:=fun i hi=>zdw (by rw[s.2.1 i hi];exact h.ln i hi) (fun c B=>h.low i c hi B) (by have:=h.one i hi;unfold eM at this;omega)
 exact⟨h.bd,fun i hi=>by rw[e i hi];exact h.ln i hi,fun i j D z=>by rw[e i Ry,e j z];exact h.inc i j D z,fun i hi=>by rw[e i hi];exact h.one i hi,fun i c hi B=>h.low i c hi (by rw[<-e i hi];exact B),fun i j hi z E=>by rw[e j z];exact h.col i j hi z E⟩
def iR(p:Int)(n:Nat)(z:aC)(j:Nat):List Int:=(List.range n).map fun c=>lh (eM z) (pw z) z j c%p
def xS(n:Nat)(z:aC):List Nat:=(List.range n).filter fun j=>(List.range z).all fun i=>decide (pw z i≠j)
def nV(p:Int)(n:Nat)(z:aC):List (List Int):=(xS n z).map (iR p n z)
def BA:j∈xS n U↔j<n/\lG (pw U) U j:=by unfold xS lG;simp[s9,eD]
def CJ(D:(xS n U)[i]?=some j)(B:d<n):eM (nV p n U) i d=lh (eM U) (pw U) U j d%p:=by
 show((nV p n U).getD i []).getD d 0=_
 have z:(nV p n U).getD i []=iR p n U j:=by unfold nV;rw[bg,bR,D];rfl
 rw[z];unfold iR;rw[bg,bR,kx B];rfl
def wY(D:2<=p):gZ p (xS n U) n (nV p n U):=by
 refine⟨by simp[nV],fun i hi=>?_,fun i d hi B=>?_⟩
 .obtain⟨j,z⟩:=aw hi;unfold nV iR;rw[bg,bR,z];simp
 .obtain⟨j,z⟩:=aw hi;rw[CJ z B];exact WN
def zcB(p:Int)(n:Nat)(M:aC):List (List Int):=nV p n (jM p n M)
def nW(p:Int)(n:Nat)(M:aC):List (List Int):=jM p n (zcB p n M)
def zC(U:cP p=true)(O:2<=p)(s:gZ p N n M):∃N',N'<=n/\gZ p N' n (zcB p n M)/\∀y:Nat->Int,(∀i,i<N'->p∣cm (fun d=>eM (zcB p n M) i d*y d) n)↔Dg p N n M y:=by
 obtain⟨r,l,_,F,I,J⟩:=j7 U O s;unfold zcB;obtain⟨z,T⟩:=aK (jM p n M);rw[<-T]at F I J ⊢;have E:z.length=r:=F.1;have ad:=zcA F I;refine⟨(xS n z),bE (yW _ _) Rx,wY O,fun y=>?_⟩;have ac:=zd_ ad y;have ab:(∀x,xm p n r (eM z) x->p∣cm (fun c=>x c*y c) n)↔Dg p N n M y:=pb fun x=>imp_congr_left (J x).symm
 refine Iff.trans ⟨fun h j D B=>?_,fun h i hi=>?_⟩ (ac.trans ab)
 .obtain⟨i,hi⟩:=eN.1 (BA.2 ⟨D,by rw[E];exact B⟩);have Q:=h i (bs.1 hi).1;have R:p∣cm (fun d=>eM (nV p n z) i d*y d) n-cm (fun c=>lh (eM z) (pw z) r j c*y c) n:=fN fun d H=>by rw[CJ hi H,E];exact lj (ot _ _)
  have:=nn Q R;exact Xz
 .obtain⟨j,D⟩:=aw hi;obtain⟨Z,B⟩:=BA.1 (aR D);rw[E]at B;refine iN (b:=cm (fun c=>lh (eM z) (pw z) r j c*y c) n) (fN fun d H=>?_) (h j Z B);rw[CJ D H,E];exact lj (ot _ _)
def t_(B:cP p=true)(z:2<=p)(s:gZ p N n M):∃r l,r<=n/\gZ p r n (nW p n M)/\lS p n r (eM (nW p n M)) l/\∀y:Nat->Int,xm p n r (eM (nW p n M)) y↔Dg p N n M y:=by obtain⟨N',O,H,I⟩:=zC B z s;obtain⟨r,l,J,D,E,F⟩:=j7 B z H;exact⟨r,l,Ry,D,E,fun y=>(F y).symm.trans (I y)⟩
def oC(v:Nat)(M:aC):List (List Int):=M.map fun r=>r.take v
def zfg{v:Nat}(z:d<v):eM (oC v M) i d=eM M i d:=by
 unfold eM oC;rw[bg (l:=List.map _ _),bR,bg (l:=M)];cases M[i]? with
 |none=>simp
 |some r=>simp[bg,fP,z]
def rm{v:Nat}(h:gZ p N n M)(D:v<=n):gZ p N v (oC v M):=by refine⟨by simp[oC,h.1],fun i hi=>?_,fun i d hi B=>by rw[zfg B];exact h.2.2 i d hi Ry⟩;have:=h.2.1 i hi;unfold oC;obtain⟨r,z⟩:=aw (by rw[h.1];exact hi:i<M.length);rw[bg,z]at this;rw[bg,bR,z];simp only[pa,yZ,dX]at this ⊢;omega
def zD(f:Nat->Int)(v:Nat):∀(h:Nat),(∀c,v<=c->f c=0)->cm f (v+h)=cm f v
 |0,_=>rfl
 |h+1,z=>by rw[<-qD,cm,zD f v h z,z _ Ry];omega
def zbi(v:Nat)(x:Nat->Int)(c:Nat):Int:=if c<v then x c else 0
def CK{v h:Nat}(x:Nat->Int):(∀i,i<N->p∣cm (fun d=>eM (oC v M) i d*x d) v)↔xm p (v+h) N (eM M) (zbi v x):=by
 refine pb fun i=>pb fun _=>?_
 rw[zD _ v h (fun c B=>by unfold zbi;rw[ak Ry,o0]),cG (f:=fun d=>eM (oC v M) i d*x d) (g:=fun d=>eM M i d*zbi v x d) (fun d z=>by
  try dsimp only
  rw[zfg z];unfold zbi;rw[ar z])]
def zdx(p:Int)(v h:Nat)(M:aC):List (List Int):=jE p (jM p v (oC v (jE p M (v+h)))) v
def ziX(p:Int)(v h:Nat)(M:aC):List (List Int):=nW p v (oC v (nW p (v+h) M))
def zfh{v h:Nat}(B:cP p=true)(z:2<=p)(s:gZ p N (v+h) M):zdx p v h M=ziX p v h M:=by
 obtain⟨am,ab,_,D,_,E⟩:=qi B z s;obtain⟨ao,ac,_,F,_,H⟩:=t_ B z s;have I:=rm D (Ry:v<=v+h);have J:=rm F (Ry:v<=v+h);obtain⟨ap,ad,_,d1,_,d2⟩:=j7 B z I;unfold zdx ziX;rw[xt d1];obtain⟨U,_,O,Q⟩:=uo B z d1;obtain⟨Z,_,R,T⟩:=zC B z J;refine CT B z O R fun y=>(Q y).trans (Iff.trans ?_ (T y).symm)
 unfold Dg;refine pb fun x=>imp_congr_left ?_
 exact(d2 x).symm.trans ((CK (h:=h) x).trans ((E _).trans ((H _).symm.trans (CK (h:=h) x).symm)))
end
section
variable{M:aC}
def zcg{r:aH}{v:Nat}(h:v<=r.length):mJ r (iota v)=r.take v:=by
 apply eQ;intro i;unfold mJ;rw[bR,fP];by_cases hi:i<v
 .rw[rp hi,ar hi];obtain⟨x,z⟩:=aw (Ry:i<r.length);simp[bg,z]
 .rw[ak hi,fy Sp];rfl
def gZ.row(h:gZ p N n M):∀r∈M,r.length=n:=fun r z=>by obtain⟨i,hi⟩:=eN.1 z;have hl:=(bs.1 hi).1;have:=h.2.1 i TD;rwa[bg,hi]at this
def vU{v:Nat}(h:gZ p N n M)(B:v<=n):jB M (iota v)=oC v M:=jr fun r z=>zcg (by rw[h.row r z];exact B)
def zeJ(h:s.Ok p):gZ p s.rows (s.v+s.h).toNat s.rows:=by
 refine⟨rfl,fun i hi=>?_,fun i d hi z=>?_⟩
 .have:=Sys.len h _ (gT hi);omega
 .exact nR h hi (by have:=Sys.v0 h;have:=Sys.h0 h;omega)
end
section
variable{M:aC}
def a_.at{cap:Nat}{rows:aC}{r:aH}(h:a_ w D (.slice A n cap) rows us)(E:rows[k]?=some r):∃g z c,A=some ⟨g,0,none⟩/\us[k]?=some (.slice z r c)/\af w g k (.slice z r c)/\w.frozen? ⟨g,k,none⟩=false/\D<=g/\g < (w:Nat)/\au w D (.slice z r c) r:=by have O:=(bs.1 E).1;obtain⟨g,J,e,H,I⟩:=h.form Ry;simp only[ez]at e;obtain⟨rfl,rfl,rfl⟩:=e;obtain⟨u,F,B⟩:=h.get E;obtain⟨z,c,rfl,_⟩:=B.view;exact⟨g,z,c,rfl,F,by rw[h.outer.cellAt _ Ry,F],h.outer.frozenAt k,H,I,B⟩
def a_.fB{rows:aC}{r:aH}{x:Int}(h:a_ w D v rows us)(R:rows[k]?=some r)(J:r[j]?=some x):∃z c,us[k]?=some (.slice (aX z) r c)/\af w z j (zI x)/\w.frozen? ⟨z,j,none⟩=false/\D<=z/\z < (w:Nat)/\v.ownBlock≠some z/\∀y:Int,a_ (w.setCell ⟨z,j,none⟩ (zI y)) D v (rows.set k (r.set j y)) us/\w.grownBy (w.setCell ⟨z,j,none⟩ (zI y)) (some z):=by
 have T:=(bs.1 J).1;obtain⟨u,I,H⟩:=h.get R;obtain⟨z,c,rfl,O,Q⟩:=lR H Ry;have B:=H;unfold au at B;refine⟨z,c,I,by rw[B.cellAt _ Ry,bR,J];rfl,B.frozenAt j,O,Q,?_,fun y=>?_⟩
 .rcases fv h.outer H with F|F
  .rw[F];simp
  .exact F
 .have E:=B.stored j (zI y);rw[<-fQ]at E;exact⟨h.inner I E.2 (by unfold au;rw[fx];exact E.1),E.2⟩
def yO(M:aC)(n:Nat):(B5 M n).length=n:=by simp[B5]
def zhx(h:j<n):(B5 M n)[j]?=some (fD M j):=by simp[B5,h,fD]
def nL(M:aC)(c:Nat):(fD M c).length=M:=by simp[fD]
def zeI{r:aH}{x:Int}(z:M[k]?=some r)(B:r[c]?=some x):(fD M c)[k]?=some x:=by simp[fD,z,B]
def AS(rows:aC)(A:aq)(cap n:Nat)(w:aa)(a1:aL w A rows)(c7:rows.length<=1048576)(da:n<=1048576)(a8:∀r∈rows,n<=r.length):ax 110 #[.slice A rows cap,n] w fun e w'=>∃u,e=.returned u/\aI w' w u (B5 rows n)/\aj w w':=by
 obtain⟨ce,hi,cb,cc,Ev⟩:=cM jf;obtain⟨am,bo⟩:=bL a1 a8;clear a1 a8;go_enter func110,ntmps110
 go_wp2_with ((at_make;refine iJ _ rfl _ _ 24 rfl w.heap.size 27 ce (.slice none 0 0) 1 gE hi cb cc .i64 .i64 n n n rfl rfl rfl rfl SB TB (ah _) ?_;intro d1 B a6))
 obtain⟨ab,ad⟩:=bL (bT a6) (a_.made B);clear B a6;go_loopw [13] (fun i wr=>∃k:Nat,k<=n/\i=.int .i64 k/\(∃us,a_ wr w (.slice (aX w) n n) (eV (B5 rows n) [] k) us)/\aj w wr)
  (fun i _=>n-(intOf i).toNat)
 case atStart=>exact⟨0,aT _,rfl,⟨_,by rw[jd,yO];exact ad⟩,ab⟩
 case round=>
  obtain⟨k,c5,rfl,⟨us,B⟩,Q⟩:=hrel;have ao:=zH B;clear B ad ab;by_cases R:k<n
  .have ca:=Q.size;have ac:=zH (by simp[eV,yO];omega:n=(eV (B5 rows n) [] k).length);go_wp2_with ((go_at_call 114;refine(sU rows _ Ry).mono ?_;rintro e w' ⟨u2,rfl,I,a2⟩;obtain⟨A2,c2,rfl,_⟩:=I.view;rw[iU]at I ⊢;obtain⟨be,bi,⟨v0,ci⟩,cj⟩:=a_.set ac ao a2 I ca R;have ap:=zH be;have a0:=zH bi;clear be bi I))
   go_loopw [24] (fun i W=>∃m:Nat,m<=rows.length/\i=.int .i64 m/\(∃us,a_ W w (.slice (aX w) n n) ((eV (B5 rows n) [] k).set k (eV (fD rows k) 0 m)) us)/\aj w W)
    (fun i _=>rows.length-(intOf i).toNat)
   case atStart=>exact⟨0,aT _,rfl,⟨_,by rw[jd,nL];exact ap⟩,Q.trans a0⟩
   case round=>
    obtain⟨m,c8,rfl,⟨us2,z⟩,F⟩:=hrel;clear ci cj ap a0 a2;by_cases H:m<rows.length
    .obtain⟨r,D⟩:=aw H;obtain⟨cz,o,rfl,a3⟩:=(am.ext F).here H;obtain⟨co,cF,b5,a7⟩:=a3 m r D;have dl:=bo r (aR D);obtain⟨x,J⟩:=aw (Ry:k<r.length);obtain⟨O,ch,rfl,a4⟩:=a7.here (Ry:k<r.length);have cR:=a4 _ _ J;have cK:O < (w:Nat):=by
      obtain⟨ct,dT,bz,b2⟩:=am.here H;obtain⟨A3,cI,b6,b9⟩:=b2 m r D;cases bz
      have:=(ag F b6).symm.trans b5;simp only[dt,ez]at this;obtain⟨rfl,_,_⟩:=this;obtain⟨cu,d0,b0,b3⟩:=b9.here (Ry:k<r.length);cases b0
      exact iK w _ (b3 _ _ J)
     have T:((eV (B5 rows n) [] k).set k (eV (fD rows k) 0 m))[k]?=some (eV (fD rows k) 0 m):=dJ (by rw[<-ac.o];exact R);have a5:(eV (fD rows k) (0:Int) m)[m]?=some 0:=l7 _ _ _ (by rw[nL];exact H);obtain⟨g,cr,bv,b1,bd,b4,_⟩:=z.at T;cases b1
     obtain⟨E,c,U,cO,c0,b7,c4,b8,bb⟩:=z.fB T a5;rw[bd]at U;simp only[dt,ez]at U;obtain⟨rfl,_,rfl⟩:=U;obtain⟨Z,cn⟩:=bb x;rw[th,j4 _ _ _ _ (zeI D J)]at Z;obtain⟨bp,br⟩:=bL Z (F.setCell (p:=⟨E,m,none⟩) b7 (zI x));have db:w.heap.size≠E:=fun e=>b8 (by rw[<-e];rfl)
     have dc:O≠E:=Ry;have c6:k<r.length:=Ry;have ba:(eV (fD rows k) (0:Int) m).length=rows:=by simp[eV,nL];omega
     rw[ba]at b4;clear D a3 a7 J a4 T a5 bd bb Z cn z ba;go_wp2_with fail
     go_region_held3 (fun w'=>af w' w k (.slice (aX E) rows bv)/\af w' O (ch+k) (zI x))
      (first|(simp[*];done)|(refine⟨?_,?_⟩<;>(first|(refine(eC Sn).trans ?_;assumption)|(refine(j_ Sn).trans ?_;assumption)))) (fail)
     go_wp2;go_roundw
     case rel=>exact⟨m+1,Ry,RB,⟨_,bp.ext (ai _ _).drew⟩,br.drew⟩
     case measure=>simp[intOf];omega
    .have c9:m=rows.length:=Ry;have a9:(eV (B5 rows n) [] k).set k (eV (fD rows k) 0 m)=eV (B5 rows n) [] (k+1):=by rw[j3 (fD rows k) (0:Int) m (by rw[nL];omega)];exact j4 _ _ _ _ (zhx R)
     rw[a9]at z;have bm:=zH z;clear a9 z;go_wp2;go_roundw
     case rel=>exact⟨k+1,Ry,RB,⟨_,bm⟩,F⟩
     case measure=>simp[intOf];omega
  .go_wp2;go_ret
   have h:=ao.o;rw[j3 _ _ _ (by rw[yO];omega)]at h;exact⟨_,rfl,⟨_,h⟩,Q⟩
end
section
variable{M:aC}
def gZ.el(h:gZ p N n M):∀r∈M,∀x∈r,0<=x/\x<p:=fun r B x F=>by obtain⟨i,hi⟩:=eN.1 B;obtain⟨d,z⟩:=eN.1 F;have E:=(bs.1 hi).1;have D:=(bs.1 z).1;have:=h.2.2 i d (by rw[<-h.1];exact E) (by rw[<-h.row r B];exact D);unfold eM at this;rwa[getD_some hi,getD_some z]at this
def pI.inner(h:pI w lo hi v M us)(B:us[k]?=some u)(z:w.grownBy w' u.ownBlock)(D:au w' lo u r'):pI w' lo hi v (M.set k r') us:=⟨h.own.inner B z D,h.up,h.ups⟩
def pI.swap{g cap:Nat}(h:pI w lo hi (.slice (aX g) n cap) M us)(E:n=M.length)(hi':us[i]?=some H)(D:us[j]?=some Rw)(F:M[i]?=some Rq)(I:M[j]?=some Rd):pI ((w.setCell ⟨g,i,none⟩ Rw).setCell ⟨g,j,none⟩ H) lo hi (.slice (aX g) n cap) ((M.set i Rd).set j Rq) ((us.set i Rw).set j H):=
 ⟨h.own.swap E hi' D F I,h.up,fun u J b B=>by
  rcases mem_set J with z|rfl
  .rcases mem_set z with z|rfl
   .exact h.ups u z b B
   .exact h.ups _ (aR D) b B
  .exact h.ups _ (aR hi') b B⟩
def Chg(lo hi:Nat)(v:av)(M:aC)(w:aa)(e:Ending)(w':aa):Prop:=e=.returned (.tuple #[])/\Has w' lo hi v M/\dd lo hi w w'
def yd(p c:Int)(a b lo hi n cap:Nat)(A:aq)(M:aC)(us:bN)(w:aa)(h:pI w lo hi (.slice A n cap) M us)(a8:hi<=(w:Nat))(Z:a<M.length)(ab:b<M.length)(a6:a≠b):ax 134 (qw (wu a b c) p A n cap) w (Chg lo hi (.slice A n cap) (tq M a b) w):=by
 obtain⟨Q,D⟩:=aw Z;obtain⟨rb,E⟩:=aw ab;have EX:=zH (by unfold tq;rw[getD_some D,getD_some E]:tq M a b=(M.set a rb).set b Q);have a0:n=M.length:=XI;subst a0;go_enter func134,ntmps134
 go_upto_region 3 with(fail)
 have B:Below w w (w.alloc (.cells (wu a b c) 161)):=(ai _ _).alloc (ah _) _;have z:=h.ext B;obtain⟨g,R,T,rfl,J,ac,ad,ao,a7,_⟩:=z.own.at D;obtain⟨a5,Ab,cb,U,O,JG,am,_⟩:=z.own.at E;cases U
 have ap:=h.up g rfl;have F:(w.alloc (.cells (wu a b c) 161)).heap[w.heap.size]?=some (.cells (wu a b c) 161 (0,0)):=aD _ _ rfl;obtain⟨W2,H⟩:=aK (w.alloc (.cells (wu a b c) 161));rw[<-H]at B z ac ad JG am F ⊢;obtain⟨a1,a2,a3,a4⟩:=uc F;simp only[dg,cT]at a1 a2 a3 a4;have I:=z.swap rfl J O D E;obtain⟨HS,HE⟩:=bL I ((dd.iD (lo:=lo) (hi:=hi) B).trans ((dd.AE (b:=g) (w:=W2) (w':=(W2.setCell ⟨g,a,none⟩ (.slice Ab rb cb)).setCell ⟨g,b,none⟩ (.slice R Q T)) (bq (z.own.outer.stored a _).2 ((z.own.outer.stored a (.slice Ab rb cb)).1.stored b _).2) ao ap)));have a9:g≠w.heap.size:=Ry;clear H I J O D E F B z h;refine zk (S:=fun w'=>af w' w 1 (zI a)/\af w' w 2 (zI b)) RU RI (fun hHeld=>?_);refine cE 0 ?_;refine cE 1 ?_;refine cE 2 ?_;refine cE 3 ?_;refine cE 4 ?_;refine cE 5 ?_;refine cE 6 ?_;refine cE 7 ?_;refine cE 8 ?_;refine cE 9 ?_;refine cE 11 ?_;refine cE 12 ?_;refine cE 13 ?_;refine cE 14 ?_;refine fK (rs:=[10,15]) RU Rx ?_;refine i_ rfl (fun K hK=>?_) (i_ rfl (fun K hK=>?_) fL)
 .go_simp;refine hK.out _ _ RV (fun hHeld=>?_);clear hK K;try simp only[Act.put,zA]
  refine fK (rs:=[15]) RU Rx ?_;exact ZZ
 .go_simp;refine hK.out _ _ RV (fun hHeld=>?_);clear hK K;try simp only[Act.put,zA]
  refine fK (rs:=[10]) RU Rx ?_;exact ZZ
end
def vd(p c b:Int)(a lo hi n cap N m:Nat)(A:aq)(M:aC)(us:bN)(w:aa)(h:pI w lo hi (.slice A n cap) M us)(b6:hi<=(w:Nat))(U:cP p=true)(a5:1<=c)(a6:c<p)(bm:a<M.length)(ap:gZ p N m M)(b7:m<=1048576):ax 134 (qw (wo a b c) p A n cap) w (Chg lo hi (.slice A n cap) (yM p (ec p c) M a) w):=by
 obtain⟨z,J⟩:=aw bm;obtain⟨f1,f2,f3⟩:=iW U a5 a6;obtain⟨p2,cc⟩:=et U;have a1:=zH (ap.el z (aR J));have b8:z.length<9223372036854775807:=by have:=ap.row z (aR J);omega
 obtain⟨D,Q⟩:=aK (ec p c);obtain⟨I7,be⟩:=bL (by unfold yM;rw[getD_some J,Q]:yM p (ec p c) M a=M.set a (fU p D z)) (fun w=>(by rw[Q];exact oJ p c w U a5 a6:ax 129 (bI p c) w fun e w'=>e=.returned (zI D)/\w=w'));rw[<-Q]at f2 f3;clear f1 Q ap U;have br:n=M.length:=XI;subst br;go_enter func134,ntmps134
 go_upto_region 5 with(fail)
 have O:Below w w (w.alloc (.cells (wo a b c) 161)):=(ai _ _).alloc (ah _) _;have E:=h.ext O;obtain⟨g,ao,H,rfl,a0,T,bo,b1,b2,Z⟩:=E.own.at J;have b5:=h.up g rfl;have ab:(w.alloc (.cells (wo a b c) 161)).heap[w.heap.size]?=some (.cells (wo a b c) 161 (0,0)):=aD _ _ rfl;obtain⟨bi,a4⟩:=aK (w.alloc (.cells (wo a b c) 161));rw[<-a4]at O E T bo ab Z ⊢;have am:=aV ab 1;have a2:=aV ab 3;simp only[dg,cT]at am a2;have a9:=E.ups _ (aR a0);obtain⟨ba,bd,Gn,bb,a3,FJ⟩:=lq E a0 Z O a9 (fv E.own.outer Z);clear a4 a0 ab O E h J Z a9;go_wp2_with ((go_at_call 129;refine(be.o _).mono ?_;rintro e w' ⟨rfl,rfl⟩))
 go_loopw [43] (fun i wr=>∃k:Nat,k<=z.length/\i=.int .i64 k/\wr.ownsRow lo 3 1 (.slice ao z H) z ((kD p D z k).map (Value.int .i64))/\bi.grownBy wr (Value.slice ao z H).ownBlock)
  (fun i _=>z.length-(intOf i).toNat)
 case atStart=>exact⟨0,aT _,rfl,Tl,⟨rfl,rfl,rfl,ah _,fun _ _ _=>rfl⟩⟩
 case round=>
  obtain⟨k,a7,rfl,F,B⟩:=hrel;by_cases a8:k<z.length
  .obtain⟨x,ad⟩:=aw a8;obtain⟨I,rfl,b3,_⟩:=kU Gn Ry;have b4:=a3 I rfl;have b9:g≠I:=Xp;have ce:af wr w 1 (zI a):=B.cell am Us;have ch:af wr g a (.slice (aX I) z H):=B.cell T Us;have bz:af wr I k (zI x):=by rw[F.cellAt k Ry,bR,sC _ _ _ _ a8,ad];rfl
   have b0:=F.frozenAt k;obtain⟨v1,v2⟩:=a1 x (aR ad);have ca:0<=x*D:=za v1 Ry;have cb:x*D<=1000000:=by have:=Int.mul_le_mul (Ry:x<=97) (Ry:D<=97) Ry Ry;omega
   have ac:=F.stored k (zI (x*D%p));rw[<-fQ,sD _ _ _ _ _ ad]at ac;obtain⟨HS,HG⟩:=bL ac.1 (bq B ac.2);have E:=gJ (x*D) (Ry:0<p);have bv:¬p=0:=Ry;clear ac ad F B am a2 T a1;go_wp2_with fail
   go_region_held3 (fun w'=>af w' w 1 (zI a)/\af w' g a (.slice (aX I) z H))
    (first|(simp[*];done)|(refine⟨?_,?_⟩<;>(first|(refine(eC Sn).trans ?_;assumption)|(refine(j_ Sn).trans ?_;assumption)))) (fail)
   exact Yo
  .have bp:k=z.length:=Ry;subst bp;rw[sB p D z z (ah _)]at F;have HN:=zH (ba.inner (r':=fU p D z) bd B (by unfold au;rw[show(fU p D z).length=z by simp[fU]];exact F));have HE:=zH (show dd lo hi w wr from(dd.iD bb).trans (by
    cases R:(Value.slice ao z H).ownBlock with
    |none=>rw[R]at B;exact dd.iD ⟨B.os,B.tape,B.output,B.size,fun k a7=>B.block k a7 Rx⟩
    |some b=>rw[R]at B;exact dd.AE B (Gn.lt b R).1 (a3 b R)))
   clear F B T am a2 a1;exact Xi
def vA(p c:Int)(a b lo hi n cap N m:Nat)(A:aq)(M:aC)(us:bN)(w:aa)(h:pI w lo hi (.slice A n cap) M us)(cR:hi<=(w:Nat))(c5:2<=p)(c6:p<=97)(cu:0<=c)(cz:c<p)(b8:a<M.length)(ca:b<M.length)(ct:a≠b)(ac:gZ p N m M)(ci:m<=1048576):ax 134 (qw (sW a b c) p A n cap) w (Chg lo hi (.slice A n cap) (M.set a (cV p (-c) (M.getD a []) (M.getD b []))) w):=by
 obtain⟨D,J⟩:=aw b8;obtain⟨F,O⟩:=aw ca;obtain⟨I7,Q,am,b5,b6⟩:=l_ (by rw[getD_some J,getD_some O]:M.set a (cV p (-c) (M.getD a []) (M.getD b []))=M.set a (cV p (-c) D F)) (ac.row D (aR J)) (ac.row F (aR O)) (show ∀x∈D,0<=x/\x<=1000 from fun x ba=>by have:=ac.el D (aR J) x ba;omega) (show ∀x∈F,0<=x/\x<=1000 from fun x ba=>by have:=ac.el F (aR O) x ba;omega);have cj:n=M.length:=XI;subst cj;clear ac;go_enter func134,ntmps134
 go_upto_region 12 with(fail)
 have R:Below w w (w.alloc (.cells (sW a b c) 161)):=(ai _ _).alloc (ah _) _;have E:=h.ext R;obtain⟨g,bb,ao,rfl,ad,U,cb,cF,cI,H⟩:=E.own.at J;obtain⟨cr,bd,ap,b7,a0,Z,cc,_,_,ab⟩:=E.own.at O;cases b7
 have cO:=h.up g rfl;have I:(w.alloc (.cells (sW a b c) 161)).heap[w.heap.size]?=some (.cells (sW a b c) 161 (0,0)):=aD _ _ rfl;obtain⟨a6,a9⟩:=aK (w.alloc (.cells (sW a b c) 161));rw[<-a9]at R E U cb Z cc I H ab ⊢;have a1:=aV I 1;have a2:=aV I 2;have a3:=aV I 3;simp only[dg,cT]at a1 a2 a3;have c7:IntKind.i64.wrap (-c)=-c:=Sq;obtain⟨a5,bi,co,cn,be,b4,b9⟩:=zH7 E ad a0 H R (E.ups _ (aR ad)) (fv E.own.outer H);have c0:g≠w.heap.size:=Ry;have T:=ab.view;obtain⟨_,_,bm,T,_⟩:=T;simp only[ez]at bm;obtain⟨rfl,_,rfl⟩:=bm;rcases zj m with a8|a8
 .obtain rfl:D=[]:=fw (by rw[Q.o];exact a8);obtain rfl:F=[]:=fw (by rw[am.o];exact a8);have a4:=zH (vy p (-c) bb bd ao ap a6.drew);clear a9 ad a0 I R E h J O H ab T;simp only[h_]at U Z;go_region_held3 (fun w'=>af w' w 1 (zI a)/\af w' w 2 (zI b)/\af w' w 3 (zI c)/\af w' g a (.slice bb 0 ao)/\af w' g b (.slice bd 0 ap))
   (first|exact⟨a1,a2,a3,U,Z⟩)
   ((go_at_call 147;refine a4.mono ?_;rintro e wr ⟨rfl,rfl⟩))
  go_wp2;go_end0
  refine⟨rfl,⟨us,?_⟩,(dd.iD be).trans (dd.iD (ai _ _).drew)⟩;rw[I7.o,show cV p (-c) [] []=([]:aH) from rfl,jy (by
   obtain⟨r,h1,br⟩:=a5.own.lp bi;have:=lR br;obtain⟨_,_,e,_,_⟩:=br.view;simp only[ez]at e;rw[h1,fw e.2.1.symm])]
  exact a5.ext (ai _ _).drew
 .obtain⟨z,rfl,ce,_⟩:=kU H (by have:=Q.o;omega);obtain⟨a7,rfl,cK,_⟩:=kU ab (by have:=am.o;omega);have ch:=b4 z rfl;have c4:a7≠z:=fun e=>by have:=E.own.apart _ _ _ _ z ad a0 rfl (by rw[<-e];rfl);omega
  have bp:g≠z:=by
   rcases b9.o with h1|h1
   .cases h1
   .exact WI
  have a4:=zH (vw p (-c) lo z ao ap (some ⟨a7,0,none⟩) D F a6.drew Ry Ry Ry Ry (wJ H) (T.ext (ai _ _).drew) (fun b o e=>by simp only[dt,pg]at e;omega) (by rw[Q.o,am.o]) (by rw[Q.o];exact ci) b5 b6);clear a9 ad a0 I R E h J O H ab T;go_region_held3 (fun w'=>af w' w 1 (zI a)/\af w' w 2 (zI b)/\af w' w 3 (zI c)/\af w' g a (.slice (aX z) D ao)/\af w' g b (.slice (aX a7) F ap))
   (first|exact bo|exact⟨a1,a2,a3,U,Z⟩)
   ((go_at_call 147;refine a4.mono ?_;rintro e wr ⟨rfl,bv,B⟩;have bz:=oP B (a:=⟨w,1,none⟩) a1 (Ry:w.heap.size≠z);have b0:=oP B (a:=⟨w,2,none⟩) a2 (Ry:w.heap.size≠z);have b1:=oP B (a:=⟨w,3,none⟩) a3 (Ry:w.heap.size≠z);have b2:=oP B (a:=⟨g,a,none⟩) U bp;have b3:=oP B (a:=⟨g,b,none⟩) Z bp;have bo:=aY bz (aY b0 (aY b1 (aY b2 b3)))))
  have B:=bq (dG a6 (some z)) B;have HN:=zH (a5.inner (r':=cV p (-c) D F) bi B (by
   unfold au;rw[show(cV p (-c) D F).length=D by simp[cV,Q.o,am.o]];exact bv))
  have HE:=zH (show dd lo hi w wr from(dd.iD be).trans (dd.AE B ce ch));clear bv B bo bz b0 b1 b2 b3;exact Xi
def zjD(B D E z:Nat)(v1 v2:av)(M X:aC)(w:aa)(e:Ending)(w':aa):Prop:=
 e=.returned (.tuple #[])/\Has w' B D v1 M/\Has w' E z v2 X/\dd B z w w'
def zd4(p k a b c:Int)(F D E z O n2 J B I Z H:Nat)(A1 A2:aq)(M X T U:aC)(us2:bN)(w:aa)(hp:af w I 0 (zI p))(hr:af w Z 0 (.slice A1 O J))(ha:af w H 0 (.slice A2 n2 B))(Kg:I<F∨D<=I)(Ke:H<F∨D<=H)(ab:pI w E z (.slice A2 n2 B) X us2)(h12:D<=E)(a0:E<=z)(ap:F<=D)(ao:z<=(w:Nat))(am:¬k=0∨(k=0/\¬b=a))(Q:∀W,aj w W->ax 134 (qw (nh k a b c) p A1 O J) W (Chg F D (.slice A1 O J) T W))(R:∀W,z<=W.heap.size->pI W E z (.slice A2 n2 B) X us2->ax 134 (qw (nh k a b c) p A2 n2 B) W (Chg E z (.slice A2 n2 B) U W)):ax 133 (sX (nh k a b c) (aX I) (aX Z) (aX H)) w (zjD F D E z (.slice A1 O J) (.slice A2 n2 B) T U w):=by
 obtain⟨H1,H2⟩:=bL Q R;clear Q R;have F0:=zH ab;have a1:=iC hp;have a2:=iC hr;clear ab;have ac:Below w w (w.alloc (.cells (nh k a b c) 161)):=(ai _ _).alloc (ah _) _;obtain⟨HB,HQ⟩:=bL ac (show(w.alloc (.cells (nh k a b c) 161)).heap[w.heap.size]?=some (.cells (nh k a b c) 161 (0,0)) from aD _ _ rfl);clear ac;rcases am with ad|⟨rfl,ad⟩
 ·
  exact ZS
 ·
  exact ZS
structure Ah(p:Int)(lo1 hi1 lo2 hi2 N cap1 cap2 bp br ba:Nat)(A1 A2:aq)(w:aa):Prop where
 hp:af w bp 0 (zI p)
 hr:af w br 0 (.slice A1 N cap1)
 ha:af w ba 0 (.slice A2 N cap2)
 bp1:hi2<=bp
 br1:hi2<=br
 ba1:hi2<=ba
 h12:hi1<=lo2
 hl1:lo1<=hi1
 hl2:lo2<=hi2
 h2w:hi2<=(w:Nat)
 f:cP p=true
structure wU(p:Int)(lo1 hi1 lo2 hi2 N n n2 cap1 cap2:Nat)(A1 A2:aq)(M X:aC)(w wr:aa):Prop where
 h1:Has wr lo1 hi1 (.slice A1 N cap1) M
 h2:Has wr lo2 hi2 (.slice A2 N cap2) X
 s1:gZ p N n M
 s2:gZ p N n2 X
 wi:dd lo1 hi2 w wr
section
variable{p:Int}{lo1 hi1 lo2 hi2 N n n2 cap1 cap2 bp br ba:Nat}{A1 A2:aq}{M X:aC}{w wr:aa}
def RTo(p:Int)(lo1 hi1 lo2 hi2 N n n2 cap1 cap2:Nat)(A1 A2:aq)(M X:aC)(w:aa)(e:Ending)(w':aa):Prop:=
 e=.returned (.tuple #[])/\wU p lo1 hi1 lo2 hi2 N n n2 cap1 cap2 A1 A2 M X w w'
def Ah.size(z:Ah p lo1 hi1 lo2 hi2 N cap1 cap2 bp br ba A1 A2 w)(S:wU p lo1 hi1 lo2 hi2 N n n2 cap1 cap2 A1 A2 M X w wr):hi2<=(wr:Nat):=by have:=S.wi.size;have:=z.h2w;omega
def Ah.cells(z:Ah p lo1 hi1 lo2 hi2 N cap1 cap2 bp br ba A1 A2 w)(S:wU p lo1 hi1 lo2 hi2 N n n2 cap1 cap2 A1 A2 M X w wr):af wr bp 0 (zI p)/\af wr br 0 (.slice A1 N cap1)/\af wr ba 0 (.slice A2 N cap2):=⟨S.wi.cell z.hp (aB z.bp1),S.wi.cell z.hr (aB z.br1),S.wi.cell z.ha (aB z.ba1)⟩
def wU.go{k a b c:Int}(z:Ah p lo1 hi1 lo2 hi2 N cap1 cap2 bp br ba A1 A2 w)(S:wU p lo1 hi1 lo2 hi2 N n n2 cap1 cap2 A1 A2 M X w wr)(J:¬k=0∨(k=0/\¬b=a))(t1:gZ p N n U)(t2:gZ p N n2 Ra)(D:∀us W,hi1<=W.heap.size->pI W lo1 hi1 (.slice A1 N cap1) M us->ax 134 (qw (nh k a b c) p A1 N cap1) W (Chg lo1 hi1 (.slice A1 N cap1) U W))(E:∀us W,hi2<=W.heap.size->pI W lo2 hi2 (.slice A2 N cap2) X us->ax 134 (qw (nh k a b c) p A2 N cap2) W (Chg lo2 hi2 (.slice A2 N cap2) Ra W)):ax 133 (sX (nh k a b c) (aX bp) (aX br) (aX ba)) wr (RTo p lo1 hi1 lo2 hi2 N n n2 cap1 cap2 A1 A2 U Ra w):=by obtain⟨Z,F⟩:=S.h1;obtain⟨us2,H⟩:=S.h2;obtain⟨c1,c2,c3⟩:=z.cells S;have O:=z.size S;have:=z.h12;have:=z.hl1;have:=z.hl2;have:=z.bp1;have:=z.ba1;refine(zd4 p k a b c lo1 hi1 lo2 hi2 N N cap1 cap2 bp br ba A1 A2 M X U Ra us2 wr c1 c2 c3 (aB Ry) (aB Ry) H z.h12 z.hl2 z.hl1 O J (fun W B=>D Z W (by have:=B.size;omega) (F.ext B)) (fun W B h=>E us2 W B h)).mono ?_;rintro e w' ⟨I,Q,R,T⟩;exact⟨I,Q,R,t1,t2,S.wi.trans T⟩
def wU.sw{a:Nat}(E:Ah p lo1 hi1 lo2 hi2 N cap1 cap2 bp br ba A1 A2 w)(S:wU p lo1 hi1 lo2 hi2 N n n2 cap1 cap2 A1 A2 M X w wr)(ha:a<N)(z:b<N)(D:a≠b):ax 133 (sX (wm a b) (aX bp) (aX br) (aX ba)) wr (RTo p lo1 hi1 lo2 hi2 N n n2 cap1 cap2 A1 A2 (tq M a b) (tq X a b) w):=wU.go E S (aB ⟨rfl,Ry⟩) (sI S.s1 ha z) (sI S.s2 ha z)
  (fun us W B h=>yd p 0 a b lo1 hi1 N cap1 A1 M us W h B TG (by rw[S.s1.1];exact z) D)
  (fun us W B h=>yd p 0 a b lo2 hi2 N cap2 A2 X us W h B TF (by rw[S.s2.1];exact z) D)
def wU.dv{a:Nat}{c:Int}(z:Ah p lo1 hi1 lo2 hi2 N cap1 cap2 bp br ba A1 A2 w)(S:wU p lo1 hi1 lo2 hi2 N n n2 cap1 cap2 A1 A2 M X w wr)(ha:a<N)(E:1<=c)(F:c<p)(H:n<=1048576)(I:n2<=1048576):ax 133 #[.agg #[.int .i64 1,a,(),c],.pointer (aX bp),.pointer (aX br),.pointer (aX ba)] wr (RTo p lo1 hi1 lo2 hi2 N n n2 cap1 cap2 A1 A2 (yM p (ec p c) M a) (yM p (ec p c) X a) w):=by
 have D:=(et z.f).1;exact wU.go z S (aG RC) (sJ D S.s1 ha) (sJ D S.s2 ha)
  (fun us W B h=>vd p c 0 a lo1 hi1 N cap1 N n A1 M us W h B z.f E F TG S.s1 H)
  (fun us W B h=>vd p c 0 a lo2 hi2 N cap2 N n2 A2 X us W h B z.f E F TF S.s2 I)
def wU.sb{a:Nat}{c:Int}(E:Ah p lo1 hi1 lo2 hi2 N cap1 cap2 bp br ba A1 A2 w)(S:wU p lo1 hi1 lo2 hi2 N n n2 cap1 cap2 A1 A2 M X w wr)(ha:a<N)(B:b<N)(F:a≠b)(H:0<=c)(I:c<p)(J:n<=1048576)(O:n2<=1048576):ax 133 (sX (sW a b c) (aX bp) (aX br) (aX ba)) wr (RTo p lo1 hi1 lo2 hi2 N n n2 cap1 cap2 A1 A2 (M.set a (cV p (-c) (M.getD a []) (M.getD b []))) (X.set a (cV p (-c) (X.getD a []) (X.getD b []))) w):=by
 have z:=et E.f;exact wU.go E S (aG RC) (yN z.1 S.s1 ha B).1 (yN z.1 S.s2 ha B).1
  (fun us W D h=>vA p c a b lo1 hi1 N cap1 N n A1 M us W h D z.1 z.2 H I TG (by rw[S.s1.1];exact B) F S.s1 J)
  (fun us W D h=>vA p c a b lo2 hi2 N cap2 N n2 A2 X us W h D z.1 z.2 H I TF (by rw[S.s2.1];exact B) F S.s2 O)
def wU.sw0{a:Nat}(B:Ah p lo1 hi1 lo2 hi2 N cap1 cap2 bp br ba A1 A2 w)(S:wU p lo1 hi1 lo2 hi2 N n n2 cap1 cap2 A1 A2 M X w wr):ax 133 (sX (wm a a) (aX bp) (aX br) (aX ba)) wr (RTo p lo1 hi1 lo2 hi2 N n n2 cap1 cap2 A1 A2 M X w):=by
 have z:Below wr wr (wr.alloc (.cells (wm a a) 161)):=(ai _ _).alloc (ah _) _;have D:Hd (RTo p lo1 hi1 lo2 hi2 N n n2 cap1 cap2 A1 A2 M X w (.returned (.tuple #[])) (wr.alloc (.cells (wm a a) 161))):=
  zH ⟨rfl,S.h1.ext z,S.h2.ext z,S.s1,S.s2,S.wi.trans (dd.iD z)⟩
 clear S B z;go_enter func133,ntmps133
 go_wp2;go_end0
 exact D.o
def wU.ex{a:Nat}(B:Ah p lo1 hi1 lo2 hi2 N cap1 cap2 bp br ba A1 A2 w)(S:wU p lo1 hi1 lo2 hi2 N n n2 cap1 cap2 A1 A2 M X w wr)(E:a<N)(F:b<N):ax 133 (sX (wm a b) (aX bp) (aX br) (aX ba)) wr (RTo p lo1 hi1 lo2 hi2 N n n2 cap1 cap2 A1 A2 (tq M a b) (tq X a b) w):=by
 by_cases h:a=b
 .subst h;have D:∀{Y:aC},Y.length=N->tq Y a a=Y:=fun {Y} H=>by unfold tq;obtain⟨x,z⟩:=aw (Ry:a<Y.length);rw[getD_some z,jy z,jy z]
  rw[D S.s1.1,D S.s2.1];exact wU.sw0 B S
 .exact wU.sw B S E F h
def wU.at1(S:wU p lo1 hi1 lo2 hi2 N n n2 cap1 cap2 A1 A2 M X w wr)(hi:i<N)(Q:d<n):∃g z c,A1=some ⟨g,0,none⟩/\af wr g i (.slice (aX z) n c)/\af wr z d (zI (eM M i d)):=by obtain⟨us,h⟩:=S.h1;obtain⟨r,hr⟩:=aw (by rw[S.s1.1];exact hi:i<M.length);have H:=S.s1.row r (aR hr);obtain⟨x,hx⟩:=aw (Ry:d<r.length);have F:eM M i d=x:=VP;obtain⟨g,J,c,rfl,I,D,_⟩:=h.own.at hr;obtain⟨z,O,B,E,_⟩:=h.own.fB hr hx;rw[I]at B;simp only[dt,ez]at B;obtain⟨rfl,_,rfl⟩:=B;rw[H]at D;rw[F];exact⟨g,z,c,rfl,D,E⟩
end
end Go.Proofs.YtdpgblncijojiaaGreatDoor

/-
  PROVED: BusctlAgree, in plain Lean. Conditions: none.
-/
import Derived.Test.YtjceiokllpmnkaaGreatCh
namespace Go.Ev.M
open Go.Proofs
set_option maxRecDepth 100000
set_option linter.unusedVariables false
set_option linter.unusedSimpArgs false
open Go.Ev.Pl
def IB(n:Node):Int:=n.2.2.2.1.2.2.2.2.2.1
def ya(m:ap)(a b:Node):Prop:=dh m a=0∧dh m b=0∧kJ a=true∧kJ b=true∧a.2.2.1=b.2.2.1∧IB a=0∧IB b=0
theorem T5{v:sn}{s:Int}{o:gU}(h:lM v=0)(hf:v.2.2.2.2.2.1=0)(h0:0≤s)(h1:s<v.2.1)(h2:s≠v.1)(ho:o.1=1∨o.1=2∨(o.1=3∧o.2.1=0)) :
  (fV (v,s,o)).1.2.2.1=(bif decide (o.1=3) then gm v.2.2.1 s else ky v.2.2.1 s)∧(fV (v,s,o)).1.2.2.2.2.2.1=0:=by
 obtain⟨a,b,c,d,e,f,g⟩:=v
 have hf:f=0:=hf
 subst hf
 have hok:=kG.1 h
 have h1:s<b:=h1
 have h2:s≠a:=h2
 have n1:=Af hok h0 h1 h2 (by decide)
 have hm:=hok
 unfold gT at hm
 rcases ho with k|k|⟨k,k2⟩
 ·rw[Ck k,n1,decide_eq_false (by omega)];exact⟨rfl,rfl⟩
 ·rw[s7 k,xS n1 (show 0≤e by omega) (show e≤1048576 by omega),decide_eq_false (by omega)];exact⟨rfl,rfl⟩
 ·rw[BH k,k2,Ai hok h0 h1 h2,decide_eq_true k];exact⟨rfl,rfl⟩
theorem QO{v:sn}{c:dM}{s:Int}{seen:List Seen}(hf:v.2.2.2.2.2.1=0)(h:(eD (c,v,s,seen)).2=0):0≤s∧s<v.2.1∧s≠v.1∧((eD (c,v,s,seen)).1.1=1∨(eD (c,v,s,seen)).1.1=2∨((eD (c,v,s,seen)).1.1=3∧(eD (c,v,s,seen)).1.2.1=0)):=by
 obtain⟨t,p,m,n,x⟩:=c
 obtain⟨_,h2,h3,h4,h5⟩:=kN h
 refine⟨h2,h3,h4,?_⟩
 rcases h5 with ⟨k,hk,h6,h7⟩|h6|h6
 ·obtain⟨a,b,c,d,e,f,g⟩:=v
  have hf:f=0:=hf
  subst hf
  have hk:k<1:=hk
  exact .inr (.inr ⟨h6,by rw[h7];omega⟩)
 ·exact .inl h6
 ·exact .inr (.inl h6)
theorem FE{v w:sn}{c:dM}{s:Int}{seen:List Seen}(hv:lM v=0)(hw:lM w=0)(fv:v.2.2.2.2.2.1=0)(fw:w.2.2.2.2.2.1=0)(h1:v.2.1=w.2.1)(h2:v.2.2.1=w.2.2.1)(nv:¬s=v.1)(nw:¬s=w.1):eD (c,v,s,seen)=eD (c,w,s,seen):=by
 obtain⟨t,p,m,n,x⟩:=c
 obtain⟨a,b,c,d,e,f,g⟩:=v
 obtain⟨a',b',c',d',e',f',g'⟩:=w
 have fv:f=0:=fv
 have fw:f'=0:=fw
 have h1:b=b':=h1
 have h2:c=c':=h2
 subst fv fw h1 h2
 rw[eD,eD]
 simp only
 rw[show i7 (a,b,c,d,e,0,g)=0 from V0.trans hv,show i7 (a',b,c,d',e',0,g')=0 from V0.trans hw,show(s==a)=false from by simpa using nv,show(s==a')=false from by simpa using nw,show Ft ((a,b,c,d,e,0,g),s)=[gm c s] by rw[Ft,tA];rfl,show Ft ((a',b,c,d',e',0,g'),s)=[gm c s] by rw[Ft,tA];rfl]
theorem Ae{x:Node}:(sS x).2.2=x.2.2∧(kJ x=true→kJ (sS x)=true):=by
 rw[sS]
 cases decide (x.2.1=4) && !(A4 x.2.2.2.1)
 ·exact⟨rfl,fun h=>h⟩
 ·exact⟨rfl,fun _=>rfl⟩
theorem EB{m:ap}{n:Node}{o:gU}(h:o.1=1∨o.1=2∨(o.1=3∧o.2.1=0)):(iY m n o).1=1∨(iY m n o).1=2∨((iY m n o).1=3∧(iY m n o).2.1=0):=by
 rw[iY]
 cases decide (o.1=3) && !(oh m n.2.2.1 o.2.2.2.1)
 ·exact h
 ·exact .inr (.inl rfl)
theorem JV{m:ap}{n:Node}{o:gU}(hv:lM n.2.2.2.1=0)(hf:IB n=0)(h0:0≤n.2.2.1.2.1)(h1:n.2.2.1.2.1<n.2.2.2.1.2.1)(h2:n.2.2.1.2.1≠n.2.2.2.1.1)(ho:o.1=1∨o.1=2∨(o.1=3∧o.2.1=0))(hi:kJ n=true) :
  (rZ m n o).2.2.1=(bif decide (o.1=3) then iT m (n.2.2.1.1,n.2.2.1.2.1,n.2.2.1.2.2.1,n.2.2.1.2.2.2.1,gm n.2.2.2.1.2.2.1 n.2.2.1.2.1) o.2.2.2.1.2.1 else(n.2.2.1.1,n.2.2.1.2.1,n.2.2.1.2.2.1,n.2.2.1.2.2.2.1,ky n.2.2.2.1.2.2.1 n.2.2.1.2.1))∧IB (rZ m n o)=0∧kJ (rZ m n o)=true:=by
 obtain⟨e1,e2⟩:=T5 hv hf h0 h1 h2 ho
 have e1:(vA n o).2.2.1=_:=e1
 have e2:(vA n o).2.2.2.2.2.1=0:=e2
 rw[rZ,IB,Ae.1]
 cases k:decide (o.1=3)
 ·rw[k,cond_false] at e1
  refine⟨?_,e2,Ae.2 hi⟩
  rw[cond_false,cond_false]
  show(n.2.2.1.1,n.2.2.1.2.1,n.2.2.1.2.2.1,n.2.2.1.2.2.2.1,(vA n o).2.2.1)=_
  rw[e1]
 ·rw[k,cond_true] at e1
  refine⟨?_,e2,Ae.2 hi⟩
  rw[cond_true,cond_true]
  show iT m (n.2.2.1.1,n.2.2.1.2.1,n.2.2.1.2.2.1,n.2.2.1.2.2.2.1,(vA n o).2.2.1) _=_
  rw[e1]
theorem H_{m:ap}{a b:Node}{s:List Seen}(h:ya m a b)(na:¬a.2.2.1.2.1=a.1)(nb:¬a.2.2.1.2.1=b.1) :
  (j_ m a s).2.2=(j_ m b s).2.2∧((j_ m a s).2.2=0→(j_ m a s).2.1=(j_ m b s).2.1∧ya m (j_ m a s).1 (j_ m b s).1):=by
 obtain⟨ha,hb,ia,ib,hC,fa,fb⟩:=h
 have ca:=jJ ha ia
 have cb:=jJ hb ib
 have nb':¬b.2.2.1.2.1=b.1:=hC▸nb
 have hset:a.2.2.2.1.2.2.1=b.2.2.2.1.2.2.1:=by rw[←ca.2.2.2.2,←cb.2.2.2.2,hC]
 have hs:jl a s=jl b s:=by
  rw[jl,jl,←hC]
  exact FE ca.2.1 cb.2.1 fa fb (ca.2.2.2.1.trans cb.2.2.2.1.symm) hset (ca.2.2.1.symm▸na) (cb.2.2.1.symm▸nb)
 have hl:∀o,iY m a o=iY m b o:=fun o=>by rw[iY,iY,hC]
 have ma:=Br (s:=s) ha
 have mb:=Br (s:=s) hb
 have ea:j_ m a s=bif decide ((jl a s).2=0) then(rZ m a (iY m a (jl a s).1),iY m a (jl a s).1,0) else(gD,zD,(jl a s).2):=by rw[j_,decide_eq_true ha,ia,decide_eq_true na];rfl
 have eb:j_ m b s=bif decide ((jl a s).2=0) then(rZ m b (iY m a (jl a s).1),iY m a (jl a s).1,0) else(gD,zD,(jl a s).2):=by rw[j_,decide_eq_true hb,ib,decide_eq_true nb',←hs,←hl];rfl
 rw[ea] at ma
 rw[eb] at mb
 rw[ea,eb]
 by_cases g:(jl a s).2=0
 ·rw[decide_eq_true g,cond_true] at ma mb
  rw[decide_eq_true g,cond_true,cond_true]
  obtain⟨z1,z2,z3,z4⟩:=QO fa g
  have z4:=EB (m:=m) (n:=a) (o:=(jl a s).1) z4
  have z5:b.2.2.1.2.1≠b.2.2.2.1.1:=cb.2.2.1.symm▸nb'
  generalize iY m a (jl a s).1=o at *
  obtain⟨x1,x2,x3⟩:=JV (m:=m) ca.2.1 fa z1 z2 z3 z4 ia
  obtain⟨y1,y2,y3⟩:=JV (m:=m) cb.2.1 fb (hC▸z1) (by rw[cb.2.2.2.1,←hC,←ca.2.2.2.1];exact z2) z5 z4 ib
  refine⟨rfl,fun _=>⟨rfl,ma rfl,mb rfl,x3,y3,?_,x2,y2⟩⟩
  show(rZ m a o).2.2.1=(rZ m b o).2.2.1
  rw[x1,y1,hC,hset]
 ·rw[decide_eq_false g,cond_false,cond_false]
  exact⟨rfl,fun k=>absurd k g⟩
theorem Jr{m:ap}{a b:Node}(h:ya m a b):(mU m a).2=0∧(mU m b).2=0∧ya m (mU m a).1 (mU m b).1:=by
 obtain⟨ha,hb,ia,ib,hC,fa,fb⟩:=h
 have key:∀{n:Node},dh m n=0→kJ n=true→(mU m n).2=0∧kJ (mU m n).1=true∧(mU m n).1.2.2.1=(gB n.2.2.1 m.1).1∧IB (mU m n).1=IB n:=fun {n} h i=>by
  rw[mU,decide_eq_true h,i]
  cases decide ((gB n.2.2.1 m.1).1.2.1=0)
  ·exact⟨rfl,i,rfl,rfl⟩
  ·exact⟨rfl,i,rfl,rfl⟩
 obtain⟨a1,a2,a3,a4⟩:=key ha ia
 obtain⟨b1,b2,b3,b4⟩:=key hb ib
 exact⟨a1,b1,Bc ha a1,Bc hb b1,a2,b2,by rw[a3,b3,hC],a4.trans fa,b4.trans fb⟩
open Go.Ev.Pl
structure ED where
 (a0:List (List Seen)) (a1:Int) (a3:ap)
inductive Iv where
 | c0 (p:ED) (a2:Int) (a4:Node) (a5:Node)
noncomputable def Ls:Iv→f_
 | .c0 p a2 a4 a5=>⟨[⟨3,175,(en [(4,.ptr 0 0),(5,.ptr 1 0),(6,.ptr 2 0),(79,.sl (.slice aU) p.a0),(80,vi p.a1),(81,vi a2)]),[.inLoop (cw Tryz.f3 [1,1,0,1,0,0]),.inBlock 0,.code (cw Tryz.f3 [1,1,1])],[],none⟩],[.flat false (dc c_ p.a3),.flat false (dc eE a4),.flat false (dc eE a5),.dead]⟩
def Ly(A:bu)(m:ap)(a:Node)(b:Node)(seen:List (List Seen)):LT Bool Iv:=.need (A.k (@tt Unit) ()) (.br (A.not (A.k lv ())) (.need (A.k (@tt Unit) ()) (.ret (A.k lv ()))) (.need (A.k (@tt Node) a) (.br (A.not (A.k uP a)) (.need (A.k (@tt Unit) ()) (.ret (A.k lv ()))) (.need (A.k (@tt Node) b) (.br (A.not (A.k uP b)) (.need (A.k (@tt Unit) ()) (.ret (A.k lv ()))) (.br (A.not (A.and (A.c .eql a.2.2.1.1 b.2.2.1.1) (A.and (A.c .eql a.2.2.1.2.1 b.2.2.1.2.1) (A.and (A.c .eql a.2.2.1.2.2.1 b.2.2.1.2.2.1) (A.and (A.c .eql a.2.2.1.2.2.2.1 b.2.2.1.2.2.2.1) (A.and (A.c .eql a.2.2.1.2.2.2.2 b.2.2.1.2.2.2.2) true)))))) (.need (A.k (@tt Unit) ()) (.ret (A.k lv ()))) (.br (A.c .neq a.2.2.2.1.2.2.2.2.2.1 0) (.need (A.k (@tt Unit) ()) (.ret (A.k lv ()))) (.br (A.c .neq b.2.2.2.1.2.2.2.2.2.1 0) (.need (A.k (@tt Unit) ()) (.ret (A.k lv ()))) (.need (A.k (@tt (ap×Node)) (m,a)) (.br (A.c .neq (A.k vM (m,a)) 0) (.need (A.k (@tt Unit) ()) (.ret (A.k lv ()))) (.need (A.k (@tt (ap×Node)) (m,b)) (.br (A.c .neq (A.k vM (m,b)) 0) (.need (A.k (@tt Unit) ()) (.ret (A.k lv ()))) (.need (A.k (@tt Node) a) (.br (A.not (A.k cN a)) (.need (A.k (@tt Unit) ()) (.ret (A.k lv ()))) (.need (A.k (@tt Node) b) (.br (A.not (A.k cN b)) (.need (A.k (@tt Unit) ()) (.ret (A.k lv ()))) (.need (A.and (A.c .leq 0 0) (A.and (A.c .leq 0 (A.mn (A.l seen) 9)) (A.c .leq (A.mn (A.l seen) 9) (A.l seen)))) (.more (.c0 ⟨(A.s seen 0 (A.mn (A.l seen) 9)),(A.l (A.s seen 0 (A.mn (A.l seen) 9))),m⟩ 0 a b)))))))))))))))))))
def vH(A:bu):Iv→LT Bool Iv
 | .c0 p a2 a4 a5=>.br (A.c .lss a2 p.a1) (.need (A.and (A.c .leq 0 a2) (A.c .lss a2 (A.l p.a0))) (.br (A.c .neq a4.2.2.1.2.1 a4.1) (.br (A.c .neq a4.2.2.1.2.1 a5.1) (.need (A.k (@tt (List Seen)) (A.n (.slice aU) p.a0 a2:List Seen)) (.need (A.k (@tt (ap×Node×List Seen)) (p.a3,a4,(A.k cm (A.n (.slice aU) p.a0 a2:List Seen)))) (.need (A.k (@tt (ap×Node×List Seen)) (p.a3,a4,(A.k cm (A.n (.slice aU) p.a0 a2:List Seen)))) (.need (A.k (@tt (List Seen)) (A.n (.slice aU) p.a0 a2:List Seen)) (.need (A.k (@tt (ap×Node×List Seen)) (p.a3,a4,(A.k cm (A.n (.slice aU) p.a0 a2:List Seen)))) (.need (A.k (@tt (List Seen)) (A.n (.slice aU) p.a0 a2:List Seen)) (.need (A.k (@tt (List Seen)) (A.n (.slice aU) p.a0 a2:List Seen)) (.need (A.k (@tt (ap×Node×List Seen)) (p.a3,a5,(A.k cm (A.n (.slice aU) p.a0 a2:List Seen)))) (.need (A.k (@tt (ap×Node×List Seen)) (p.a3,a5,(A.k cm (A.n (.slice aU) p.a0 a2:List Seen)))) (.need (A.k (@tt (List Seen)) (A.n (.slice aU) p.a0 a2:List Seen)) (.need (A.k (@tt (ap×Node×List Seen)) (p.a3,a5,(A.k cm (A.n (.slice aU) p.a0 a2:List Seen)))) (.need (A.k (@tt (List Seen)) (A.n (.slice aU) p.a0 a2:List Seen)) (.br (A.c .neq (A.k da (p.a3,a4,(A.k cm (A.n (.slice aU) p.a0 a2:List Seen)))).2.2 (A.k da (p.a3,a5,(A.k cm (A.n (.slice aU) p.a0 a2:List Seen)))).2.2) (.ret false) (.br (A.c .neq (A.k da (p.a3,a4,(A.k cm (A.n (.slice aU) p.a0 a2:List Seen)))).2.2 0) (.ret true) (.br (A.not (A.and (A.c .eql (A.k da (p.a3,a4,(A.k cm (A.n (.slice aU) p.a0 a2:List Seen)))).1.2.2.1.1 (A.k da (p.a3,a5,(A.k cm (A.n (.slice aU) p.a0 a2:List Seen)))).1.2.2.1.1) (A.and (A.c .eql (A.k da (p.a3,a4,(A.k cm (A.n (.slice aU) p.a0 a2:List Seen)))).1.2.2.1.2.1 (A.k da (p.a3,a5,(A.k cm (A.n (.slice aU) p.a0 a2:List Seen)))).1.2.2.1.2.1) (A.and (A.c .eql (A.k da (p.a3,a4,(A.k cm (A.n (.slice aU) p.a0 a2:List Seen)))).1.2.2.1.2.2.1 (A.k da (p.a3,a5,(A.k cm (A.n (.slice aU) p.a0 a2:List Seen)))).1.2.2.1.2.2.1) (A.and (A.c .eql (A.k da (p.a3,a4,(A.k cm (A.n (.slice aU) p.a0 a2:List Seen)))).1.2.2.1.2.2.2.1 (A.k da (p.a3,a5,(A.k cm (A.n (.slice aU) p.a0 a2:List Seen)))).1.2.2.1.2.2.2.1) (A.and (A.c .eql (A.k da (p.a3,a4,(A.k cm (A.n (.slice aU) p.a0 a2:List Seen)))).1.2.2.1.2.2.2.2 (A.k da (p.a3,a5,(A.k cm (A.n (.slice aU) p.a0 a2:List Seen)))).1.2.2.1.2.2.2.2) true)))))) (.ret false) (.need (A.k (@tt ((Int×Int×Int×(Int×Int×(Int×Int×Int×Int×Int)×Int×List Int)×Int)×(Int×Int×Int×(Int×Int×(Int×Int×Int×Int×Int)×Int×List Int)×Int))) ((A.k da (p.a3,a4,(A.k cm (A.n (.slice aU) p.a0 a2:List Seen)))).2.1,(A.k da (p.a3,a5,(A.k cm (A.n (.slice aU) p.a0 a2:List Seen)))).2.1)) (.br (A.not (A.k G0 ((A.k da (p.a3,a4,(A.k cm (A.n (.slice aU) p.a0 a2:List Seen)))).2.1,(A.k da (p.a3,a5,(A.k cm (A.n (.slice aU) p.a0 a2:List Seen)))).2.1))) (.ret false) (.br (A.c .neq (A.k da (p.a3,a4,(A.k cm (A.n (.slice aU) p.a0 a2:List Seen)))).1.2.2.2.1.2.2.2.2.2.1 0) (.ret false) (.br (A.c .neq (A.k da (p.a3,a5,(A.k cm (A.n (.slice aU) p.a0 a2:List Seen)))).1.2.2.2.1.2.2.2.2.2.1 0) (.ret false) (.need (A.k (@tt (ap×Node)) (p.a3,(A.k da (p.a3,a4,(A.k cm (A.n (.slice aU) p.a0 a2:List Seen)))).1)) (.need (A.k (@tt (ap×Node)) (p.a3,(A.k da (p.a3,a5,(A.k cm (A.n (.slice aU) p.a0 a2:List Seen)))).1)) (.br (A.c .neq (A.k bp (p.a3,(A.k da (p.a3,a4,(A.k cm (A.n (.slice aU) p.a0 a2:List Seen)))).1)).2 0) (.ret false) (.br (A.c .neq (A.k bp (p.a3,(A.k da (p.a3,a5,(A.k cm (A.n (.slice aU) p.a0 a2:List Seen)))).1)).2 0) (.ret false) (.br (A.not (A.and (A.c .eql (A.k bp (p.a3,(A.k da (p.a3,a4,(A.k cm (A.n (.slice aU) p.a0 a2:List Seen)))).1)).1.2.2.1.1 (A.k bp (p.a3,(A.k da (p.a3,a5,(A.k cm (A.n (.slice aU) p.a0 a2:List Seen)))).1)).1.2.2.1.1) (A.and (A.c .eql (A.k bp (p.a3,(A.k da (p.a3,a4,(A.k cm (A.n (.slice aU) p.a0 a2:List Seen)))).1)).1.2.2.1.2.1 (A.k bp (p.a3,(A.k da (p.a3,a5,(A.k cm (A.n (.slice aU) p.a0 a2:List Seen)))).1)).1.2.2.1.2.1) (A.and (A.c .eql (A.k bp (p.a3,(A.k da (p.a3,a4,(A.k cm (A.n (.slice aU) p.a0 a2:List Seen)))).1)).1.2.2.1.2.2.1 (A.k bp (p.a3,(A.k da (p.a3,a5,(A.k cm (A.n (.slice aU) p.a0 a2:List Seen)))).1)).1.2.2.1.2.2.1) (A.and (A.c .eql (A.k bp (p.a3,(A.k da (p.a3,a4,(A.k cm (A.n (.slice aU) p.a0 a2:List Seen)))).1)).1.2.2.1.2.2.2.1 (A.k bp (p.a3,(A.k da (p.a3,a5,(A.k cm (A.n (.slice aU) p.a0 a2:List Seen)))).1)).1.2.2.1.2.2.2.1) (A.and (A.c .eql (A.k bp (p.a3,(A.k da (p.a3,a4,(A.k cm (A.n (.slice aU) p.a0 a2:List Seen)))).1)).1.2.2.1.2.2.2.2 (A.k bp (p.a3,(A.k da (p.a3,a5,(A.k cm (A.n (.slice aU) p.a0 a2:List Seen)))).1)).1.2.2.1.2.2.2.2) true)))))) (.ret false) (.more (.c0 p (A.b .add .i64 a2 1) (A.k bp (p.a3,(A.k da (p.a3,a4,(A.k cm (A.n (.slice aU) p.a0 a2:List Seen)))).1)).1 (A.k bp (p.a3,(A.k da (p.a3,a5,(A.k cm (A.n (.slice aU) p.a0 a2:List Seen)))).1)).1)))))))))))))))))))))))))) (.need (A.k (@tt (ap×Node)) (p.a3,a4)) (.need (A.k (@tt (ap×Node)) (p.a3,a5)) (.br (A.c .neq (A.k bp (p.a3,a4)).2 0) (.ret false) (.br (A.c .neq (A.k bp (p.a3,a5)).2 0) (.ret false) (.br (A.not (A.and (A.c .eql (A.k bp (p.a3,a4)).1.2.2.1.1 (A.k bp (p.a3,a5)).1.2.2.1.1) (A.and (A.c .eql (A.k bp (p.a3,a4)).1.2.2.1.2.1 (A.k bp (p.a3,a5)).1.2.2.1.2.1) (A.and (A.c .eql (A.k bp (p.a3,a4)).1.2.2.1.2.2.1 (A.k bp (p.a3,a5)).1.2.2.1.2.2.1) (A.and (A.c .eql (A.k bp (p.a3,a4)).1.2.2.1.2.2.2.1 (A.k bp (p.a3,a5)).1.2.2.1.2.2.2.1) (A.and (A.c .eql (A.k bp (p.a3,a4)).1.2.2.1.2.2.2.2 (A.k bp (p.a3,a5)).1.2.2.1.2.2.2.2) true)))))) (.ret false) (.more (.c0 p (A.b .add .i64 a2 1) (A.k bp (p.a3,a4)).1 (A.k bp (p.a3,a5)).1)))))))) (.need (A.k (@tt (ap×Node)) (p.a3,a4)) (.need (A.k (@tt (ap×Node)) (p.a3,a5)) (.br (A.c .neq (A.k bp (p.a3,a4)).2 0) (.ret false) (.br (A.c .neq (A.k bp (p.a3,a5)).2 0) (.ret false) (.br (A.not (A.and (A.c .eql (A.k bp (p.a3,a4)).1.2.2.1.1 (A.k bp (p.a3,a5)).1.2.2.1.1) (A.and (A.c .eql (A.k bp (p.a3,a4)).1.2.2.1.2.1 (A.k bp (p.a3,a5)).1.2.2.1.2.1) (A.and (A.c .eql (A.k bp (p.a3,a4)).1.2.2.1.2.2.1 (A.k bp (p.a3,a5)).1.2.2.1.2.2.1) (A.and (A.c .eql (A.k bp (p.a3,a4)).1.2.2.1.2.2.2.1 (A.k bp (p.a3,a5)).1.2.2.1.2.2.2.1) (A.and (A.c .eql (A.k bp (p.a3,a4)).1.2.2.1.2.2.2.2 (A.k bp (p.a3,a5)).1.2.2.1.2.2.2.2) true)))))) (.ret false) (.more (.c0 p (A.b .add .i64 a2 1) (A.k bp (p.a3,a4)).1 (A.k bp (p.a3,a5)).1))))))))) (.ret true)
theorem xD{m:ap}{a b:Node}{Y:Type}{step:Y→LT Bool Y}{y:Node→Node→Y}(h:ya m a b)(hg:∀x z,ya m x z→aD step (.more (y x z)) true):aD step (.br (ah.c .neq (ah.k bp (m,a)).2 0) (.ret false) (.br (ah.c .neq (ah.k bp (m,b)).2 0) (.ret false) (.br (ah.not (ah.and (ah.c .eql (ah.k bp (m,a)).1.2.2.1.1 (ah.k bp (m,b)).1.2.2.1.1) (ah.and (ah.c .eql (ah.k bp (m,a)).1.2.2.1.2.1 (ah.k bp (m,b)).1.2.2.1.2.1) (ah.and (ah.c .eql (ah.k bp (m,a)).1.2.2.1.2.2.1 (ah.k bp (m,b)).1.2.2.1.2.2.1) (ah.and (ah.c .eql (ah.k bp (m,a)).1.2.2.1.2.2.2.1 (ah.k bp (m,b)).1.2.2.1.2.2.2.1) (ah.and (ah.c .eql (ah.k bp (m,a)).1.2.2.1.2.2.2.2 (ah.k bp (m,b)).1.2.2.1.2.2.2.2) true)))))) (.ret false) (.more (y (ah.k bp (m,a)).1 (ah.k bp (m,b)).1))))) true:=by
 obtain⟨h1,h2,h3⟩:=Jr h
 rw[show ah.k bp (m,a)=mU m a from rfl,show ah.k bp (m,b)=mU m b from rfl,h1,h2]
 refine(ai rfl).2 ((ai rfl).2 ((ai ?_).2 (hg _ _ h3)))
 rw[h3.2.2.2.2.1,je,je,je,je,je];rfl
theorem Bl{c d:dM}:ah.and (ah.c .eql c.1 d.1) (ah.and (ah.c .eql c.2.1 d.2.1) (ah.and (ah.c .eql c.2.2.1 d.2.2.1) (ah.and (ah.c .eql c.2.2.2.1 d.2.2.2.1) (ah.and (ah.c .eql c.2.2.2.2 d.2.2.2.2) true))))=decide (c=d):=by
 obtain⟨a,b,e,f,g⟩:=c
 obtain⟨a',b',e',f',g'⟩:=d
 rw[Bool.eq_iff_iff]
 simp only[aL,aB,Bool.and_true,Bool.and_eq_true,beq_iff_eq,decide_eq_true_eq,Prod.mk.injEq]
theorem Mu{p:ED}(hp:p.a1=(p.a0.length:Int))(h9:p.a1≤9):∀(j:Nat) (i:Int) (a b:Node),0≤i→p.a1-i=j→ya p.a3 a b→aD (vH ah) (.more (.c0 p i a b)) true:=by
 intro j
 induction j with
 | zero=>
   intro i a b hi hj h
   rw[ak,vH]
   exact(ai (by rw[ao];exact decide_eq_false (by omega))).2 (.ret _)
 | succ j ih=>
   intro i a b hi hj h
   have hnext:∀x z,ya p.a3 x z→aD (vH ah) (.more (.c0 p (ah.b .add .i64 i 1) x z)) true:=fun x z g=>by
    rw[show ah.b .add .i64 i 1=i+1 by rw[bi,fU (by omega) (by omega)]]
    exact ih (i+1) x z (by omega) (by omega) g
   rw[ak,vH]
   refine(aj (by rw[ao];exact decide_eq_true (by omega))).2 (af.2 ⟨?_,?_⟩)
   ·rw[ax,ao,show ah.l p.a0=(p.a0.length:Int) from rfl,decide_eq_true hi,decide_eq_true (show i<(p.a0.length:Int) by omega)];rfl
   generalize ah.k cm (ah.n (.slice aU) p.a0 i:List Seen)=s
   refine aM (p:=¬a.2.2.1.2.1=a.1) bg (fun n1=>?_) fun _=>?_
   ·refine aM (p:=¬a.2.2.1.2.1=b.1) bg (fun n2=>?_) fun _=>?_
    ·obtain⟨e1,e2⟩:=H_ (s:=s) h n1 n2
     refine af.2 ⟨rfl,af.2 ⟨rfl,af.2 ⟨rfl,af.2 ⟨rfl,af.2 ⟨rfl,af.2 ⟨rfl,af.2 ⟨rfl,af.2 ⟨rfl,af.2 ⟨rfl,af.2 ⟨rfl,af.2 ⟨rfl,af.2 ⟨rfl,?_⟩⟩⟩⟩⟩⟩⟩⟩⟩⟩⟩⟩
     rw[show ah.k da (p.a3,a,s)=j_ p.a3 a s from rfl,show ah.k da (p.a3,b,s)=j_ p.a3 b s from rfl]
     generalize j_ p.a3 a s=X at e1 e2 ⊢
     generalize j_ p.a3 b s=W at e1 e2 ⊢
     obtain⟨x,o,e⟩:=X
     obtain⟨z,o',e'⟩:=W
     have e1:e=e':=e1
     subst e1
     refine(ai CY).2 (aM (p:=¬e=0) bg (fun _=>.ret _) fun k=>?_)
     obtain⟨e3,g⟩:=e2 (Decidable.not_not.1 k)
     have e3:o=o':=e3
     subst e3
     have g:ya p.a3 x z:=g
     refine(ai ?_).2 (af.2 ⟨rfl,(ai ?_).2 ((ai ?_).2 ((ai ?_).2 (af.2 ⟨rfl,af.2 ⟨rfl,xD g hnext⟩⟩)))⟩)
     ·show ah.not (ah.and (ah.c .eql x.2.2.1.1 z.2.2.1.1) (ah.and (ah.c .eql x.2.2.1.2.1 z.2.2.1.2.1) (ah.and (ah.c .eql x.2.2.1.2.2.1 z.2.2.1.2.2.1) (ah.and (ah.c .eql x.2.2.1.2.2.2.1 z.2.2.1.2.2.2.1) (ah.and (ah.c .eql x.2.2.1.2.2.2.2 z.2.2.1.2.2.2.2) true)))))=false
      rw[Bl,decide_eq_true g.2.2.2.2.1];rfl
     ·show ah.not (G0 (o,o))=false
      rw[Vm];rfl
     ·show ah.c .neq (IB x) 0=false
      rw[g.2.2.2.2.2.1];rfl
     ·show ah.c .neq (IB z) 0=false
      rw[g.2.2.2.2.2.2];rfl
    ·exact af.2 ⟨rfl,af.2 ⟨rfl,xD h hnext⟩⟩
   ·exact af.2 ⟨rfl,af.2 ⟨rfl,xD h hnext⟩⟩
theorem Lc{m:ap}{a b:Node}{seen:List (List Seen)}:aD (vH ah) (Ly ah m a b seen) true:=by
 unfold Ly
 refine af.2 ⟨rfl,(ai rfl).2 (af.2 ⟨rfl,?_⟩)⟩
 show aD (vH ah) (.br (ah.not (uP a)) _ _) true
 cases uP a
 ·exact(aj rfl).2 (af.2 ⟨rfl,.ret _⟩)
 refine(ai rfl).2 (af.2 ⟨rfl,?_⟩)
 show aD (vH ah) (.br (ah.not (uP b)) _ _) true
 cases uP b
 ·exact(aj rfl).2 (af.2 ⟨rfl,.ret _⟩)
 refine(ai rfl).2 (aM (p:=¬a.2.2.1=b.2.2.1) (by rw[Bl];exact Bool.eq_iff_iff.2 (by rw[a_,Bool.not_eq_true',decide_eq_false_iff_not,decide_eq_true_eq])) (fun _=>af.2 ⟨rfl,.ret _⟩) fun h1=>?_)
 refine aM (p:=¬a.2.2.2.1.2.2.2.2.2.1=0) bg (fun _=>af.2 ⟨rfl,.ret _⟩) fun h2=>?_
 refine aM (p:=¬b.2.2.2.1.2.2.2.2.2.1=0) bg (fun _=>af.2 ⟨rfl,.ret _⟩) fun h3=>af.2 ⟨rfl,?_⟩
 refine aM (p:=¬dh m a=0) bg (fun _=>af.2 ⟨rfl,.ret _⟩) fun h4=>af.2 ⟨rfl,?_⟩
 refine aM (p:=¬dh m b=0) bg (fun _=>af.2 ⟨rfl,.ret _⟩) fun h5=>af.2 ⟨rfl,?_⟩
 show aD (vH ah) (.br (ah.not (kJ a)) _ _) true
 cases h6:kJ a
 ·exact(aj rfl).2 (af.2 ⟨rfl,.ret _⟩)
 refine(ai rfl).2 (af.2 ⟨rfl,?_⟩)
 show aD (vH ah) (.br (ah.not (kJ b)) _ _) true
 cases h7:kJ b
 ·exact(aj rfl).2 (af.2 ⟨rfl,.ret _⟩)
 have hl:(ah.s seen 0 (ah.mn (ah.l seen) 9)).length=ah.mn (ah.l seen) 9∧0≤ah.mn (ah.l seen) 9∧ah.mn (ah.l seen) 9≤seen.length∧ah.mn (ah.l seen) 9≤9:=by
  have h1:ah.l seen=(seen.length:Int):=rfl
  rw[h1,kr,ot]
  split<;>simp<;>omega
 refine(ai rfl).2 (af.2 ⟨?_,?_⟩)
 ·simp only[aL,ax,Bool.and_eq_true,decide_eq_true_eq];have h1:ah.l seen=(seen.length:Int):=rfl;omega
 ·exact Mu (p:=⟨_,_,m⟩) rfl (by show((ah.s seen 0 (ah.mn (ah.l seen) 9)).length:Int)≤9;omega) _ 0 a b (Int.le_refl _) (Int.sub_zero _) ⟨Decidable.not_not.1 h4,Decidable.not_not.1 h5,h6,h7,Decidable.not_not.1 h1,Decidable.not_not.1 h2,Decidable.not_not.1 h3⟩
def J9:(ap×Node×Node×List (List Seen))→Bool:=fun _=>true
def U3:aC:=⟨[c_,eE,eE,(.slice (.slice aU))], [.bool],(@tt (ap×Node×Node×List (List Seen))),J9⟩
theorem Qh:Sd 3 U3:=aJ au dC true 85 [⟨3,4, [[4,5,6,79,80,81]]⟩] [] (fun A (m,a,b,seen)=>Ly A m a b seen) vH Ls (fc Tryz.func3 fz) (sc XN (sc N6 (sc Py (sc Td (sc JN (sc BY (sc O8 (sc Qf sz)))))))) (fun A y=>match y with |.c0 p a2 a4 a5=>⟨182,by kernel_rfl,by kernel_rfl⟩) fun(m,a,b,seen) hp h=>Lc
theorem LC(x:ap×Node×Node×List (List Seen))(h:Ty.du [c_,eE,eE,.slice (.slice aU)] x):J9 x=true:=rfl
end Go.Ev.M

import Derived.Test.YtphkhfdmlcnoeaaGreatDoorP17
namespace Go.Proofs.YtphkhfdmlcnoeaaGreatDoor
set_option linter.unusedVariables false
set_option linter.unusedSimpArgs false
set_option maxRecDepth 1000000
set_option maxHeartbeats 32000000
open Go.RowKit
section
variable {A A2:Option Addr}{a:Act}{c c2 d m n:Nat}{v:Value}{x:Operand}{y:Nd×VF×Nat}
section
variable {P:Program}{ops:Array Oper}{N:Nat}{E:Env}{o:Oper}{M:List Nat}{W:World}{O:List Qb}{C:World->Prop}
theorem Qma[dq:DQ]{t:TypeId}{cs:List Value}(ho:o.op=.box t x)(hw:Qi ops E o=some true)(hx:ev E x=some v)(hc:v.cells=cs.toArray):uE P ops N M W E O o Nat (fun b=>.pointer (some ⟨b,0,none⟩)) (fun b=>.blk b (.cells cs.toArray t (0,0))::O) (fun b=>W.heap.size<=b/\∀x∈O,∀q,x.foot=some q->q<b):=
 Q4q hw fun ρ w ha hW=>
  ⟨w.heap.size,w.alloc (.cells cs.toArray t (0,0)),by
   simp [execOp,ho,ha.eval hx,Instr.box,newVar,newRow,go_sem]
   show w.alloc (Obj.cells v.cells t)=_
   rw[hc],⟨hW.k.size,fun x hx q hq=>(hW.onAll x hx).lt hq⟩,hW.push ((Below.refl _ _).alloc (Nat.le_refl _) _) (heap_alloc_new w _) (fun b hb=>by cases hb;exact Nat.le_refl _)⟩
theorem Qo5[dq:DQ]{p:Addr}(ho:o.op=.nilCheck x)(hd:o.dst=some d)(hN:d<N)(hw:Qi ops E o=some true)(hx:ev E x=some (.pointer (some p))):oE P ops C N E ((d,.pointer (some p))::E) o:=
 X8 hd hN hw fun ρ w ha _=>by simp [execOp,ho,ha.eval hx,go_sem]
theorem QgV[dq:DQ]{y:Operand}{t':TypeId}{a b a' b':Int}{v:Bool}(ho:o.op=.binOp .neq 32 x y t')(hd:o.dst=some d)(hN:d<N)(hw:Qi ops E o=some true)(hx:ev E x=some (.agg #[.int .i64 a,.int .i64 b]))(hy:ev E y=some (.agg #[.int .i64 a',.int .i64 b']))(hb:(!(a==a'&&b==b'))=v):oE Tryz.prog ops C N E ((d,.bool v)::E) o:=
 X8 hd hN hw fun ρ w ha _=>by
  subst hb;by_cases h1:a=a'<;>by_cases h2:b=b'<;>simp [execOp,ho,ha.eval hx,ha.eval hy,h1,h2,go_sem]
theorem Wd.lost{w w':World}{g:Nat}{o:Obj}(h:Wd M W (.blk g o::O) w)(hk:Xx [g] w w'):Wd M W O w':=by
 refine .of_pairs (h.k.trans hk fun b hb hlt=>?_) (fun x hx=>(h.onAll x Q1G).keep hk.size fun b hb=>hk.block b ((h.onAll x Q1G).lt hb) ?_) (fun x hx=>h.newAll x Q1G) (List.pairwise_cons.1 h.pairs).2
 ·rw[List.mem_singleton] at hb;subst hb;exact h.new 0 _ _ rfl rfl hlt
 ·rw[List.mem_singleton];intro e;subst e;have:=(List.pairwise_cons.1 h.pairs).1 x hx b rfl hb
  cases this
theorem VI[dq:DQ]{w:World}{r:ResultVar}(ha:Ag N E a)(hw:C w)(h:RsV P C E r v):RsF P a w r v:=by
 cases r with
 |tmp t=>
  show a.tmps[t]?.getD undef=v;rw[ha.at_ h];rfl
 |cell t ty=>
  obtain⟨p,h1,h2⟩:=h;refine⟨p,?_,h2 w hw⟩;rw[ha.at_ h1];rfl
end
section
variable {M:List Nat}{W w w':World}{O:List Qb}{g k b4 b5 N:Nat}{E:Env}{R:Ending->World->Prop}{e:Exit}
abbrev paD(b4 b5:Nat):List Deferred:=[{ target:=.fn (.func 30) #[.pointer (some ⟨b4,0,none⟩),.pointer (some ⟨b5,0,none⟩)],args:=#[] }]
theorem QmE[dq:DQ]{u:Value}(hdq:dq.D=paD b4 b5)(he:e=.normal\/e=.ret)(h4:RsV Tryz.prog (Wd M W O) E (.cell 4 30) v)(h5:RsV Tryz.prog (Wd M W O) E (.cell 5 32) u)(hR:∀w,Wd M W O w->R (.returned (.tuple #[v,u])) w):xE (bodyPostD Tryz.prog Tryz.f11 R) N M W E O e:=fun a w ha hw=>by
 have h:Leaves Tryz.prog Tryz.f11 a.tmps R a.defers .returning w:=by
  rw[ha.df,hdq];refine leaves_cons (f:=30) (args:=QhV) Qm (by simp [go_sem]) ?_;refine(Qbi _ _ _).mono ?_;exact Qty
 rcases he with rfl|rfl<;>exact h
theorem Qlm[dq:DQ]{c x:Int}{ch:List PanicEntry}{a0 a1 a2 a3 a4 r0 r1:Value}(hdq:dq.D=paD b4 b5)(hch:ch=JN c x)(h4:E.lookup 4=some (.pointer (some ⟨b4,0,none⟩)))(h5:E.lookup 5=some (.pointer (some ⟨b5,0,none⟩)))(ha:Ag N E a)(hw:Wd M W (.blk b4 (.cells ([a0,a1,a2,a3,a4]:List Value).toArray 30 (0,0))::.blk b5 (.cells ([r0,r1]:List Value).toArray 32 (0,0))::O) w)
  (hR:∀w,Below W.heap.size W w->R (.returned (.tuple #[.agg #[.int .i64 0,.int .i64 0,.slice none 0 0,.slice none 0 0,.slice none 0 0],.agg #[.int .i64 c,.int .i64 x]])) w) (hM:M=[]):bodyPostD Tryz.prog Tryz.f11 R (.panic ch) a w:=by
 subst hM;subst hch;show Leaves Tryz.prog Tryz.f11 a.tmps R a.defers (.panicking (JN c x)) w;rw[ha.df,hdq];refine leaves_cons (f:=30) (args:=QhV) Qm (by simp [go_sem]) ?_;refine(Q85 hw).mono ?_;rintro e' u' w8 ⟨rfl,rfl,hw8⟩;exact⟨_,Qpe rfl (VI ha hw8 (RsV.blk 0 h4 rfl rfl)) (VI ha hw8 (RsV.blk 1 h5 rfl rfl)),hR _ hw8.k.below⟩
theorem Qvb{z:Rv}{res:Rdg (Nd×VF×Nat)}{o:Obj}{e:Ending}(hw:Wd [] W (.blk g o::O) w)(h:VlE z g w res e w'):Zp (fun y:Vy=>.agg (y.cells).toArray) (fun y=>res=some (.ok y.r)/\QU y.L (.agg (y.cells).toArray) y.r.1 y.r.2.1/\KU y.L W.heap.size) [] W (fun y=>.blk g (z.obj y.r.2.2)::(O++y.L)) (fun ch w'=>∃x:Nat,res=some (.error x)/\ch=JN 1 x/\Wd [] W O w') e w':=by
 obtain⟨hk,⟨x,h1,h2⟩|⟨d,l,q,v,L,h1,h2,h3,h4,h5⟩⟩:=h
 ·exact .inr ⟨_,h2,x,h1,rfl,hw.lost hk⟩
 ·obtain⟨sb,sn,sp,rfl,hd⟩:=h4.vin h5.on;obtain⟨Ab,nb,cb,An,nn,cn,Ap,cp,rfl,rfl,rfl,_⟩:=hd;exact .inl ⟨⟨(d,l,q),Ab,nb,cb,An,nn,cn,Ap,l.len,cp,L⟩,h2,QtV,hw.wroteL hk h3 h5⟩
end
section
variable {F:List Rl}{D:List UInt8}
theorem Qat{x:Nat}(h0:QF F=(0,0))(h1:¬1000<D.length)(h:Qq F D (VX F D) 0 0=some (.error x)):Zn F D=((ndZ,.nil),(1,(x:Int))):=by
 unfold Zn;rw[if_neg (by simp [h0]),if_neg h1,h]
theorem Q3K(h0:QF F=(0,0))(h1:¬1000<D.length)(h:Qq F D (VX F D) 0 0=some (.ok y))(hq:y.2.2<D.length):Zn F D=((ndZ,.nil),(1,(y.2.2:Int))):=by
 refine Qf2 ?_;rw[if_pos hq]
theorem QdR(h0:QF F=(0,0))(h1:¬1000<D.length)(h:Qq F D (VX F D) 0 0=some (.ok y))(hq:¬y.2.2<D.length)(hv:Z8 y.1 y.2.1≠(0,0)):Zn F D=((ndZ,.nil),(14,-2)):=by
 refine Qf2 ?_;rw[if_neg hq,if_pos hv]
theorem Q3C(h0:QF F=(0,0))(h1:¬1000<D.length)(h:Qq F D (VX F D) 0 0=some (.ok y))(hq:¬y.2.2<D.length)(hv:Z8 y.1 y.2.1=(0,0)):Zn F D=((y.1,y.2.1),(0,0)):=by
 refine Qf2 ?_;rw[if_neg hq,if_neg (by simp [hv])]
end
theorem Qg3{F:List Rl}{D:List UInt8}{W:World}(hf:QW W W.heap.size A n F)(hs:FSm F)(hc:n<=c)(hg:GV W)(hz:QF F=(0,0))(hd:Rd W W.heap.size 1 A2 m (bv D))(hl:¬1000<D.length)(hmc:m<=c2)(hc2:c2<=maxLen):
  Calls Tryz.prog 11 #[.agg #[.slice A n c],.slice A2 m c2] W (Q8S F D W):=by
 have HF:=Q2 hf;have HS:=Q2 hs;have HG:=Q2 hg;have HZ:=Q2 hz;have HD:=Q2 hd;have HL:=Q2 hl;have HV:=Q2 (Q0O hz);have hDm:D.length=m:=by have:=hd.len;rw[Xr] at this;exact this
 have hm:¬1000<(m:Int):=by omega
 have h0n:0<n:=by have:=HV.out.len;have:=hf.1;omega
 have HK:=Qox;have HSO:=Q2 (Q98 HV.out D);clear hf hs hg hz hd hl;go_enter_defers Tryz.func11,Tryz.ntmps11;refine Qv (M:=[]) (W:=W) (N:=49) (E:=[Yf,Qa1]) (O:=[]) ?_ mc3 QT;refine yq<|yr ?_;refine yB fun b2=>?_;refine yA fun b4=>?_;refine yA fun b5=>?_;refine QhO ?_;refine Q4 Qn1 ?_;refine yA fun b6=>?_;refine Q4f ?_;have hne:(!((0:Int)==0&&(0:Int)==0))=false:=rfl;refine QgS ?_;refine yl<|yn<|y0<|ys<|yn<|yq<|yq<|yr<|yo zM<|yo zL<|yo zgf<|yl<|yn<|y0<|ys<|yn<|yq<|yr<|yo zu ?_;refine Qgh rfl rfl rfl rfl (fun dq' hdq=>?_);refine yl<|yn<|yq ?_;replace hdq:dq'.D=paD b4 b5:=hdq;refine ZR [.blk b2 QmV] [] Q5 ?_;refine Qn 0 rfl Q5 Qcm (zD 0) ?_;refine Qn 1 rfl Q5 Qcm (zD 0) ?_;refine Qn 3 rfl Q5 Qcm zM ?_;refine QX 2 Q5 rfl rfl (Xg (fun y:(Option Addr×Nat)×List Value×List Qb=>.slice y.1.1 n y.1.2) (fun y=>n<=y.1.2/\FsL F n y.1.1 y.2.1 y.2.2) (fun y=>_++y.2.2) rfl rfl rfl (fun w hw=>(Q7Z Q6w HS.out hc Q05 HZ.out h0n).mono (fun e w' ⟨As,cs,xs,L,h1,h2,h3,h4,h5⟩=>⟨((As,cs),xs,L),h1,⟨h2,h3⟩,hw.made h5 h4⟩))) (fun _=>.inr Qcm) rfl Q1 (fun y hy=>?_);obtain⟨⟨As,cs⟩,xs,Lf⟩:=y;obtain⟨hncs,hfs⟩:=hy;replace hncs:n<=cs:=hncs;have HFS:=Q2 (show FsL F n As xs Lf from hfs);clear hfs;refine Qn 4 rfl Q5 Qcm (Xt (xs:=[(0,.tmp 21),(1,.tmp 23),(2,.tmp 24)]) (vs:=[Yf,(1,.slice As n cs),(2,.slice A2 m c2)]) (v:=.agg #[.slice A n c,.slice As n cs,.slice A2 m c2,.int .i64 0]) rfl rfl Q1 rfl rfl KW) ?_;refine QX 5 Q5 rfl rfl (Qma (cs:=[.slice A n c,.slice As n cs,.slice A2 m c2,.int .i64 0]) rfl rfl rfl rfl) (fun _=>.inr (QA.sel [4] Q1 rfl)) rfl Q1 (fun g hg=>?_);obtain⟨hg1,hg2⟩:=hg;refine Qn 6 rfl Q5 (QA.sel [4] Q1 rfl) zA ?_;refine Xn ?_ Q5;have HG2:=Q2 (show ∀x∈Lf,∀q,x.foot=some q->q<g from fun x hx=>hg2 x Q00);clear hg2;refine yn<|yq<|yr<|yo zM ?_;refine Qev (Xw _ _ _ rfl rfl rfl (fun w hw=>(Q4E (z:=⟨A,As,A2,n,m,c,cs,c2⟩) (B:=g) (g:=g) (D:=D) HV.out (VX F D) w 0 0 HK.out ⟨⟨(HF.out.below hw.k.below).more hg1,HFS.out.fr (fun x hx=>hw.onAll x Q00) HG2.out h0n,(HD.out.below hw.k.below).more hg1⟩,Nat.le_refl _,hw.own 0 _ rfl,hc,hmc,hc2,Nat.zero_le _,by omega⟩ HSO.out).mono (fun e w' h=>Qvb hw h))) rfl Q1 (fun a ch w ha ⟨x,h1,h2,h3⟩=>Qlm hdq h2 rfl rfl ha (h3.sel [2,1] Q1) (fun w2 hb=>Kw (Qat HZ.out HL.out h1) hb) rfl) (fun y hy=>?_);refine yW 3 ?_;refine yl ?_;obtain⟨hy1,hy2,hy3⟩:=hy;have HYF:=Q2 hy3;have HY1:=Q2 hy1;have HY2:=Q2 hy2;have hfar:=Q7n HV.out hy1;clear hy1 hy2 hy3;by_cases hq:y.r.2.2<D.length
 ·have hqm:(y.r.2.2:Int)<(m:Int):=by omega
  refine Qf8 ?_;refine yo zF<|yo (zB 0)<|yo zM<|yo zL<|yo zlt<|yl<|yn<|y1<|yr<|yo zM ?_;refine Q4 QkS ?_;refine yo zF<|yo (zB 0) ?_;exact Qev (Xw (B:=fun ch w'=>ch=JN 1 (y.r.2.2:Int)/\Wd [] W _ w') _ _ _ rfl rfl rfl (fun w hw=>Q0a hw (fun w' hw'=>⟨rfl,hw'⟩))) rfl Q1 (fun a ch w ha (hb:ch=JN 1 (y.r.2.2:Int)/\_)=>Qlm hdq hb.1 rfl rfl ha (hb.2.sel [3,2] Q1) (fun w2 hb=>Kw (Q3K HZ.out HL.out HY1.out hq) hb) rfl) Q0J
 ·have hqm:¬(y.r.2.2:Int)<(m:Int):=by omega
  have hsz:=QrE;have HSZ:=Q2 hsz;obtain⟨⟨va,vb⟩,hvf⟩:∃p,Z8 y.r.1 y.r.2.1=p:=⟨_,rfl⟩;have HVF:=Q2 hvf;clear hsz hvf;by_cases hv0:(va,vb)=((0:Int),(0:Int))
  ·have HF0:=Q2 (Q3C HZ.out HL.out HY1.out hq (HVF.out.trans hv0));have e1:va=0:=congrArg Prod.fst hv0;have e2:vb=0:=congrArg Prod.snd hv0;subst e1 e2;clear hv0;refine Qr8 ?_;refine Q4 (QgV rfl rfl Q1 rfl rfl rfl rfl) ?_;refine yl<|yn<|y0<|ys<|yn<|yq<|yr<|yo (zD 3) ?_;refine Q4 mc6 ?_;refine yW 3 ?_;refine yW 2 ?_;refine yl<|yn<|yt ?_;exact QmE hdq mc4 Q4H Q0t (fun w hw=>⟨QjN,by rw[HF0.out],by rw[HF0.out];exact HY2.out,HYF.out.new fun x hx=>hw.onAll x Q00,hw.k.below⟩)
  ·have HF0:=Q2 (QdR HZ.out HL.out HY1.out hq (by rw[HVF.out];exact hv0))
   have hne2:(!(va==0&&vb==0))=true:=by
    refine Qbw ?_;by_cases h0:va=0
    ·exact .inr fun h1=>hv0 (by rw[h0,h1])
    ·exact .inl h0
   clear hv0;refine Qr8 ?_;refine Q4 (QgV rfl rfl Q1 rfl rfl rfl hne2) ?_;refine yl<|yn<|y1<|yq<|yr ?_;refine Q4 Qd3 ?_;refine Q4 QhG ?_;refine yW 3 ?_;refine yW 2 ?_;refine yl<|yn<|yt<|yc ?_;exact QmE hdq mc4 Q4H Q0t (fun w hw=>Kw HF0.out hw.k.below)
theorem Qdv{F:List Rl}{D:List UInt8}{W:World}(hf:QW W W.heap.size A n F)(hs:FSm F)(hc:n<=c)(hg:GV W)(hd:Rd W W.heap.size 1 A2 m (bv D))(hmc:m<=c2)(hc2:c2<=maxLen):
  Calls Tryz.prog 11 #[.agg #[.slice A n c],.slice A2 m c2] W (Q8S F D W):=by
 by_cases hz:QF F=(0,0)
 ·by_cases hl:1000<D.length
  ·exact Qe3 hf hs hc hg hz hd hl
  ·exact Qg3 hf hs hc hg hz hd hl hmc hc2
 ·exact Qdc hf hs hc hg hz
end
section
variable {g:Nat}
theorem QaL{z:Wz}{B:Nat}{F:List Rl}(hF:∀k:Int,0<=k/\k<F.length->(Ql F k).kind=2\/(Ql F k).kind=6)(hv:Fm F):∀(d:Nd) (p:VF),WvC z B g F d p:=
 VF.all_each fun d p hall hn0 hg hnd hf hl W A c xs n k v hk h hval hsz hno=>by
  cases hfit:Vu F (Ql F k) d p with
  |false=>exact Quo hF hv hk h hval hnd.2.1 hnd.2.2.1 hn0 hl hsz hno hfit
  |true=>
   rcases hF k hk with h2|h6
   ·exact Qwz hv hk h hval hnd.2.1 hnd.2.2.1 hn0 hl hsz hno hfit h2
   ·exact QwQ hF hall hg hf hv hk h hval hnd.2.1 hnd.2.2.1 hn0 hl hsz hno hfit h6
theorem Q7d:∀(l:VF),Z4 l->Z1 l<=l.cnt*1048876
 |.nil,_=>by simp [Z1]
 |.cons d p r,h=>by
  have a:=Q7d p h.2.2.1;have b:=Q7d r h.2.2.2;have c:=h.1.2.1
  simp only[Z1,VF.cnt];omega
theorem QfE{d:Nd}{l:VF}(h:Sz d l)(hv:Z8 d l=(0,0)):Zm d l<=1000000000:=by
 unfold Z8 at hv;cases hc:Xd (.cons d l .nil) 0 1 with
 |inl f=>
  obtain⟨c,i⟩:=f;rw[hc] at hv;simp only at hv;have:=VK _ _ _ _ _ hc;rw[Prod.mk.injEq] at hv;exact absurd hv.1 this
 |inr m=>
  have a:=Q10 _ _ _ _ hc;have b:=Qdq _ _ _ _ hc;simp only[VF.cnt] at b;have g:l.cnt<=600:=by have:=a.2 Q3;omega
  have e:=Q7d l h.2.1;have f:=h.1.2.1;unfold Zm;omega
theorem QaN(g h:Nat)(w:World):
  CallsD Tryz.prog 44 #[.pointer (some ⟨g,0,none⟩),.pointer (some ⟨h,0,none⟩)] .returning w fun e u' w'=>e=.returned (.tuple #[])/\u'=.returning/\w'=w:=by
 refine callsD_of_wpS Tryz.func44 rfl fun c₀ cs hu=>?_;apply wpS_seq;apply wpS_region;simp [wpOpsS,go_sem,recoverD,hu,Tryz.ntmps44,Exit.thenS];refine Qhr ?_;go_wp2_with fail
 cases c₀
 simp_all [bodyPostS,results,Tryz.results44]
theorem Q7N{k:Nat}{c x:Int}{M:List Nat}{W w:World}{O:List Qb}{a0 r0 r1:Value}(hw:Wd M W (.blk g (.cells ([a0]:List Value).toArray 25 (0,0))::.blk k (.cells ([r0,r1]:List Value).toArray 32 (0,0))::O) w):
  CallsD Tryz.prog 44 #[.pointer (some ⟨g,0,none⟩),.pointer (some ⟨k,0,none⟩)] (.panicking (JN c x)) w fun e u' w'=>
   e=.returned (.tuple #[])/\u'=.panicking [{ v:=.iface 32 (.agg #[.int .i64 c,.int .i64 x]),recovered:=true }]/\Wd M W (.blk g (.cells ([.slice none 0 0]:List Value).toArray 25 (0,0))::.blk k (.cells ([.int .i64 c,.int .i64 x]:List Value).toArray 32 (0,0))::O) w':=by
 refine callsD_of_wpS Tryz.func44 rfl fun c₀ cs hu=>?_;apply wpS_seq;apply wpS_region;unfold JN at hu;simp [wpOpsS,go_sem,recoverD,hu,Tryz.ntmps44,Exit.thenS];refine Qhr ?_;have hta:∀W:World,(Instr.typeAssert (.iface 32 (.agg #[.int .i64 c,.int .i64 x])) 20 32 true).run Tryz.prog W=.ok (.tuple #[.agg #[.int .i64 c,.int .i64 x],.bool true]) W:=Q9K
 have heq:∀W:World,(binOp .eql 20 (.iface 32 (.agg #[.int .i64 c,.int .i64 x])) .nilIface).run Tryz.prog W=.ok (.bool false) W:=Q9K
 have hui:Tryz.prog.underlying 20=some (.interface (Tryz.prog.methodsAt 20)):=by kernel_rfl
 refine Qv (M:=M) (W:=W) (N:=12) (E:=QqS) (O:=.blk g (.cells ([a0]:List Value).toArray 25 (0,0))::.blk k (.cells ([r0,r1]:List Value).toArray 32 (0,0))::O) ?_ Zo hw;refine QrR ?_;refine yA fun b3=>?_;refine QsB ?_;refine Qn 0 rfl Q5 JO (zD 0) ?_;refine QK 1 Q5 rfl rfl QoV Q3y rfl (fun _ _=>?_);refine QK 2 Q5 rfl rfl QlV Q3y rfl (fun _ _=>?_);rw[QE (by rfl)];refine Xn ?_ Q5;refine yd ?_;intro a w' ha hw';exact⟨ha.df,_,rfl,.tuple #[],by simp [results,Tryz.results44],rfl,rfl,hw'.tl⟩
end
section
variable {A:Option Addr}{b:List UInt8}{n:Nat}{v:Value}
def Qtw(F:List Rl)(d:Nd)(l:VF)(W:World)(e:Ending)(w':World):Prop:=∃A c,e=.returned (.tuple #[.slice A (Q1P F d l).1.length c,.agg #[.int .i64 (Q1P F d l).2.1,.int .i64 (Q1P F d l).2.2]])/\New [.rd A (Q1P F d l).1.length 1 (bv (Q1P F d l).1)] W.heap.size w'/\(Q1P F d l).1.length<=c/\c<=maxLen/\Below W.heap.size W w'
section
variable {F:List Rl}{d:Nd}{l:VF}{W w:World}{c x:Int}
theorem Qh0(h:Q1P F d l=([],(c,x)))(hb:Below W.heap.size W w):Qtw F d l W (.returned (.tuple #[.slice none 0 0,.agg #[.int .i64 c,.int .i64 x]])) w:=by
 refine⟨none,0,by rw[h];rfl,?_,by rw[h];exact Nat.le_refl _,Nat.zero_le _,hb⟩;rw[h];exact Jb (ZC _ _ _) (fun b hb=>by cases hb)
theorem Qpl(h:QF F=(0,0))(h1:Z8 d l=(0,0))(h2:XE F 0 d l 0=.error n):Q1P F d l=([],(13,(n:Int))):=by
 unfold Q1P;rw[if_neg (by simp [h]),if_neg (by simp [h1]),Q2o,h2]
theorem Ql6(h:QF F=(0,0))(h1:Z8 d l=(0,0))(h2:XE F 0 d l 0=.ok (b,n))(h3:1000<b.length):Q1P F d l=([],(14,-2)):=by
 unfold Q1P;rw[if_neg (by simp [h]),if_neg (by simp [h1]),Q2o,h2];simp only;rw[if_pos h3]
theorem Q9i(h:QF F=(0,0))(h1:Z8 d l=(0,0))(h2:XE F 0 d l 0=.ok (b,n))(h3:¬1000<b.length):Q1P F d l=(b,(0,0)):=by
 unfold Q1P;rw[if_neg (by simp [h]),if_neg (by simp [h1]),Q2o,h2];simp only;rw[if_neg h3]
end
theorem Qnn{W w:World}{O:List Qb}{c s:Nat}{t:TypeId}{xs:List Value}(i:Nat)(hw:Wd [] W O w)(hO:O[i]? =some (.row A n c t s xs)):New [.rd A n s xs] W.heap.size w:=
 Jb (Rd.of_own Q4X) fun b hb=>by
  rcases Nat.lt_or_ge b W.heap.size with hl|hl
  ·have h1:b∈[]:=hw.new i _ b hO (Q3h Q4X hb) hl
   cases h1
  ·exact hl
section
variable {W w w':World}{O:List Qb}{g b4 b5 N:Nat}{E:Env}{R:Ending->World->Prop}{e:Exit}
abbrev prD(b4 b5:Nat):List Deferred:=[{ target:=.fn (.func 44) #[.pointer (some ⟨b4,0,none⟩),.pointer (some ⟨b5,0,none⟩)],args:=#[] }]
theorem Qkr[dq:DQ]{u:Value}(hdq:dq.D=prD b4 b5)(he:e=.normal\/e=.ret)(h4:RsV Tryz.prog (Wd [] W O) E (.cell 4 25) v)(h5:RsV Tryz.prog (Wd [] W O) E (.cell 5 32) u)(hR:∀w,Wd [] W O w->R (.returned (.tuple #[v,u])) w):xE (bodyPostD Tryz.prog Tryz.f15 R) N [] W E O e:=fun a w ha hw=>by
 have h:Leaves Tryz.prog Tryz.f15 a.tmps R a.defers .returning w:=by
  rw[ha.df,hdq];refine leaves_cons (f:=44) (args:=QhV) Qm (by simp [go_sem]) ?_;refine(QaN _ _ _).mono ?_;exact Qty
 rcases he with rfl|rfl<;>exact h
theorem QuV[dq:DQ]{a:Act}{c x:Int}{ch:List PanicEntry}{a0 r0 r1:Value}(hdq:dq.D=prD b4 b5)(hch:ch=JN c x)(h4:E.lookup 4=some (.pointer (some ⟨b4,0,none⟩)))(h5:E.lookup 5=some (.pointer (some ⟨b5,0,none⟩)))(ha:Ag N E a)(hw:Wd [] W (.blk b4 (.cells ([a0]:List Value).toArray 25 (0,0))::.blk b5 (.cells ([r0,r1]:List Value).toArray 32 (0,0))::O) w)
  (hR:∀w,Below W.heap.size W w->R (.returned (.tuple #[.slice none 0 0,.agg #[.int .i64 c,.int .i64 x]])) w):bodyPostD Tryz.prog Tryz.f15 R (.panic ch) a w:=by
 subst hch;show Leaves Tryz.prog Tryz.f15 a.tmps R a.defers (.panicking (JN c x)) w;rw[ha.df,hdq];refine leaves_cons (f:=44) (args:=QhV) Qm (by simp [go_sem]) ?_;refine(Q7N hw).mono ?_;rintro e' u' w8 ⟨rfl,rfl,hw8⟩;exact⟨_,Qpe rfl (VI ha hw8 (RsV.cell1 h4 (fun w hw=>hw.cell_blkL 0 rfl rfl))) (VI ha hw8 (RsV.blk 1 h5 rfl rfl)),hR _ hw8.k.below⟩
theorem Qux{z:Wz}{res:Wtg}{cost:Nat}{e:Ending}(hw:Wd [] W (.blk g (z.obj none 0 0 0)::O) w)(h:WrE z g w none 0 [] res 0 cost e w'):Zp (fun y:Wy=>.tuple #[]) (fun y=>res=.ok (y.b,y.m)) [] W (fun y=>Kj y.A y.c y.b::.blk g (z.obj y.A y.b.length y.c y.m)::O) (fun ch w'=>∃x:Nat,res=.error x/\ch=JN 13 x/\Wd [] W O w') e w':=by
 obtain⟨hk,⟨x,h1,h2⟩|⟨b,m',A',c',h1,h2,h3,h4,h5,h6,h7⟩⟩:=h
 ·exact .inr ⟨_,h2,x,h1,rfl,hw.lost hk⟩
 ·refine .inl ⟨⟨b,m',A',c'⟩,h2,h1,?_⟩;have hw2:=hw.row 5 1
  have:=hw2.upd2 (i:=1) (j:=0) (x:=.blk g (z.obj none 0 0 0)) (y:=.row none 0 0 5 1 []) (x':=.blk g (z.obj A' (([]:List UInt8)++b).length c' m')) (y':=Kj A' c' (([]:List UInt8)++b)) Q1 rfl rfl rfl rfl rfl rfl hk (fun q hq=>by
   have:q=g:=by simpa [wM,Value.ownBlock] using hq
   subst this
   exact .inl rfl) h5 h6 (fun _ h=>h) (fun q hq=>by
   rcases h7 q hq with h8|h8
   ·cases h8
   ·exact .inr h8)
  exact this
end
theorem Qfr{F:List Rl}{d:Nd}{l:VF}{c:Nat}{W:World}(hF:∀k:Int,0<=k/\k<F.length->(Ql F k).kind=2\/(Ql F k).kind=6)(hf:QW W W.heap.size A n F)(hs:FSm F)(hc:n<=c)(hg:GV W)(hv:VIn W W.heap.size v d l)(hsz:Sz d l)(hz:QF F=(0,0))(hz2:Z8 d l=(0,0)):
  Calls Tryz.prog 15 #[.agg #[.slice A n c],v] W (Qtw F d l W):=by
 have HF:=Q2 hf;have HF26:=Q2 hF;have HS:=Q2 hs;have HG:=Q2 hg;have HZ:=Q2 hz;have HZ2:=Q2 hz2;have HSZ:=Q2 hsz;have HV:=Q2 hv;have HFM:=Q2 (Q0O hz);have HK:=Q2 (show 0<=(0:Int)/\(0:Int)<F.length by have:=HFM.out.len;omega);have HGD:=Q2 (Qjk hz2);have hcost:=QfE hsz hz2;obtain⟨sb,sn,sp,rfl,Abv,nb,cbv,Anv,nnv,cnv,Apv,cpv,rfl,rfl,rfl,_⟩:=hv;clear hf hs hg hz hz2 hsz hF;go_enter_defers Tryz.func15,Tryz.ntmps15;refine Qv (M:=[]) (W:=W) (N:=40) (E:=[Yf,(1,.agg #[.int .i64 d.k,.int .i64 d.n,.slice Abv nb cbv,.slice Anv nnv cnv,.slice Apv l.len cpv])]) (O:=[]) ?_ mc3 QT;refine yq<|yr ?_;refine yB fun b2=>?_;refine yB fun b3=>?_;refine yA fun b4=>?_;refine yA fun b5=>?_;refine yl<|yn<|yq<|yq<|yr<|yo (zD 3) ?_;refine Q4 Qn1 ?_;refine yA fun b6=>?_;refine Q4f ?_;have hne:(!((0:Int)==0&&(0:Int)==0))=false:=rfl;refine QgS ?_;refine yl<|yn<|y0<|ys<|yn<|yq<|yq<|yr<|yo (zD 3) ?_;refine Q4 (Qg rfl rfl Q1 rfl rfl (fun w hw=>(Q4t HSZ.out (HV.out.on hw.k.below)).mono (fun e w' h=>by rw[HZ2.out] at h;exact h))) ?_;refine yA fun b7=>?_;refine yW 0 ?_;refine yl<|yn<|yq<|yr<|yo (zD 0) ?_;refine Q4 mc6 ?_;refine Q4 Qho ?_;refine yl<|yn<|y0<|ys<|yn<|yq<|yr<|yo zu ?_;refine Qgh rfl rfl rfl rfl (fun dq' hdq=>?_);refine yl ?_;replace hdq:dq'.D=prD b4 b5:=hdq;refine yn<|yq<|yr<|yo (zD 5) ?_;refine Q4 (Xt (xs:=[(0,.tmp 22)]) (vs:=[Yf]) (v:=.agg #[.slice A n c,.slice none 0 0,.int .i64 0]) rfl rfl Q1 rfl rfl KW) ?_;refine Qc (Qma (cs:=[.slice A n c,.slice none 0 0,.int .i64 0]) rfl rfl rfl rfl) rfl Q1 (fun g hg=>?_);have hg1:=hg.1;clear hg;refine yo zA<|yl<|yn<|yq<|yr<|yo zM<|yo (zD 5) ?_;refine Qev (Xw _ _ _ rfl rfl rfl (fun w hw=>(QaL (z:=⟨A,n,c⟩) (B:=g) (g:=g) HF26.out HFM.out d l HGD.out.1 HGD.out.2 HSZ.out.1 HSZ.out.2.1 HSZ.out.2.2 w none 0 [] 0 0 _ HK.out ⟨(HF.out.below hw.k.below).more hg1,Nat.le_refl _,hw.own 0 _ rfl,World.ownsRow_nil _ _ _ _,(fun b hb=>by cases hb),hc,fun w' hb=>HG.out.on (hw.k.below.trans (hb.mono hg1))⟩ ((HV.out.below hw.k.below Xo).keep (fun _ _=>rfl) hg1) (by show 0+Zm d l<=_;omega) Q3).mono (fun e w' h=>Qux hw h))) rfl Q1 (fun a ch w ha ⟨x,h1,h2,h3⟩=>QuV hdq h2 rfl rfl ha (h3.sel [3,2] Q1) (fun w2 hb=>Qh0 (Qpl HZ.out HZ2.out h1) hb)) (fun y hy=>?_);refine yl ?_;have HY:=Q2 hy;clear hy;by_cases hlong:1000<y.b.length
 ·have hl2:1000<(y.b.length:Int):=by omega
  refine Qf8 ?_;refine yo zF<|yo (zB 1)<|yo zL<|yo zgt<|yl<|yn<|y1<|yq<|yr ?_;refine Q4 QhG ?_;refine yS 5 ?_;refine yW 4 ?_;refine yl<|yn<|yt<|yc ?_;exact Qkr hdq mc4 QmU QdB (fun w hw=>Qh0 (Ql6 HZ.out HZ2.out HY.out hlong) hw.k.below)
 ·have hl2:¬1000<(y.b.length:Int):=by omega
  refine Qf8 ?_;refine yo zF<|yo (zB 1)<|yo zL<|yo zgf<|yl<|yn<|y0<|ys<|yn<|yq<|yr<|yo zM ?_;refine Q4 QkS ?_;refine yo zF<|yo (zB 1) ?_;refine Q4 mc6 ?_;refine yS 5 ?_;refine yW 4 ?_;refine yl<|yn<|yt ?_;have hfine:=Q9i HZ.out HZ2.out HY.out hlong;exact Qkr hdq mc4 QmU QdB (fun w hw=>⟨y.A,y.c,by rw[hfine],by rw[hfine];exact Qnn 0 hw rfl,by rw[hfine];exact(XV 0 hw rfl).1,(XV 0 hw rfl).2,hw.k.below⟩)
end
section
variable {A B Z:List Value}
def ex0:Rl:={ QnG [108,105,115,116] 6 with count:=1,elem:=2 }
def ex1:Rl:={ QnG [110] 2 with size:=1,big:=true,mx:=255 }
def ex2:Rl:={ QnG [120] 2 with size:=2,mx:=65535 }
def exF:List Rl:=[ex0,ex1,ex2]
theorem Ql3:Xa exF=(0,0):=by kernel_rfl
theorem Qq3:decide ((YA exF).length<=2000)=true:=by kernel_rfl
theorem Q6r:QF exF=(0,0):=by
 unfold QF;rw[Ql3,if_neg (fun hh=>hh rfl),if_neg (by have:=of_decide_eq_true Qq3;omega)]
theorem QhB:FSm exF:=by
 refine⟨by decide,fun r hr=>?_⟩;have:r=ex0\/r=ex1\/r=ex2:=by simpa [exF] using hr
 rcases this with rfl|rfl|rfl<;>exact⟨by decide,by decide,by decide,by decide,fun s hs=>by cases hs⟩
def exC(r:Rl):List Value:=ruC r (.slice none 0 0) (.slice none 0 0) (.slice none 0 0)
theorem YW{A R:List Value}:∀(us:List Value) (A R:List Value),us.length<=R.length->J3 (A++R) A.length us=A++us++R.drop us.length
 |[],A,R,_=>by simp [J3]
 |u::us,A,[],h=>by simp at h
 |u::us,A,x::R,h=>by
  rw[J3,List.set_append_right _ _ (Nat.le_refl _),Nat.sub_self,List.set_cons_zero]
  have e:A++u::R=(A++[u])++R:=by simp
  have e2:A.length+1=(A++[u]).length:=by simp
  rw[e,e2,YW (A:=[]) (R:=[]) us (A++[u]) R (by simpa using h)];simp
theorem Qp7(n:Nat)(hA:A.length=n)(hB:B.length=n)(hZ:Z.length=n+n):J3 (J3 Z 0 A) n B=A++B:=by
 have h1:=YW (A:=[]) (R:=[]) A [] Z Q3;simp only[List.nil_append,List.length_nil] at h1;rw[h1];have h2:=Qsc;rw[hA] at h2 ⊢;rw[h2,List.drop_drop,List.drop_of_length_le Q3,List.append_nil]
theorem Qft{C:List Value}(n:Nat)(hA:A.length=n)(hB:B.length=n)(hC:C.length=n)(hZ:Z.length=n+n+n):J3 (J3 (J3 Z 0 A) n B) (n+n) C=A++B++C:=by
 have h1:=YW (A:=[]) (R:=[]) A [] Z Q3;simp only[List.nil_append,List.length_nil] at h1;rw[h1];have h2:=Qsc;rw[hA] at h2 ⊢;rw[h2,List.drop_drop];have h3:=YW (A:=[]) (R:=[]) C (A++B) (Z.drop (n+B.length)) (by rw[List.length_drop];omega);rw[List.length_append,hA,hB] at h3;rw[hB,h3,List.drop_drop,List.drop_of_length_le Q3,List.append_nil]
theorem QuE(w:World):(Instr.buildSlice 22 3 #[(0,.agg (exC ex0).toArray),(1,.agg (exC ex1).toArray),(2,.agg (exC ex2).toArray)]).run Tryz.prog w=.ok (.slice (some ⟨w.heap.size,0,none⟩) 3 3) (w.alloc (.cells (exC ex0++exC ex1++exC ex2).toArray 65)):=by
 have hT:SlT Tryz.prog 22 65 12 152:=(inferInstance:Sl Tryz.prog 22 65 12 152).h;obtain⟨i,z,hi,hz,hsz,hby,hzs⟩:=hT.info;refine run_buildSlice w _ _ 3 _ (exC ex0++exC ex1++exC ex2).toArray i z hT.und hi hz Ye Ye ?_;rw[hsz];obtain⟨Z,hZ,hZl⟩:∃Z:List Value,(Array.range (3*12)).map (z.cells[·% z.cells.size]!)=Z.toArray/\Z.length=36:=QlR;rw[hZ];show Instr.fill (fun i=>some (i*12,12)) Z.toArray [(0,.agg (exC ex0).toArray),(1,.agg (exC ex1).toArray),(2,.agg (exC ex2).toArray)]=_;have hfin:J3 (J3 (J3 Z 0 (exC ex0)) 12 (exC ex1)) 24 (exC ex2)=exC ex0++exC ex1++exC ex2:=Qft 12 rfl rfl rfl hZl;rw[Y4 (o:=0) (n:=12) (cs:=exC ex0) rfl rfl rfl Q3,Y4 (o:=12) (n:=12) (cs:=exC ex1) rfl rfl rfl (by rw[Vi];omega),Y4 (o:=24) (n:=12) (cs:=exC ex2) rfl rfl rfl (by rw[Vi,Vi];omega),hfin,Q7c]
theorem QgN{w:World}{A:Option Addr}(h:Rd w w.heap.size 12 A 3 (exC ex0++exC ex1++exC ex2)):QW w w.heap.size A 3 exF:=by
 refine⟨rfl,fun h0=>?_⟩;obtain⟨b,o,e,hb,hc⟩:=h.2 h0;have hsl:∀r:Rl,r.bs=[]->r.names=[]->r.parts=[]->Km w w.heap.size r (.slice none 0 0) (.slice none 0 0) (.slice none 0 0):=fun r h1 h2 h3=>⟨none,0,0,none,0,0,none,0,0,rfl,rfl,rfl,Nat.le_refl _,Nat.le_refl _,Nat.le_refl _,by rw[h1];exact ZC _ _ _,by rw[h2];exact ZC _ _ _,by rw[h3];exact ZC _ _ _⟩;refine⟨b,o,e,hb,fun i r hr=>?_⟩;match i,hr with
 |0,hr=>cases hr;exact⟨_,_,_,⟨hc 0 _ rfl,hc 1 _ rfl,hc 2 _ rfl,hc 3 _ rfl,hc 4 _ rfl,hc 5 _ rfl,hc 6 _ rfl,hc 7 _ rfl,hc 8 _ rfl,hc 9 _ rfl,hc 10 _ rfl,hc 11 _ rfl⟩,hsl ex0 rfl rfl rfl⟩
 |1,hr=>cases hr;exact⟨_,_,_,⟨hc 12 _ rfl,hc 13 _ rfl,hc 14 _ rfl,hc 15 _ rfl,hc 16 _ rfl,hc 17 _ rfl,hc 18 _ rfl,hc 19 _ rfl,hc 20 _ rfl,hc 21 _ rfl,hc 22 _ rfl,hc 23 _ rfl⟩,hsl ex1 rfl rfl rfl⟩
 |2,hr=>cases hr;exact⟨_,_,_,⟨hc 24 _ rfl,hc 25 _ rfl,hc 26 _ rfl,hc 27 _ rfl,hc 28 _ rfl,hc 29 _ rfl,hc 30 _ rfl,hc 31 _ rfl,hc 32 _ rfl,hc 33 _ rfl,hc 34 _ rfl,hc 35 _ rfl⟩,hsl ex2 rfl rfl rfl⟩
 |n+3,hr=>cases hr
section
variable {W w:World}{O:List Qb}
theorem Wd.blkRd{b n s:Nat}{t:TypeId}{cs:List Value}(h:Wd [] W (.blk b (.cells cs.toArray t (0,0))::O) w)(hl:cs.length=n*s):Wd [] W (.rd (some ⟨b,0,none⟩) n s cs::O) w:=by
 have hft:∀q,(Qb.rd (some ⟨b,0,none⟩) n s cs).foot=some q->q=b:=fun q hq=>by
  simp only[Qb.foot] at hq;split at hq
  ·cases hq
  ·cases hq;rfl
 have hpp:=List.pairwise_cons.1 h.pairs;refine .of_pairs h.k ?_ ?_ (List.pairwise_cons.2 ⟨fun x hx q hq hq'=>?_,hpp.2⟩)
 ·intro x hx
  rcases List.mem_cons.1 hx with rfl|hx
  ·exact h.rd_blk 0 rfl hl
  ·exact h.onAll x Q1G
 ·intro x hx q hq hlt
  rcases List.mem_cons.1 hx with rfl|hx
  ·simp [Qb.w]
  ·exact h.newAll x Q1G q hq hlt
 ·have:=hft q hq;subst this;have:=hpp.1 x hx q rfl hq'
  exact Q2f
theorem Qvv(hw:Wd [] W O w):Calls Tryz.prog 25 #[] w (Xf (fun b:Nat=>.agg #[.slice (some ⟨b,0,none⟩) 3 3]) (fun _=>True) [] W (fun b=>.rd (some ⟨b,0,none⟩) 3 12 (exC ex0++exC ex1++exC ex2)::O)):=by
 go_enter Tryz.func25,Tryz.ntmps25;refine Qv (M:=[]) (W:=W) (N:=6) (E:=[]) (O:=O) ?_ (Ag.nil rfl rfl) hw;refine yq<|yr ?_;refine yA fun b0=>?_;refine yl<|yn<|yq<|yr ?_;refine Q4 (Xt (xs:=[(0,.const (.string ⟨#[108,105,115,116]⟩)),(1,.const (.int .i64 6)),(8,.const (.int .i64 1)),(9,.const (.int .i64 2))]) (vs:=[(0,.string ⟨#[108,105,115,116]⟩),(1,.int .i64 6),(8,.int .i64 1),(9,.int .i64 2)]) (v:=.agg (exC ex0).toArray) rfl rfl Q1 rfl rfl KW) ?_;refine Q4 (Xt (xs:=[(0,.const (.string ⟨#[110]⟩)),(1,.const (.int .i64 2)),(3,.const (.int .i64 1)),(4,.const (.bool true)),(6,.const (.int .i64 255))]) (vs:=[(0,.string ⟨#[110]⟩),(1,.int .i64 2),(3,.int .i64 1),(4,.bool true),(6,.int .i64 255)]) (v:=.agg (exC ex1).toArray) rfl rfl Q1 rfl rfl KW) ?_;refine Q4 (Xt (xs:=[(0,.const (.string ⟨#[120]⟩)),(1,.const (.int .i64 2)),(3,.const (.int .i64 2)),(6,.const (.int .i64 65535))]) (vs:=[(0,.string ⟨#[120]⟩),(1,.int .i64 2),(3,.int .i64 2),(6,.int .i64 65535)]) (v:=.agg (exC ex2).toArray) rfl rfl Q1 rfl rfl KW) ?_;refine Qc (Zj (xs:=[(0,.tmp 1),(1,.tmp 2),(2,.tmp 3)]) (vs:=[(0,.agg (exC ex0).toArray),(1,.agg (exC ex1).toArray),(2,.agg (exC ex2).toArray)]) (cells:=exC ex0++exC ex1++exC ex2) rfl rfl rfl QuE) rfl Q1 (fun b _=>?_);refine Q4 (Xt (xs:=[(0,.tmp 4)]) (vs:=[(0,.slice Q0H 3 3)]) (v:=.agg #[.slice Q0H 3 3]) rfl rfl Q1 rfl rfl KW) ?_;refine yW 1 ?_;refine yl<|yn<|yt ?_;exact Q8 mc4 rfl Zi (fun w hw=>⟨b,rfl,trivial,(Wd.blkRd (n:=3) (s:=12) hw rfl).sub (.cons_cons _ (.cons _ (.refl _)))⟩)
abbrev Q5u(i:Int):List Value:=[.int .i64 1,.int .i64 i,.slice none 0 0,.slice none 0 0,.slice none 0 0]
theorem Q5Y(n:Int)(w:World):Calls Tryz.prog 27 #[.int .i64 n] w fun e w'=>e=.returned (.agg (Q5u n).toArray)/\Below w.heap.size w w':=by
 go_enter Tryz.func27,Tryz.ntmps27;refine Qv (M:=[]) (W:=w) (N:=5) (E:=[(0,.int .i64 n)]) (O:=[]) ?_ Z6 (Wd.start [] w);refine yq<|yr ?_;refine yA fun b2=>?_;refine yl<|yn<|yq<|yr<|yo zM ?_;refine Q4 (Xt (xs:=[(0,.const (.int .i64 1)),(1,.tmp 3)]) (vs:=[(0,.int .i64 1),(1,.int .i64 n)]) (v:=.agg (Q5u n).toArray) rfl rfl Q1 rfl rfl KW) ?_;refine yW 0 ?_;refine yl<|yn<|yt ?_;exact Q8 mc4 rfl Yy QgE
theorem Qmg(hA:A.length=5)(hB:B.length=5)(w:World):(Instr.buildSlice 28 2 #[(0,.agg A.toArray),(1,.agg B.toArray)]).run Tryz.prog w=.ok (.slice (some ⟨w.heap.size,0,none⟩) 2 2) (w.alloc (.cells (A++B).toArray 30)):=by
 have hT:SlT Tryz.prog 28 30 5 88:=Qke;obtain⟨j,z,hi,hz,hsz,hby,hzs⟩:=hT.info;refine run_buildSlice w _ _ 2 _ (A++B).toArray j z hT.und hi hz Ye Ye ?_;rw[hsz];obtain⟨Z,hZ,hZl⟩:∃Z:List Value,(Array.range (2*5)).map (z.cells[·% z.cells.size]!)=Z.toArray/\Z.length=10:=QlR;rw[hZ];show Instr.fill (fun i=>some (i*5,5)) Z.toArray [(0,.agg A.toArray),(1,.agg B.toArray)]=_;rw[Y4 (o:=0) (n:=5) (cs:=A) rfl rfl hA Q3,Y4 (o:=5) (n:=5) (cs:=B) rfl rfl hB (by rw[Vi];omega),Q7c,Qp7 5 hA hB hZl]
abbrev QuM(b:Nat):Value:=.agg #[.int .i64 3,.int .i64 0,.slice none 0 0,.slice none 0 0,.slice (some ⟨b,0,none⟩) 2 2]
abbrev Q41(i j:Int):VF:=.cons (ndN i) .nil (.cons (ndN j) .nil .nil)
theorem QuB(i j:Int)(hw:Wd [] W O w):Calls Tryz.prog 26 #[.agg (Q5u i).toArray,.agg (Q5u j).toArray] w (Xf (fun b:Nat=>QuM b) (fun _=>True) [] W (fun b=>.rd (some ⟨b,0,none⟩) 2 5 (Q5u i++Q5u j)::O)):=by
 go_enter Tryz.func26,Tryz.ntmps26;refine Qv (M:=[]) (W:=W) (N:=9) (E:=Qmj) (O:=O) ?_ mc3 hw;refine yq<|yr ?_;refine yB fun b2=>?_;refine yB fun b3=>?_;refine yA fun b4=>?_;refine yl<|yn<|yq<|yr<|yo (zD 2)<|yo (zD 1) ?_;refine Qc (Zj (xs:=[(0,.tmp 5),(1,.tmp 6)]) (vs:=Qmj) (cells:=Q5u i++Q5u j) rfl rfl rfl (Qmg rfl rfl)) rfl Q1 (fun b _=>?_);refine Q4 (Xt (xs:=[(0,.const (.int .i64 3)),(4,.tmp 7)]) (vs:=[(0,.int .i64 3),(4,.slice Q0H 2 2)]) (v:=QuM b) rfl rfl Q1 rfl rfl KW) ?_;refine yW 1 ?_;refine yl<|yn<|yt ?_;exact Q8 mc4 rfl Zi (fun w hw=>⟨b,rfl,trivial,(Wd.blkRd (n:=2) (s:=5) hw rfl).sub (.cons_cons _ (.cons _ (.cons _ (.cons _ (.refl _)))))⟩)
theorem Qcs(i j:Int)(b:Nat):QU [.rd (some ⟨b,0,none⟩) 2 5 (Q5u i++Q5u j)] (QuM b) ndL (Q41 i j):=
 QU.list (l:=Q41 i j) ((ZY.nil.snoc (QU.num i)).snoc (QU.num j)) (Nat.le_refl 2) Q1
def exD:List UInt8:=[2,5,0,6,0]
theorem Qqc:Qq exF exD (VX exF exD) 0 0=some (.ok (ndL,Q41 5 6,5)):=by kernel_rfl
theorem QfW:Z8 ndL (Q41 5 6)=(0,0):=by kernel_rfl
theorem Qmz:Zn exF exD=((ndL,Q41 5 6),(0,0)):=Q3C (y:=(ndL,Q41 5 6,5)) Q6r Q1 Qqc Q1 QfW
theorem QlS:Zn exF [2,5,0]=((ndZ,.nil),(1,3)):=Qat (x:=3) Q6r Q1 Q5
theorem QpP:Zn exF [0,9]=((ndZ,.nil),(1,1)):=Q3K (y:=(ndL,.nil,1)) Q6r Q1 Q5 Q1
theorem QlK:XE exF 0 ndL (Q41 5 6) 0=.ok (exD,3):=by kernel_rfl
theorem QnK:Q1P exF ndL (Q41 5 6)=(exD,(0,0)):=Q9i Q6r QfW QlK Q1
end
end
section
variable {A:Option Addr}{F:List Rl}{c n:Nat}{cd x:Int}
instance iXIlC_1:En Tryz.prog 25:=⟨fun _ _=>by kernel_rfl⟩
instance iXIlC_2:En Tryz.prog 26:=⟨fun _ _=>by kernel_rfl⟩
instance iXIlC_3:En Tryz.prog 27:=⟨fun _ _=>by kernel_rfl⟩
instance iXIlC_4:En Tryz.prog 10:=⟨fun _ _=>by kernel_rfl⟩
section
variable {P:Program}{ops:Array Oper}{Q:Exit->Act->World->Prop}{N:Nat}{M:List Nat}{W:World}{E:Env}{O:List Qb}{o:Oper}{C:World->Prop}{d:Nat}
theorem Qnt(T:List Nat:=[]){id:Nat}{l:List Oper}(hm:P.follows .mixedOrders=true)(h:dE P l.toArray Q N M W O T l.length (Array.replicate l.length false) E O):sE P Q N M W E O (.region id l.toArray true):=ZR O T hm h
theorem QhJ{x y:Operand}{t':TypeId}{a b a' b':Int}{v:Bool}(ho:o.op=.binOp .eql 32 x y t')(hd:o.dst=some d)(hN:d<N)(hw:Qi ops E o=some true)(hx:ev E x=some (.agg #[.int .i64 a,.int .i64 b]))(hy:ev E y=some (.agg #[.int .i64 a',.int .i64 b']))(hb:(a==a'&&b==b')=v):oE Tryz.prog ops C N E ((d,.bool v)::E) o:=
 X8 hd hN hw fun ρ w ha _=>by
  subst hb;by_cases h1:a=a'<;>by_cases h2:b=b'<;>simp [execOp,ho,ha.eval hx,ha.eval hy,h1,h2,go_sem]
end
section
variable {W w:World}{O:List Qb}
theorem Q2z{D:List UInt8}{A2:Option Addr}{m c2:Nat}{d:Nd}{l:VF}(hw:Wd [] W O w)(hf:QW w w.heap.size A n F)(hs:FSm F)(hc:n<=c)(hg:GV w)(hd:Rd w w.heap.size 1 A2 m (bv D))(hmc:m<=c2)(hc2:c2<=maxLen)(h:Zn F D=((d,l),(cd,x))):
  Calls Tryz.prog 11 #[.agg #[.slice A n c],.slice A2 m c2] w (Xf (fun y:Py=>.tuple #[.agg (y.cells d).toArray,.agg #[.int .i64 cd,.int .i64 x]]) (fun y=>QU y.L (.agg (y.cells d).toArray) d l) [] W (fun y=>O++y.L)):=
 (Qdv hf hs hc hg hd hmc hc2).mono fun e w' ⟨y,h1,h2,h3,h4⟩=>by
  rw[h] at h1 h2;exact⟨y,h1,h2,hw.made h4 h3⟩
theorem QnU{d:Nd}{l:VF}{v:Value}{b:List UInt8}(hw:Wd [] W O w)(hf:QW w w.heap.size A n F)(hs:FSm F)(hc:n<=c)(hg:GV w)(hv:VIn w w.heap.size v d l)(hsz:Sz d l)(h:Q1P F d l=(b,(cd,x)))(hF:∀k:Int,0<=k/\k<F.length->(Ql F k).kind=2\/(Ql F k).kind=6)(hz:QF F=(0,0))(hz2:Z8 d l=(0,0)):
  Calls Tryz.prog 15 #[.agg #[.slice A n c],v] w (Xf (fun y:Option Addr×Nat=>.tuple #[.slice y.1 b.length y.2,.agg #[.int .i64 cd,.int .i64 x]]) (fun y=>b.length<=y.2/\y.2<=maxLen) [] W (fun y=>O++[.rd y.1 b.length 1 (bv b)])):=
 (Qfr hF hf hs hc hg hv hsz hz hz2).mono fun e w' ⟨A',c',h1,h2,h3,h4,h5⟩=>by
  rw[h] at h1 h2 h3;exact⟨(A',c'),h1,⟨h3,h4⟩,hw.made h5 h2⟩
theorem Qav{vs:List (Nat×Value)}{cells:List Value}(hn:n<=1000/\0<n)(h:∀Z:Array Value,Z.size=n*1->Instr.fill (fun i=>some (i*1,1)) Z vs=some cells.toArray)(w:World):(Instr.buildSlice 25 n vs.toArray).run Tryz.prog w=.ok (.slice (some ⟨w.heap.size,0,none⟩) n n) (w.alloc (.cells cells.toArray 5)):=by
 have hT:SlT Tryz.prog 25 5 1 1:=(inferInstance:Sl Tryz.prog 25 5 1 1).h;obtain⟨j,z,hi,hz,hsz,hby,hzs⟩:=hT.info;refine run_buildSlice w _ _ n vs.toArray cells.toArray j z hT.und hi hz Ye Ye ?_;rw[hsz];exact h _ Qm
end
theorem QvM:∀k:Int,0<=k/\k<exF.length->(Ql exF k).kind=2\/(Ql exF k).kind=6:=fun k hk=>by
 have h3:exF.length=3:=rfl
 rcases (show k=0\/k=1\/k=2 by omega) with rfl|rfl|rfl<;>decide
theorem Qh7:Sz ndL (Q41 5 6):=by
 refine⟨Qp5,⟨Qp5,by decide,trivial,Qp5,by decide,trivial,trivial⟩,by decide⟩
theorem Q83{W:World}(hg:GV W):Calls Tryz.prog 10 #[] W fun e w'=>e=.returned (.bool true)/\Below W.heap.size W w':=by
 have HG:=Q2 hg;clear hg;go_enter Tryz.func10,Tryz.ntmps10;refine Qv (M:=[]) (W:=W) (N:=65) (E:=[]) (O:=[]) ?_ (Ag.nil rfl rfl) QT;refine yq<|yr<|yo zA<|yl<|yn<|yq<|yr ?_;refine Qc QhD rfl Q1 (fun p1 _=>?_);refine Qc Qt7 rfl Q1 (fun d1 _=>?_);refine Qc (Xg _ _ _ rfl rfl rfl (fun w hw=>Q2z hw (QgN Q0v) QhB Xo Q05 (hw.rd_blk (n:=5) 0 rfl rfl) Xo Q1 Qmz)) rfl Q1 (fun q1 hy1=>?_);refine Q6I ?_;refine yA fun b1=>?_;refine yA fun b2=>?_;refine yW 1 ?_;refine Q4f ?_;have HY1:=Q2 hy1;clear hy1;refine yn<|yq<|yr ?_;refine Qc QhD rfl Q1 (fun p2 _=>?_);refine Qc (Zj (xs:=[(0,.const (.int .u8 2)),(1,.const (.int .u8 5)),(2,.const (.int .u8 0))]) (vs:=[(0,.int .u8 2),(1,.int .u8 5),(2,.int .u8 0)]) (cells:=bv [2,5,0]) rfl rfl rfl (Qav Q1 (by rintro⟨l⟩ h;match l,h with|[z0,z1,z2],_=>rfl))) rfl Q1 (fun d2 _=>?_);refine Qc (Xg _ _ _ rfl rfl rfl (fun w hw=>Q2z hw (QgN Q0v) QhB Xo Q05 (hw.rd_blk (n:=3) 0 rfl rfl) Xo Q1 QlS)) rfl Q1 (fun q2 hy2=>?_);refine Q6I ?_;refine yA fun b3=>?_;refine yA fun b4=>?_;refine yW 1 ?_;refine Q4f ?_;clear hy2;refine yn<|yq<|yr ?_;refine Qc QhD rfl Q1 (fun p3 _=>?_);refine Qc (Zj (xs:=[(0,.const (.int .u8 0)),(1,.const (.int .u8 9))]) (vs:=[(0,.int .u8 0),(1,.int .u8 9)]) (cells:=bv [0,9]) rfl rfl rfl (Qav Q1 (by rintro⟨l⟩ h;match l,h with|[z0,z1],_=>rfl))) rfl Q1 (fun d3 _=>?_);refine Qc (Xg _ _ _ rfl rfl rfl (fun w hw=>Q2z hw (QgN Q0v) QhB Xo Q05 (hw.rd_blk (n:=2) 0 rfl rfl) Xo Q1 QpP)) rfl Q1 (fun q3 hy3=>?_);refine Q6I ?_;refine yA fun b5=>?_;refine yA fun b6=>?_;refine yW 1 ?_;refine Q4f ?_;clear hy3;refine yn<|yq<|yr ?_;refine Qc QhD rfl Q1 (fun p4 _=>?_);refine Q4 Qkg ?_;refine Q4 QnX ?_;refine Qc Qko rfl Q1 (fun s4 _=>?_);refine Qc (Xg _ _ _ rfl rfl rfl (fun w hw=>QnU hw (QgN Q0v) QhB Xo Q05 ((Qcs 5 6 s4).vin QnC) Qh7 QnK QvM Q6r QfW)) rfl Q1 (fun wo hyo=>?_);refine Q6I ?_;refine yA fun b8=>?_;refine yo zA ?_;refine yW 0 ?_;refine yl<|yn<|yq ?_;refine Qnt [] Q5 ?_;refine Qn 0 rfl Q5 KK zF ?_;refine Qn 1 rfl Q5 KK (zB 11) ?_;refine Qn 2 rfl Q5 KK zet ?_;refine Qn 3 rfl Q5 KK zM ?_;refine Qn 4 rfl Q5 KK zF ?_;refine Qn 5 rfl Q5 KK (zB 0) ?_;refine Qn 6 rfl Q5 KK zet ?_;refine Qn 7 rfl Q5 KK zY ?_;refine Qn 8 rfl Q5 KK zM ?_;refine Qn 9 rfl Q5 KK (X7 (cs:=q1.cells ndL) rfl rfl Q1 rfl rfl (fun w hw=>Wd.range_blk 12 (cs:=q1.cells ndL) rfl hw) rfl) ?_;refine Qn 10 rfl Q5 KK Qkg ?_;refine Qn 11 rfl Q5 KK QnX ?_;refine QX 12 Q5 rfl rfl Qko (fun _=>.inr Y3) rfl Q1 (fun s5 _=>?_);refine QbR 13 Q5 rfl (.inr Y3) (Qg rfl rfl Q1 rfl rfl (fun w hw=>Q0i ndL (Q41 5 6) ndL (Q41 5 6) w _ _ Qh7.1.2.2.1 Qh7.2.2 Qh7.2.1 (HY1.out.vin fun x hx=>hw.onAll x Q00) ((Qcs 5 6 s5).vin QnC))) ?_;rw[(QhX ndL (Q41 5 6) ndL (Q41 5 6)).2 ⟨rfl,rfl⟩];refine Qn 14 rfl Q5 Y3 zY ?_;refine Qn 15 rfl Q5 Y3 zM ?_;refine Qn 16 rfl Q5 Y3 (X7 (cs:=[.int .i64 1,.int .i64 3]) rfl rfl Q1 rfl rfl (fun w hw=>Wd.range_blk 7 (cs:=[.int .i64 1,.int .i64 3]) rfl hw) rfl) ?_;refine Qn 17 rfl Q5 Y3 Qts ?_;refine Qn 18 rfl Q5 Y3 QoZ ?_;refine Qn 19 rfl Q5 Y3 zY ?_;refine Qn 20 rfl Q5 Y3 zM ?_;refine Qn 21 rfl Q5 Y3 (X7 (cs:=[.int .i64 1,.int .i64 1]) rfl rfl Q1 rfl rfl (fun w hw=>Wd.range_blk 3 (cs:=[.int .i64 1,.int .i64 1]) rfl hw) rfl) ?_;refine Qn 22 rfl Q5 Y3 Qts ?_;refine Qn 23 rfl Q5 Y3 QoZ ?_;refine Qn 24 rfl Q5 Y3 zY ?_;refine Qn 25 rfl Q5 Y3 zM ?_;refine Qn 26 rfl Q5 Y3 zM ?_;refine QX 27 Q5 rfl rfl Qt7 (fun _=>.inr Qaj) rfl Q1 (fun d5 _=>?_);refine QbR 28 Q5 rfl (.inr Qaj) (Qg rfl rfl Q1 rfl rfl (fun w hw=>Calls.stay (Q4I (a:=exD) (b:=exD) (B:=w.heap.size) (B':=w.heap.size) (hw.onAll (.rd wo.1 exD.length 1 (bv exD)) Qm) (hw.rd_blk (n:=5) 0 rfl rfl)))) ?_;refine Qn 29 rfl Q5 Qaj zY ?_;refine Qn 30 rfl Q5 Qaj zA ?_;refine Xn ?_ Q5;refine yn<|yt ?_;exact Q8 mc4 rfl (.tmp rfl) (fun w hw=>⟨by rfl,hw.k.below⟩)
end
def Qv3(W:World)(e:Ending)(w':World):Prop:=e=.returned (.bool true)/\Below W.heap.size W w'
section
variable {A A2:Option Addr}{n c m c2:Nat}{W:World}{F:List Rl}{D:List UInt8}{d:Nd}{l:VF}{v:Value}
theorem Qpx(hs:FSm F)(h:(Zn F D).2.1=0):Sz (Zn F D).1.1 (Zn F D).1.2:=by
 obtain⟨h0,hl,d,l,he,hr,hval⟩:=QpG h;have hv:=Q0O h0;rw[he];exact YV hv Q3 (fun r hr x hx=>(hs.2 r hr).each x hx) _ Qm8 0 _ XY hr
theorem QlD(d:Nd)(l:VF):eqV d l d l=true:=(QhX d l d l).2 ⟨rfl,rfl⟩
theorem neI{a:Int}(h:a≠0):(a != 0)=true:=bne_iff_ne.2 h
end
section
variable {r:Rl}
theorem QY(n l h:Int)(w:World):Calls Tryz.prog 71 #[.int .i64 n,.int .i64 l,.int .i64 h] w fun e w'=>e=.returned (.bool (inB n l h))/\Below w.heap.size w w':=
 (Qdb n l h w).mono fun _ _ ⟨he,hw⟩=>⟨by rw[he];congr 2;rw[Bool.eq_iff_iff,QM];simp,hw▸Below.refl _ _⟩
theorem JA{n:Int}(hn:0<=n/\n<=4)(w:World):Calls Tryz.prog 104 #[.int .i64 n] w fun e w'=>e=.returned (.int .i64 ((256:Int) ^ n.toNat))/\Below w.heap.size w w':=by
 obtain⟨m,rfl⟩:∃m:Nat,n=(m:Int):=Qac;exact(Qby m Q3 w).mono fun _ _ ⟨he,hw⟩=>⟨by rw[he,Int.toNat_natCast],hw▸Below.refl _ _⟩
section
variable {A Ab An Ap:Option Addr}{n c cb cn cp:Nat}{W:World}
theorem Qir(hk:r.kind=2\/r.kind=3\/r.kind=4\/r.kind=5\/r.kind=6\/r.kind=9\/r.kind=10)(hn:n<=1048576):
  Calls Tryz.prog 73 #[.agg #[.slice A n c],.agg (ruC r (.slice Ab r.bs.length cb) (.slice An r.names.length cn) (.slice Ap r.parts.length cp)).toArray] W (QL W (QC r.kind r.size r.mn r.mx r.stop r.count r.elem r.parts n)):=by
 obtain⟨name,kind,bs,size,big,mn,mx,stop,count,elem,names,parts⟩:=r;simp only[ruC] at hk ⊢;rcases hk with rfl|rfl|rfl|rfl|rfl|rfl|rfl<;>
 ·go_enter Tryz.func73,Tryz.ntmps73
  refine Qv (M:=[]) (W:=W) (N:=114) (E:=[(0,.agg #[.slice A n c]),(1,.agg ([.string ⟨name.toArray⟩,.int .i64 _,.slice Ab bs.length cb,.int .i64 size,.bool big,.int .i64 mn,.int .i64 mx,.int .i64 stop,.int .i64 count,.int .i64 elem,.slice An names.length cn,.slice Ap parts.length cp]:List Value).toArray)]) (O:=[]) ?_ mc3 (Wd.start [] W);repeat' (first|((with_reducible show lE _ _ _ _ _ _ _ _ _);first|refine Q4 zM ?_|refine Q4 zA ?_|refine Q4 zF ?_|refine Q4 zS ?_|refine Q4 (zB 0) ?_|refine Q4 (zB 1) ?_|refine Vb QM QnL (fun _=>?_) (fun _=>?_)|refine yB fun br=>?_|refine Qd ?_|refine Q4 zL ?_|refine Q4 zet ?_|refine Q4 zef ?_|refine Q4 zY ?_|refine Q4 zN ?_|refine Q4 zO ?_|refine Q4 zQ ?_)|((with_reducible show qE _ _ _ _ _ _ _);first|refine Qe zM ?_|refine Qe zA ?_|refine Qe zF ?_|refine Qe zS ?_|refine Qe (zB 0) ?_|refine Q5D QM QnL (fun _=>?_) (fun _=>?_)|refine Qe (Qg (f:=104) rfl rfl Q1 rfl rfl (fun w hw=>JA Q3 w)) ?_|refine Z3 ?_|refine Qe zY ?_|refine Qe zN ?_|refine Q5D Q16 (KR rfl rfl Q1 rfl rfl rfl rfl) (fun _=>?_) (fun _=>?_)|refine Q5D Q16 (Q6s rfl rfl Q1 rfl rfl rfl rfl) (fun _=>?_) (fun _=>?_)|refine Q5D Q16 (Qhv rfl rfl Q1 rfl rfl rfl rfl) (fun _=>?_) (fun _=>?_))|((with_reducible show sE _ _ _ _ _ _ _ _);first|refine Qa ?_|refine Q6 ?_|refine Xb Q5 Q5 ?_|refine Qt ?_|refine Q9 rfl ?_|refine Q7 rfl ?_|refine QB ?_)|((with_reducible show xE _ _ _ _ _ _ _);first|refine Qj ?_|refine Qk ?_))
  all_goals exact Q8 mc4 rfl (.tmp rfl) (fun w hw=>QG (by simp [QC,inB];omega) hw)
theorem Qjr(hk:r.kind=1\/r.kind=7\/r.kind=8)(hn:n<=1048576)(hpl:r.parts.length<=1048576)(hp:Rd W W.heap.size 1 Ap r.parts.length (iv r.parts)):
  Calls Tryz.prog 73 #[.agg #[.slice A n c],.agg (ruC r (.slice Ab r.bs.length cb) (.slice An r.names.length cn) (.slice Ap r.parts.length cp)).toArray] W (QL W (QC r.kind r.size r.mn r.mx r.stop r.count r.elem r.parts n)):=by
 have hR:QC r.kind r.size r.mn r.mx r.stop r.count r.elem r.parts n=!(r.parts.any fun x=>!(inB x 0 ((n:Int) - 1))):=by
  unfold QC;rcases hk with h|h|h<;>rw[h]<;>rfl
 rw[hR];clear hR;have HP:=Q2 hp;clear hp;obtain⟨name,kind,bs,size,big,mn,mx,stop,count,elem,names,parts⟩:=r;simp only[ruC] at hk hpl HP ⊢;rcases hk with rfl|rfl|rfl<;>
 ·go_enter Tryz.func73,Tryz.ntmps73
  refine Qv (M:=[]) (W:=W) (N:=114) (E:=[(0,.agg #[.slice A n c]),(1,.agg ([.string ⟨name.toArray⟩,.int .i64 _,.slice Ab bs.length cb,.int .i64 size,.bool big,.int .i64 mn,.int .i64 mx,.int .i64 stop,.int .i64 count,.int .i64 elem,.slice An names.length cn,.slice Ap parts.length cp]:List Value).toArray)]) (O:=[]) ?_ mc3 (Wd.start [] W);refine Q2I ?_
  refine yB fun b2=>?_;refine yB fun b3=>?_;refine Qae ?_
  refine yo zF<|yo (zB 1)<|yo zL<|yo zQ<|yo zA<|yl ?_;refine QnB ?_
  refine yo zF<|yo (zB 0)<|yo zA<|yl ?_;refine QnB ?_
  refine Q91 ?_
  refine Q91 ?_
  refine Q91 ?_
  refine Q91 ?_
  refine Q91 ?_
  refine Q91 ?_
  refine yo zM<|yo zef<|yl ?_;refine Qnz ?_
  refine yo zA<|yl ?_;repeat(first|((with_reducible show sE _ _ _ _ _ _ _ _);refine Qh ?_)|((with_reducible show xE _ _ _ _ _ _ _);refine Qj ?_))
  refine QH (ι:=Nat) (fun i=>i<=parts.length/\∀x∈parts.take i,inB x 0 ((n:Int) - 1)=true) (fun i=>parts.length - i) (fun i=>[(2,.pointer (some ⟨b2,0,none⟩)),(3,.pointer (some ⟨b3,0,none⟩)),(5,.int .i64 ((n:Int) - 1)),(7,.int .i64 (i:Int))]) (fun i=>[.blk b3 (.cells ([.string ⟨name.toArray⟩,.int .i64 _,.slice Ab bs.length cb,.int .i64 size,.bool big,.int .i64 mn,.int .i64 mx,.int .i64 stop,.int .i64 count,.int .i64 elem,.slice An names.length cn,.slice Ap parts.length cp]:List Value).toArray 65 (0,0)),.blk b2 (.cells ([.slice A n c]:List Value).toArray 24 (0,0))]) 0 [0,1] Q1 ⟨Nat.zero_le _,fun x hx=>by cases hx⟩ (.cons rfl rfl (.cons rfl rfl (.cons rfl rfl (.cons rfl rfl .nil)))) rfl ?_;rintro i ⟨hi,hall⟩;have HALL:=Q2 hall;clear hall;by_cases hlt:i<parts.length
  ·obtain⟨bp,op,rfl,_,hcell⟩:=HP.out.2 Q3;obtain⟨x,hx⟩:∃x,parts[i]? =some x:=⟨_,List.getElem?_eq_getElem hlt⟩;have hc0:W.cell? ⟨bp,op+i,none⟩=some (.int .i64 x):=hcell i _ (by unfold iv;rw[List.getElem?_map,hx];rfl);have HX:=Q2 hx;clear hcell hx;obtain⟨q,hq⟩:∃q,inB x 0 ((n:Int) - 1)=q:=⟨_,rfl⟩
   cases q with
   |true=>
    have HQ:=Q2 hq;refine Q2I ?_
    refine yo zM<|yo zF<|yo (zB 0)<|yo zL<|yo zlt<|yl ?_;refine Qgb ?_
    refine QsL ?_;repeat(first|((with_reducible show sE _ _ _ _ _ _ _ _);first|refine Q6 ?_|refine Qt ?_|refine Q7 rfl ?_)|((with_reducible show xE _ _ _ _ _ _ _);refine Qj ?_))
    refine yo zM<|yo zP<|yo zA<|yl ?_;refine Qr (i+1) [0,1] Q1 ⟨hlt,fun z hz=>?_⟩ Q3 mc2 rfl;rw[List.take_add_one,HX.out] at hz;rcases List.mem_append.1 hz with hz|hz
    ·exact HALL.out z hz
    ·rw[List.mem_singleton.1 hz];exact HQ.out
   |false=>
    refine Q2I ?_
    refine yo zM<|yo zF<|yo (zB 0)<|yo zL<|yo zlt<|yl ?_;refine Qgb ?_
    refine QsL ?_;refine Qbr ?_
    refine yo zA<|yl ?_;repeat(first|((with_reducible show sE _ _ _ _ _ _ _ _);refine QB ?_)|((with_reducible show xE _ _ _ _ _ _ _);first|refine Qj ?_|refine Qk ?_|refine Qs ?_))
    refine Q8 (by exact .inr rfl) rfl (.tmp rfl) (fun w hw=>QG ?_ hw);have h:parts.any (fun x=>!(inB x 0 ((n:Int) - 1)))=true:=List.any_eq_true.2 ⟨x,List.mem_of_getElem? HX.out,by rw[hq];rfl⟩;rw[h];rfl
  ·skip
   repeat(first|((with_reducible show sE _ _ _ _ _ _ _ _);first|refine Qa ?_|refine Q6 ?_))
   refine yo zM<|yo zF<|yo (zB 0)<|yo zL<|yo zlf<|yl ?_;repeat(first|((with_reducible show sE _ _ _ _ _ _ _ _);first|refine Qa ?_|refine Q6 ?_|refine Q7 rfl ?_|refine XK ?_)|((with_reducible show xE _ _ _ _ _ _ _);refine Qj ?_))
   refine yo zA<|yl ?_;repeat(first|((with_reducible show sE _ _ _ _ _ _ _ _);refine QB ?_)|((with_reducible show xE _ _ _ _ _ _ _);refine Qj ?_))
   refine Q8 (by exact .inr rfl) rfl (.tmp rfl) (fun w hw=>QG ?_ hw);have h:parts.any (fun x=>!(inB x 0 ((n:Int) - 1)))=false:=List.any_eq_false.2 fun x hx=>by
    rw[HALL.out x (by rw[List.take_of_length_le Q3];exact hx)];exact Bool.false_ne_true
   rw[h];rfl
theorem Q7U(hk:1<=r.kind/\r.kind<=10)(hn:n<=1048576)(hpl:r.parts.length<=1048576)(hp:Rd W W.heap.size 1 Ap r.parts.length (iv r.parts)):
  Calls Tryz.prog 73 #[.agg #[.slice A n c],.agg (ruC r (.slice Ab r.bs.length cb) (.slice An r.names.length cn) (.slice Ap r.parts.length cp)).toArray] W (QL W (QC r.kind r.size r.mn r.mx r.stop r.count r.elem r.parts n)):=by
 rcases (show (r.kind=2\/r.kind=3\/r.kind=4\/r.kind=5\/r.kind=6\/r.kind=9\/r.kind=10)\/(r.kind=1\/r.kind=7\/r.kind=8) by omega) with h|h
 ·exact Qir h hn
 ·exact Qjr h hn hpl hp
end
end
theorem Jj{k size mn mx stop count elem:Int}{big:Bool}{nb nn np:Nat}:X6 k size big mn mx stop count elem nb nn np=true↔(nb=0\/k=1)/\(stop=0\/k=3\/k=5\/k=9)/\(size=0\/k=2\/k=4\/k=5)/\((big=false/\mn=0)\/k=2)/\(mx=0\/k=2\/k=3)/\(count=0\/k=6\/k=10)/\(elem=0\/k=6\/k=9)/\(nn=0\/k=7)/\(np=0\/k=7\/k=8):=by
 simp [X6,XO,XP,Z0,Qy,JV,JG,XF,and_assoc,or_assoc]
section
variable {k size mn mx stop count elem:Int}{big:Bool}{nb nn np:Nat}
theorem Q3I(hb:big=false)(h:(nb=0\/k=1)/\(stop=0\/k=3\/k=5\/k=9)/\(size=0\/k=2\/k=4\/k=5)/\(mn=0\/k=2)/\(mx=0\/k=2\/k=3)/\(count=0\/k=6\/k=10)/\(elem=0\/k=6\/k=9)/\(nn=0\/k=7)/\(np=0\/k=7\/k=8)):false=!(X6 k size big mn mx stop count elem nb nn np):=by
 rw[Jj.2 ⟨h.1,h.2.1,h.2.2.1,h.2.2.2.1.imp (fun x=>⟨hb,x⟩) id,h.2.2.2.2⟩];rfl
theorem Qiw(hk:k=2)(h:nb=0/\stop=0/\count=0/\elem=0/\nn=0/\np=0):false=!(X6 k size big mn mx stop count elem nb nn np):=by
 rw[Jj.2 ⟨.inl h.1,.inl h.2.1,.inr (.inl hk),.inr hk,.inr (.inl hk),.inl h.2.2.1,.inl h.2.2.2.1,.inl h.2.2.2.2.1,.inl h.2.2.2.2.2⟩];rfl
theorem Q3U(hb:big=true)(hk:k≠2):true=!(X6 k size big mn mx stop count elem nb nn np):=by
 have h:X6 k size big mn mx stop count elem nb nn np=false:=by
  cases hf:X6 k size big mn mx stop count elem nb nn np with
  |false=>rfl
  |true=>
   rcases (Jj.1 hf).2.2.2.1 with h|h
   ·rw[hb] at h;cases h.1
   ·exact absurd h hk
 rw[h];rfl
theorem Q42(h:¬((nb=0\/k=1)/\(stop=0\/k=3\/k=5\/k=9)/\(size=0\/k=2\/k=4\/k=5)/\(mn=0\/k=2)/\(mx=0\/k=2\/k=3)/\(count=0\/k=6\/k=10)/\(elem=0\/k=6\/k=9)/\(nn=0\/k=7)/\(np=0\/k=7\/k=8))):true=!(X6 k size big mn mx stop count elem nb nn np):=by
 have h1:X6 k size big mn mx stop count elem nb nn np=false:=by
  cases hf:X6 k size big mn mx stop count elem nb nn np with
  |false=>rfl
  |true=>
   have h2:=Jj.1 hf;exact absurd ⟨h2.1,h2.2.1,h2.2.2.1,h2.2.2.2.1.imp (fun x=>x.2) id,h2.2.2.2.2⟩ h
 rw[h1];rfl
end
section
variable {A Ab An Ap:Option Addr}{n c cb cn cp:Nat}{W:World}
theorem QmA{r:Rl}(hk:r.kind=1\/r.kind=2\/r.kind=3):
  Calls Tryz.prog 72 #[.agg (ruC r (.slice Ab r.bs.length cb) (.slice An r.names.length cn) (.slice Ap r.parts.length cp)).toArray] W (QL W (!(X6 r.kind r.size r.big r.mn r.mx r.stop r.count r.elem r.bs.length r.names.length r.parts.length))):=by
 obtain⟨name,kind,bs,size,big,mn,mx,stop,count,elem,names,parts⟩:=r;simp only[ruC] at hk ⊢;rcases hk with rfl|rfl|rfl<;>
 ·go_enter Tryz.func72,Tryz.ntmps72
  refine Qv (M:=[]) (W:=W) (N:=118) (E:=[(0,.agg ([.string ⟨name.toArray⟩,.int .i64 _,.slice Ab bs.length cb,.int .i64 size,.bool big,.int .i64 mn,.int .i64 mx,.int .i64 stop,.int .i64 count,.int .i64 elem,.slice An names.length cn,.slice Ap parts.length cp]:List Value).toArray)]) (O:=[]) ?_ (Ag.cons (Ag.nil rfl rfl) rfl) (Wd.start [] W);repeat' (first|((with_reducible show lE _ _ _ _ _ _ _ _ _);first|refine Vb Qa4 (zB 0) (fun _=>?_) (fun _=>?_)|refine Q4 zM ?_|refine Q4 zA ?_|refine Q4 zF ?_|refine Q4 zS ?_|refine Q4 (zB 0) ?_|refine yB fun br=>?_|refine Qd ?_|refine Q4 zL ?_|refine Q4 znt ?_|refine Q4 znf ?_|refine Q4 zY ?_|refine Q4 zN ?_|refine Vb bne_iff_ne (Q0A rfl rfl Q1 rfl rfl rfl rfl) (fun _=>?_) (fun _=>?_)|refine Vb Q16 (YM rfl rfl Q1 rfl rfl rfl rfl) (fun _=>?_) (fun _=>?_))|((with_reducible show sE _ _ _ _ _ _ _ _);first|refine Qa ?_|refine Q6 ?_|refine Qt ?_|refine Q9 rfl ?_|refine Q7 rfl ?_|refine QB ?_)|((with_reducible show xE _ _ _ _ _ _ _);first|refine Qj ?_|refine Qk ?_))
  all_goals exact Q8 (by exact .inr rfl) rfl (.tmp rfl) (fun w hw=>QG (by first|exact Q42 Q3|exact Q3U QS Q1|exact Q3I (Bool.eq_false_iff.2 QS) Q3|exact Qiw rfl Q3) hw)
end
section
variable {A Ab An Ap:Option Addr}{n c cb cn cp:Nat}{W:World}
theorem Qom{r:Rl}(hk:r.kind=4\/r.kind=5\/r.kind=6):
  Calls Tryz.prog 72 #[.agg (ruC r (.slice Ab r.bs.length cb) (.slice An r.names.length cn) (.slice Ap r.parts.length cp)).toArray] W (QL W (!(X6 r.kind r.size r.big r.mn r.mx r.stop r.count r.elem r.bs.length r.names.length r.parts.length))):=by
 obtain⟨name,kind,bs,size,big,mn,mx,stop,count,elem,names,parts⟩:=r;simp only[ruC] at hk ⊢;rcases hk with rfl|rfl|rfl<;>
 ·go_enter Tryz.func72,Tryz.ntmps72
  refine Qv (M:=[]) (W:=W) (N:=118) (E:=[(0,.agg ([.string ⟨name.toArray⟩,.int .i64 _,.slice Ab bs.length cb,.int .i64 size,.bool big,.int .i64 mn,.int .i64 mx,.int .i64 stop,.int .i64 count,.int .i64 elem,.slice An names.length cn,.slice Ap parts.length cp]:List Value).toArray)]) (O:=[]) ?_ (Ag.cons (Ag.nil rfl rfl) rfl) (Wd.start [] W);repeat' (first|((with_reducible show lE _ _ _ _ _ _ _ _ _);first|refine Vb Qa4 (zB 0) (fun _=>?_) (fun _=>?_)|refine Q4 zM ?_|refine Q4 zA ?_|refine Q4 zF ?_|refine Q4 zS ?_|refine Q4 (zB 0) ?_|refine yB fun br=>?_|refine Qd ?_|refine Q4 zL ?_|refine Q4 znt ?_|refine Q4 znf ?_|refine Q4 zY ?_|refine Q4 zN ?_|refine Vb bne_iff_ne (Q0A rfl rfl Q1 rfl rfl rfl rfl) (fun _=>?_) (fun _=>?_)|refine Vb Q16 (YM rfl rfl Q1 rfl rfl rfl rfl) (fun _=>?_) (fun _=>?_))|((with_reducible show sE _ _ _ _ _ _ _ _);first|refine Qa ?_|refine Q6 ?_|refine Qt ?_|refine Q9 rfl ?_|refine Q7 rfl ?_|refine QB ?_)|((with_reducible show xE _ _ _ _ _ _ _);first|refine Qj ?_|refine Qk ?_))
  all_goals exact Q8 (by exact .inr rfl) rfl (.tmp rfl) (fun w hw=>QG (by first|exact Q42 Q3|exact Q3U QS Q1|exact Q3I (Bool.eq_false_iff.2 QS) Q3) hw)
end
section
variable {A Ab An Ap:Option Addr}{n c cb cn cp:Nat}{W:World}
theorem QlA{r:Rl}(hk:r.kind=7\/r.kind=8\/r.kind=9\/r.kind=10):
  Calls Tryz.prog 72 #[.agg (ruC r (.slice Ab r.bs.length cb) (.slice An r.names.length cn) (.slice Ap r.parts.length cp)).toArray] W (QL W (!(X6 r.kind r.size r.big r.mn r.mx r.stop r.count r.elem r.bs.length r.names.length r.parts.length))):=by
 obtain⟨name,kind,bs,size,big,mn,mx,stop,count,elem,names,parts⟩:=r;simp only[ruC] at hk ⊢;rcases hk with rfl|rfl|rfl|rfl<;>
 ·go_enter Tryz.func72,Tryz.ntmps72
  refine Qv (M:=[]) (W:=W) (N:=118) (E:=[(0,.agg ([.string ⟨name.toArray⟩,.int .i64 _,.slice Ab bs.length cb,.int .i64 size,.bool big,.int .i64 mn,.int .i64 mx,.int .i64 stop,.int .i64 count,.int .i64 elem,.slice An names.length cn,.slice Ap parts.length cp]:List Value).toArray)]) (O:=[]) ?_ (Ag.cons (Ag.nil rfl rfl) rfl) (Wd.start [] W);repeat' (first|((with_reducible show lE _ _ _ _ _ _ _ _ _);first|refine Vb Qa4 (zB 0) (fun _=>?_) (fun _=>?_)|refine Q4 zM ?_|refine Q4 zA ?_|refine Q4 zF ?_|refine Q4 zS ?_|refine Q4 (zB 0) ?_|refine yB fun br=>?_|refine Qd ?_|refine Q4 zL ?_|refine Q4 znt ?_|refine Q4 znf ?_|refine Q4 zY ?_|refine Q4 zN ?_|refine Vb bne_iff_ne (Q0A rfl rfl Q1 rfl rfl rfl rfl) (fun _=>?_) (fun _=>?_)|refine Vb Q16 (YM rfl rfl Q1 rfl rfl rfl rfl) (fun _=>?_) (fun _=>?_))|((with_reducible show sE _ _ _ _ _ _ _ _);first|refine Qa ?_|refine Q6 ?_|refine Qt ?_|refine Q9 rfl ?_|refine Q7 rfl ?_|refine QB ?_)|((with_reducible show xE _ _ _ _ _ _ _);first|refine Qj ?_|refine Qk ?_))
  all_goals exact Q8 (by exact .inr rfl) rfl (.tmp rfl) (fun w hw=>QG (by first|exact Q42 Q3|exact Q3U QS Q1|exact Q3I (Bool.eq_false_iff.2 QS) Q3) hw)
end
section
variable {i:Nat}{s:ByteArray}
theorem Q7v(c:UInt8):wrap64 (c.toNat:Int)=(c.toNat:Int):=by
 have:=c.toNat_lt;unfold wrap64;omega
theorem Kc{n l h:Int}{b:Bool}(e:(decide (l<=n)&&decide (n<=h))=b)(w:World):
  Calls Tryz.prog 71 #[.int .i64 n,.int .i64 l,.int .i64 h] w fun e w'=>e=.returned (.bool b)/\w=w':=by
 rw[<- e];exact Qdb n l h w
def QvR(s:ByteArray)(k:Value):Prop:=∃i:Nat,k=.int .i64 (i:Int)/\i<=s.size/\(s.data.toList.take i).all okC=true
theorem Qb8(h:(s.data.toList.take i).all okC=true)(hi:i<s.size)(hc:okC s[i]=true):(s.data.toList.take (i+1)).all okC=true:=by
 have hx:=Q19 hi;obtain⟨h1,h2⟩:=List.getElem?_eq_some_iff.1 hx;rw[List.take_succ_eq_append_getElem h1,List.all_append,h,h2];simp [hc]
theorem QuA(hi:i<s.size)(hc:okC s[i]=false):s.data.toList.all okC=false:=by
 have hx:=Q19 hi;obtain⟨h1,h2⟩:=List.getElem?_eq_some_iff.1 hx;rw[List.all_eq_false];exact⟨s[i],by rw[<- h2];exact List.getElem_mem h1,by simp [hc]⟩
theorem Q1r(s:ByteArray)(w:World)(hs:s.size<=9223372036854775807):Calls Tryz.prog 70 #[.string s] w fun e w'=>e=.returned (.bool (Qw s.data.toList))/\w=w':=by
 by_cases h0:1<=s.size/\s.size<=32
 ·obtain⟨hp,h32⟩:=h0
  have b1:(decide ((1:Int)<=(s.size:Int))&&decide ((s.size:Int)<=32))=true:=by simp;omega
  have hpos:0<s.size:=by omega
  have HX:=Q19 (s:=s) (k:=0) hpos;by_cases hc:97<=s[0].toNat/\s[0].toNat<=122
  ·have HK:=Q2 (Q7u (l:=s.data.toList) (by simpa using h32) HX hc)
   have b2:(decide ((97:Int)<=(s[0].toNat:Int))&&decide ((s[0].toNat:Int)<=122))=true:=by simp;omega
   clear HX hc;go_enter Tryz.func70,Tryz.ntmps70;go_wp2_with fail
   refine(Kc b1 _).mono ?_;rintro e w' ⟨rfl,rfl⟩;go_wp2_with fail
   try rw[Q7v]
   refine(Kc b2 _).mono ?_;rintro e w' ⟨rfl,rfl⟩;go_wp2_with fail
   go_loop [3] (QvR s) (fun k=>s.size - (intOf k).toNat)
   case atStart=>exact⟨0,rfl,Nat.zero_le _,rfl⟩
   case round=>
    obtain⟨i,rfl,hi,hall⟩:=hrel;have HA:=Q2 hall;clear hall b1 b2;by_cases hlt:i<s.size
    ·have hli:(i:Int)<(s.size:Int):=by omega
     have h00:(0:Int)<=(i:Int):=by omega
     have HLT:=Q2 hlt;obtain⟨c,hc⟩:∃c,s[i].toNat=c:=⟨_,rfl⟩;have HC:=Q2 hc;by_cases k1:97<=c/\c<=122
     ·have HOK:=Q2 (Qb8 HA.out hlt (Q61 Q3 Q3))
      have b1:(decide ((97:Int)<=(s[i].toNat:Int))&&decide ((s[i].toNat:Int)<=122))=true:=by simp;omega
      clear k1 hc;go_wp2_with fail
      try rw[Q7v]
      refine(Kc b1 _).mono ?_;rintro e w' ⟨rfl,rfl⟩;go_wp2_with fail
      go_round
      case rel=>exact⟨i+1,by go_num,hlt,HOK.out⟩
      case measure=>simp [intOf];omega
     ·have b1:(decide ((97:Int)<=(s[i].toNat:Int))&&decide ((s[i].toNat:Int)<=122))=false:=by
       exact Q74
      by_cases k2:48<=c/\c<=57
      ·have HOK:=Q2 (Qb8 HA.out hlt (Q8G Q3 Q3))
       have b2:(decide ((48:Int)<=(s[i].toNat:Int))&&decide ((s[i].toNat:Int)<=57))=true:=by simp;omega
       clear k1 k2 hc;go_wp2_with fail
       try rw[Q7v]
       refine(Kc b1 _).mono ?_;rintro e w' ⟨rfl,rfl⟩;go_wp2_with fail
       try rw[Q7v]
       refine(Kc b2 _).mono ?_;rintro e w' ⟨rfl,rfl⟩;go_wp2_with fail
       go_round
       case rel=>exact⟨i+1,by go_num,hlt,HOK.out⟩
       case measure=>simp [intOf];omega
      ·have b2:(decide ((48:Int)<=(s[i].toNat:Int))&&decide ((s[i].toNat:Int)<=57))=false:=by
        exact Q74
       have hok:okC s[i]=Q2H s[i]:=Q3Q Q3 Q3;clear k1 k2;go_wp2_with fail
       try rw[Q7v]
       refine(Kc b1 _).mono ?_;rintro e w' ⟨rfl,rfl⟩;go_wp2_with fail
       try rw[Q7v]
       refine(Kc b2 _).mono ?_;rintro e w' ⟨rfl,rfl⟩;by_cases k3:s[i]=45\/s[i]=95\/s[i]=46
       ·have HOK:=Q2 (Qb8 HA.out hlt (hok.trans (by rcases k3 with e|e|e<;>rw[e]<;>decide)))
        have hcc:(s[i].toNat:Int)=45\/(s[i].toNat:Int)=95\/(s[i].toNat:Int)=46:=by rcases k3 with e|e|e<;>rw[e]<;>decide
        clear k3 hok HC hc c;rcases hcc with e|e|e
        ·go_wp2_with fail
         go_round
         case rel=>exact⟨i+1,by go_num,hlt,HOK.out⟩
         case measure=>simp [intOf];omega
        ·go_wp2_with fail
         go_round
         case rel=>exact⟨i+1,by go_num,hlt,HOK.out⟩
         case measure=>simp [intOf];omega
        ·have m1:((s[i].toNat:Int) != 45)=true:=by rw[e];decide
         have m2:((s[i].toNat:Int) != 95)=true:=by rw[e];decide
         have m3:((s[i].toNat:Int) != 46)=false:=by rw[e];decide
         go_wp2_with fail
         ·rename_i h
          exact absurd (m3.symm.trans h.2) Q1
         ·go_round
          case rel=>exact⟨i+1,by go_num,hlt,HOK.out⟩
          case measure=>simp [intOf];omega
       ·have HOK:=Q2 (QuA hlt (hok.trans (by simpa [Q2H,and_assoc] using k3)))
        have n1:¬(s[i].toNat:Int)=45:=fun e=>k3 (.inl (UInt8.toNat_inj.1 (by show s[i].toNat=45;omega)));have n2:¬(s[i].toNat:Int)=95:=fun e=>k3 (.inr (.inl (UInt8.toNat_inj.1 (by show s[i].toNat=95;omega))));have n3:¬(s[i].toNat:Int)=46:=fun e=>k3 (.inr (.inr (UInt8.toNat_inj.1 (by show s[i].toNat=46;omega))));clear k3 hok HC hc c;have m1:((s[i].toNat:Int) != 45)=true:=by simpa using n1
        have m2:((s[i].toNat:Int) != 95)=true:=by simpa using n2
        have m3:((s[i].toNat:Int) != 46)=true:=by simpa using n3
        go_wp2_with fail
        ·go_ret
         exact⟨by rw[HK.out,HOK.out];rfl,rfl⟩
        ·rename_i h
         rcases h with (h|h)|h
         ·exact absurd (m1.symm.trans h) Q1
         ·exact absurd (m2.symm.trans h) Q1
         ·exact absurd (m3.symm.trans h) Q1
    ·have HK2:=Q2 (show s.data.toList.all okC=true by have:=HA.out;rw[List.take_of_length_le Q4j] at this;exact this)
     go_wp2_with fail
     go_ret;exact⟨by rw[HK.out,HK2.out];rfl,rfl⟩
  ·have HK:=Q2 (Q4B (l:=s.data.toList) HX hc)
   have b2:(decide ((97:Int)<=(s[0].toNat:Int))&&decide ((s[0].toNat:Int)<=122))=false:=by
    exact Q74
   clear HX hc;go_enter Tryz.func70,Tryz.ntmps70;go_wp2_with fail
   refine(Kc b1 _).mono ?_;rintro e w' ⟨rfl,rfl⟩;go_wp2_with fail
   try rw[Q7v]
   refine(Kc b2 _).mono ?_;rintro e w' ⟨rfl,rfl⟩;go_wp2_with fail
   exact Q6h
 ·have HK:=Q2 (show Qw s.data.toList=false by
   rcases Nat.eq_zero_or_pos s.size with h|h
   ·rw[List.eq_nil_of_length_eq_zero (l:=s.data.toList) (by simpa using h)];rfl
   ·exact Q0k Q4j)
  have b1:(decide ((1:Int)<=(s.size:Int))&&decide ((s.size:Int)<=32))=false:=by
   exact Q74
  clear h0;go_enter Tryz.func70,Tryz.ntmps70;go_wp2_with fail
  refine(Kc b1 _).mono ?_;rintro e w' ⟨rfl,rfl⟩;go_wp2_with fail
  exact Q6h
end
end Go.Proofs.YtphkhfdmlcnoeaaGreatDoor

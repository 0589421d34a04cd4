import Derived.Test.YtphkhfdmlcnoeaaGreatDoorP2
namespace Go.Proofs.YtphkhfdmlcnoeaaGreatDoor
set_option linter.unusedVariables false
set_option linter.unusedSimpArgs false
set_option maxRecDepth 1000000
set_option maxHeartbeats 32000000
open Go.RowKit
section
variable {A:Option Addr}{B c g i n:Nat}{F:List Rl}{r:Rl}{s y:ByteArray}{sb sn sp:Value}{w w':World}
def Kj(w:World)(B:Nat)(r:Rl)(sb sn sp:Value):Prop:=
 ∃Ab nb cb An nn cn Ap np cp,sb=.slice Ab nb cb/\sn=.slice An nn cn/\sp=.slice Ap np cp/\nb<=cb/\nn<=cn/\np<=cp/\Rd w B 1 Ab nb (bv r.bs)/\Rd w B 1 An nn (sv r.names)/\Rd w B 1 Ap np (iv r.parts)
def Kq(w:World)(b o:Nat)(r:Rl)(sb sn sp:Value):Prop:=
 w.cell? ⟨b,o,none⟩=some (.string ⟨r.name.toArray⟩)/\w.cell? ⟨b,o+1,none⟩=some (.int .i64 r.kind)/\w.cell? ⟨b,o+2,none⟩=some sb/\w.cell? ⟨b,o+3,none⟩=some (.int .i64 r.size)/\w.cell? ⟨b,o+4,none⟩=some (.bool r.big)/\w.cell? ⟨b,o+5,none⟩=some (.int .i64 r.mn)/\
 w.cell? ⟨b,o+6,none⟩=some (.int .i64 r.mx)/\w.cell? ⟨b,o+7,none⟩=some (.int .i64 r.stop)/\w.cell? ⟨b,o+8,none⟩=some (.int .i64 r.count)/\w.cell? ⟨b,o+9,none⟩=some (.int .i64 r.elem)/\w.cell? ⟨b,o+10,none⟩=some sn/\w.cell? ⟨b,o+11,none⟩=some sp
def QuM(w:World)(B:Nat)(v:Value)(r:Rl):Prop:=
 ∃sb sn sp,v=.agg #[.string ⟨r.name.toArray⟩,.int .i64 r.kind,sb,.int .i64 r.size,.bool r.big,.int .i64 r.mn,.int .i64 r.mx,.int .i64 r.stop,.int .i64 r.count,.int .i64 r.elem,sn,sp]/\Kj w B r sb sn sp
def QX(w:World)(B:Nat)(A:Option Addr)(n:Nat)(F:List Rl):Prop:=
 F.length=n/\(0<n->∃b o,A=some ⟨b,o,none⟩/\b<B/\∀i r,F[i]? =some r->∃sb sn sp,Kq w b (o+i*12) r sb sn sp/\Kj w B r sb sn sp)
theorem Kj.below{w w':World}{B:Nat}{r:Rl}{sb sn sp:Value}(h:Kj w B r sb sn sp)(hb:Below B w w'):Kj w' B r sb sn sp:=by
 obtain⟨Ab,nb,cb,An,nn,cn,Ap,np,cp,h1,h2,h3,h4,h5,h6,h7,h8,h9⟩:=h;exact⟨Ab,nb,cb,An,nn,cn,Ap,np,cp,h1,h2,h3,h4,h5,h6,h7.below hb,h8.below hb,h9.below hb⟩
theorem Kj.more{w:World}{B B':Nat}{r:Rl}{sb sn sp:Value}(h:Kj w B r sb sn sp)(hB:B<=B'):Kj w B' r sb sn sp:=by
 obtain⟨Ab,nb,cb,An,nn,cn,Ap,np,cp,h1,h2,h3,h4,h5,h6,h7,h8,h9⟩:=h;exact⟨Ab,nb,cb,An,nn,cn,Ap,np,cp,h1,h2,h3,h4,h5,h6,h7.more hB,h8.more hB,h9.more hB⟩
theorem Kj.on(h:Kj w w.heap.size r sb sn sp)(hb:Below w.heap.size w w'):Kj w' w'.heap.size r sb sn sp:=(h.below hb).more hb.size
theorem QuM.on{w w':World}{v:Value}{r:Rl}(h:QuM w w.heap.size v r)(hb:Below w.heap.size w w'):QuM w' w'.heap.size v r:=by
 obtain⟨sb,sn,sp,e,h⟩:=h;exact⟨sb,sn,sp,e,h.on hb⟩
theorem Kq.below{b o:Nat}(h:Kq w b o r sb sn sp)(hb:Below B w w')(hB:b<B):Kq w' b o r sb sn sp:=by
 obtain⟨h0,h1,h2,h3,h4,h5,h6,h7,h8,h9,h10,h11⟩:=h;exact⟨(hb.cell YS).trans h0,(hb.cell YS).trans h1,(hb.cell YS).trans h2,(hb.cell YS).trans h3,(hb.cell YS).trans h4,(hb.cell YS).trans h5,(hb.cell YS).trans h6,(hb.cell YS).trans h7,(hb.cell YS).trans h8,(hb.cell YS).trans h9,(hb.cell YS).trans h10,(hb.cell YS).trans h11⟩
theorem QX.on{w w':World}{A:Option Addr}{n:Nat}{F:List Rl}(h:QX w w.heap.size A n F)(hb:Below w.heap.size w w'):QX w' w'.heap.size A n F:=
 ⟨h.1,fun h0=>by
  obtain⟨b,o,e,hB,hc⟩:=h.2 h0;refine⟨b,o,e,Nat.lt_of_lt_of_le hB hb.size,fun i r hr=>?_⟩;obtain⟨sb,sn,sp,h1,h2⟩:=hc i r hr
  exact⟨sb,sn,sp,h1.below hb hB,h2.on hb⟩⟩
theorem QX.at_(h:QX w B A n F)(hi:i<n):∃b o r sb sn sp,A=some ⟨b,o,none⟩/\b<B/\F[i]? =some r/\Kq w b (o+i*12) r sb sn sp/\Kj w B r sb sn sp:=by
 obtain⟨b,o,e,hB,hc⟩:=h.2 Q3;have hlen:i<F.length:=by rw[h.1];exact hi
 have hr:F[i]? =some F[i]:=List.getElem?_eq_getElem hlen;obtain⟨sb,sn,sp,h1,h2⟩:=hc i _ hr;exact⟨b,o,_,sb,sn,sp,e,hB,hr,h1,h2⟩
def Vi(F:List Rl)(s:List UInt8):Int:=match F.findIdx? (fun r=>r.name==s) with|some i=>(i:Int)|none=>-1
def Qrl(F:List Rl)(s:List UInt8)(w:World)(e:Ending)(w':World):Prop:=e=.returned (.int .i64 (Vi F s))/\Below w.heap.size w w'
def Qw6(F:List Rl)(s:List UInt8)(w:World)(k:Value)(wr:World):Prop:=∃i:Nat,i<=F.length/\k=.int .i64 (i:Int)/\(∀j r,j<i->F[j]? =some r->¬r.name=s)/\Below w.heap.size w wr
theorem Q4e{s:List UInt8}(h:F[i]? =some r)(hn:r.name=s)(hl:∀j r,j<i->F[j]? =some r->¬r.name=s):Vi F s=(i:Int):=by
 unfold Vi;have:F.findIdx? (fun r=>r.name==s)=some i:=by
  rw[List.findIdx?_eq_some_iff_getElem];obtain⟨h1,h2⟩:=List.getElem?_eq_some_iff.1 h;refine⟨h1,by rw[h2];simpa using hn,fun j hj=>?_⟩;have hj':F[j]? =some F[j]:=List.getElem?_eq_getElem Q3;simpa using hl j _ hj hj'
 rw[this]
theorem QdL{s:List UInt8}(hl:∀j r,j<F.length->F[j]? =some r->¬r.name=s):Vi F s=-1:=by
 unfold Vi;have:F.findIdx? (fun r=>r.name==s)=none:=by
  rw[List.findIdx?_eq_none_iff];intro r hr;obtain⟨j,hj,e⟩:=List.mem_iff_getElem.1 hr;have:=hl j r hj (by rw[List.getElem?_eq_getElem hj,e]);simpa using this
 rw[this]
theorem Q7F{a1 a2 a3 a4 a5 a6 a7 a8 a9 a10 a11:Value}(w:World)(hg:w.cell? ⟨g,0,none⟩=some (.string s)):
  Calls Tryz.prog 170 #[.agg #[.string y,a1,a2,a3,a4,a5,a6,a7,a8,a9,a10,a11],.pointer (some ⟨g,0,none⟩)] w fun e w'=>e=.returned (.bool (y.toList==s.toList))/\Below w.heap.size w w':=by
 have hg':=fun ob=>Qf (o:=ob) hg;go_enter Tryz.func170,Tryz.ntmps170;go_wp2_with fail
 exact Q25
theorem QiM(h:y.data.toList=s.data.toList):y=s:=by
 obtain⟨⟨l⟩⟩:=y;obtain⟨⟨m⟩⟩:=s;simp at h;rw[h]
theorem Q42(h:QX w w.heap.size A n F)(hn:n<=1048576)(hg:w.cell? ⟨g,0,none⟩=some (.string s)):
  Calls Tryz.prog 169 #[.slice A n c,.func (.func 170) #[] #[.pointer (some ⟨g,0,none⟩)]] w (Qrl F s.data.toList w):=by
 have HL:=Q2 h.1;have HR:=Q2 h;have HG:=Q2 hg;clear h hg;go_enter Tryz.func169,Tryz.ntmps169;go_wp2_with fail
 go_loopw [8] (Qw6 F s.data.toList w) (fun k _=>n - (intOf k).toNat)
 case atStart=>exact⟨0,Nat.zero_le _,rfl,fun j r hj=>absurd hj Q3,Below.refl _ _⟩
 case round=>
  obtain⟨i,hi,rfl,hf,hbw⟩:=hrel;rw[HL.out] at hi;have HF:=Q2 hf;have HB:=Q2 hbw;clear hf hbw;by_cases hlt:i<n
  ·obtain⟨b,o,r,sb,sn,sp,rfl,hb,hr,hcs,hrl⟩:=HR.out.at_ hlt;have HRR:=Q2 hr;obtain⟨c0,c1,c2,c3,c4,c5,c6,c7,c8,c9,c10,c11⟩:=hcs.below HB.out hb
   have hli:(i:Int)<(n:Int):=by omega
   have h0:(0:Int)<=(i:Int):=by omega
   clear hr hcs hrl;go_wp2_with fail
   refine(Q7F _ (Up.cell HG.out ⟨_,HB.out⟩)).mono ?_;rintro e w2 ⟨rfl,hb2⟩;have HB2:=Q2 (X4 HB.out hb2);clear hb2 c0 c1 c2 c3 c4 c5 c6 c7 c8 c9 c10 c11;by_cases hnm:r.name=s.data.toList
   ·have hx:((⟨r.name.toArray⟩:ByteArray).toList==s.toList)=true:=by
     rw[Lib.toList_data,Lib.toList_data];simpa using hnm
    rw[hx];have HE:=Q2 hnm;clear hx hnm;go_wp2_with fail
    go_ret;exact⟨by rw[Q4e HRR.out HE.out HF.out];rfl,HB2.out⟩
   ·have hx:((⟨r.name.toArray⟩:ByteArray).toList==s.toList)=false:=by
     rw[Lib.toList_data,Lib.toList_data];simpa using hnm
    rw[hx];have HE:=Q2 hnm;clear hx hnm;go_wp2_with fail
    go_roundw
    case rel=>exact⟨i+1,by rw[HL.out];omega,by go_num,fun j r' hj hr'=>by
     by_cases hji:j=i
     ·subst hji;have:=HRR.out;rw[hr'] at this
      cases this
      exact HE.out
     ·exact HF.out j r' Q3 hr',HB2.out⟩
    case measure=>simp [intOf];omega
  ·go_wp2_with fail
   go_ret;exact⟨by rw[QdL (fun j r hj=>HF.out j r (by rw[HL.out] at hj;omega))];rfl,HB.out⟩
theorem Q5f(h:QX w w.heap.size A n F)(hn:n<=1048576):
  Calls Tryz.prog 140 #[.slice A n c,.string s] w (Qrl F s.data.toList w):=by
 have HR:=Q2 h;clear h;go_enter Tryz.func140,Tryz.ntmps140;go_wp2_with fail
 refine(Q42 (s:=s) (g:=w.heap.size) (HR.out.on (Jr _ _)) hn Ql).mono ?_;rintro e w' ⟨rfl,hb⟩;go_wp2_with fail
 go_ret;exact⟨rfl,X4 (Jr _ _) hb⟩
end
section
variable {A:Option Addr}{b i:Nat}{b':Bool}{c x y:Operand}{f:FuncId}{k:IntKind}{m n:Int}{p:Addr}{t t':TypeId}{v v0 v1 v10 v11 v2 v3 v4 v5 v6 v7 v8 v9:Value}{ρ:Operand->Value}
section
variable {P:Program}{ops:Array Oper}{C:World->Prop}{Q:Act->Prop}{o:Oper}{rest:List Oper}{a:Act}
theorem QtR(hw:Region.wanted o (yielded ops a.tmps)=false)(h:wpQuiet P ops C Q rest (a.put o.dst undef)):wpQuiet P ops C Q (o::rest) a:=by
 unfold wpQuiet;rw[hw];exact h
theorem Yt(hw:Region.wanted o (yielded ops a.tmps)=true)(hv:∀w,C w->(execOp a.eval o).run P w=.ok (.value v) w)(h:wpQuiet P ops C Q rest (a.put o.dst v)):wpQuiet P ops C Q (o::rest) a:=by
 unfold wpQuiet;rw[if_pos hw];exact⟨v,fun w hC=>by unfold Oper.quietAt;rw[hv w hC];exact⟨rfl,rfl⟩,h⟩
theorem QuA{args:Array Value}(hw:Region.wanted o (yielded ops a.tmps)=true)(hv:∀w,C w->(execOp a.eval o).run P w=.ok (.enter f args) w)(hc:∀w,C w->Calls P f args w fun e w''=>e=.returned v/\C w'')(h:wpQuiet P ops C Q rest (a.put o.dst v)):wpQuiet P ops C Q (o::rest) a:=by
 unfold wpQuiet;rw[if_pos hw];exact⟨v,fun w hC=>by unfold Oper.quietAt;rw[hv w hC];exact⟨rfl,hc w hC⟩,h⟩
theorem Qi4(ho:o.op=.move x)(hx:ρ x=v)(w:World):(execOp ρ o).run P w=.ok (.value (v)) w:=by
 simp only[execOp,ho,hx];rfl
theorem Qum(ho:o.op=.move x)(hw:Region.wanted o (yielded ops a.tmps)=true)(hx:a.eval x=v)(h:wpQuiet P ops C Q rest (a.put o.dst v)):wpQuiet P ops C Q (o::rest) a:=
 Yt hw (fun w _=>Qi4 ho hx w) h
theorem Q8K(ho:o.op=.assign x)(hx:ρ x=v)(w:World):(execOp ρ o).run P w=.ok (.value (v)) w:=by
 simp only[execOp,ho,hx];rfl
theorem Ql4(ho:o.op=.assign x)(hw:Region.wanted o (yielded ops a.tmps)=true)(hx:a.eval x=v)(h:wpQuiet P ops C Q rest (a.put o.dst v)):wpQuiet P ops C Q (o::rest) a:=
 Yt hw (fun w _=>Q8K ho hx w) h
theorem Q4q(ho:o.op=.pick c x y)(hc:ρ c=.bool true)(hx:ρ x=v)(w:World):(execOp ρ o).run P w=.ok (.value (v)) w:=by
 simp [execOp,ho,hx,hc,go_sem]
theorem QeB(ho:o.op=.pick c x y)(hw:Region.wanted o (yielded ops a.tmps)=true)(hc:a.eval c=.bool true)(hx:a.eval x=v)(h:wpQuiet P ops C Q rest (a.put o.dst v)):wpQuiet P ops C Q (o::rest) a:=
 Yt hw (fun w _=>Q4q ho hc hx w) h
theorem Q7j(ho:o.op=.pick c x y)(hc:ρ c=.bool false)(hx:ρ y=v)(w:World):(execOp ρ o).run P w=.ok (.value (v)) w:=by
 simp [execOp,ho,hx,hc,go_sem]
theorem Qjx(ho:o.op=.pick c x y)(hw:Region.wanted o (yielded ops a.tmps)=true)(hc:a.eval c=.bool false)(hx:a.eval y=v)(h:wpQuiet P ops C Q rest (a.put o.dst v)):wpQuiet P ops C Q (o::rest) a:=
 Yt hw (fun w _=>Q7j ho hc hx w) h
theorem QoP{b:Bool}(ho:o.op=.unOp .not t x)(hx:ρ x=.bool b)(hb:(!b)=b')(w:World):(execOp ρ o).run P w=.ok (.value ((.bool b'))) w:=by
 subst hb;simp [execOp,ho,hx,go_sem]
theorem Qvl{b:Bool}(ho:o.op=.unOp .not t x)(hw:Region.wanted o (yielded ops a.tmps)=true)(hx:a.eval x=.bool b)(hb:(!b)=b')(h:wpQuiet P ops C Q rest (a.put o.dst (.bool b'))):wpQuiet P ops C Q (o::rest) a:=
 Yt hw (fun w _=>QoP ho hx hb w) h
theorem Qm5{b:Bool}(ho:o.op=.binOp .eql t x y t')(hx:ρ x=.int k m)(hy:ρ y=.int k n)(hb:(m==n)=b)(w:World):(execOp ρ o).run P w=.ok (.value ((.bool b))) w:=by
 exact QfY
theorem Qw7{b:Bool}(ho:o.op=.binOp .eql t x y t')(hw:Region.wanted o (yielded ops a.tmps)=true)(hx:a.eval x=.int k m)(hy:a.eval y=.int k n)(hb:(m==n)=b)(h:wpQuiet P ops C Q rest (a.put o.dst (.bool b))):wpQuiet P ops C Q (o::rest) a:=
 Yt hw (fun w _=>Qm5 ho hx hy hb w) h
theorem Qui{b:Bool}(ho:o.op=.binOp .neq t x y t')(hx:ρ x=.int k m)(hy:ρ y=.int k n)(hb:(m != n)=b)(w:World):(execOp ρ o).run P w=.ok (.value ((.bool b))) w:=by
 exact QfY
theorem QtN{b:Bool}(ho:o.op=.binOp .gtr t x y t')(hx:ρ x=.int k m)(hy:ρ y=.int k n)(hb:decide (n<m)=b)(w:World):(execOp ρ o).run P w=.ok (.value ((.bool b))) w:=by
 exact QfY
theorem Qlh{n c:Nat}(ho:o.op=.call { callee:=.builtin .len,args:=#[x],argTypes:=#[t] })(ht:∃e,P.underlying t=some (.slice e))(hx:ρ x=.slice A n c)(w:World):(execOp ρ o).run P w=.ok (.value ((.int .i64 (n:Int)))) w:=by
 obtain⟨e,he⟩:=ht;simp [execOp,ho,hx,he,go_sem]
theorem QvC{n c:Nat}(ho:o.op=.call { callee:=.builtin .len,args:=#[x],argTypes:=#[t] })(ht:∃e,P.underlying t=some (.slice e))(hw:Region.wanted o (yielded ops a.tmps)=true)(hx:a.eval x=.slice A n c)(h:wpQuiet P ops C Q rest (a.put o.dst (.int .i64 (n:Int)))):wpQuiet P ops C Q (o::rest) a:=
 Yt hw (fun w _=>Qlh ho ht hx w) h
end
section
variable {ops:Array Oper}{C:World->Prop}{Q:Act->Prop}{o:Oper}{rest:List Oper}{a:Act}
theorem Qlg(ho:o.op=.fieldAddr 65 x i)(hi:i<12)(hx:ρ x=.pointer (some ⟨b,0,none⟩))(w:World):(execOp ρ o).run Tryz.prog w=.ok (.value ((.pointer (some ⟨b,i,none⟩)))) w:=by
 rcases (show i=0\/i=1\/i=2\/i=3\/i=4\/i=5\/i=6\/i=7\/i=8\/i=9\/i=10\/i=11 by omega) with rfl|rfl|rfl|rfl|rfl|rfl|rfl|rfl|rfl|rfl|rfl|rfl<;>simp [execOp,ho,hx,go_sem]
theorem QpE(ho:o.op=.fieldAddr 65 x i)(hi:i<12)(hw:Region.wanted o (yielded ops a.tmps)=true)(hx:a.eval x=.pointer (some ⟨b,0,none⟩))(h:wpQuiet Tryz.prog ops C Q rest (a.put o.dst (.pointer (some ⟨b,i,none⟩)))):wpQuiet Tryz.prog ops C Q (o::rest) a:=
 Yt hw (fun w _=>Qlg ho hi hx w) h
theorem Qcu(ho:o.op=.load 3 x)(hx:ρ x=.pointer (some p))(w:World)(hc:w.cell? p=some v):(execOp ρ o).run Tryz.prog w=.ok (.value v) w:=by
 exact Qd3
theorem Qfi(ho:o.op=.load 3 x)(hw:Region.wanted o (yielded ops a.tmps)=true)(hx:a.eval x=.pointer (some p))(hc:∀w,C w->w.cell? p=some v)(h:wpQuiet Tryz.prog ops C Q rest (a.put o.dst v)):wpQuiet Tryz.prog ops C Q (o::rest) a:=
 Yt hw (fun w hC=>Qcu ho hx w (hc w hC)) h
theorem QaF(ho:o.op=.load 4 x)(hx:ρ x=.pointer (some p))(w:World)(hc:w.cell? p=some v):(execOp ρ o).run Tryz.prog w=.ok (.value v) w:=by
 exact Qd3
theorem Qdi(ho:o.op=.load 4 x)(hw:Region.wanted o (yielded ops a.tmps)=true)(hx:a.eval x=.pointer (some p))(hc:∀w,C w->w.cell? p=some v)(h:wpQuiet Tryz.prog ops C Q rest (a.put o.dst v)):wpQuiet Tryz.prog ops C Q (o::rest) a:=
 Yt hw (fun w hC=>QaF ho hx w (hc w hC)) h
theorem Q7V(ho:o.op=.load 25 x)(hx:ρ x=.pointer (some p))(w:World)(hc:w.cell? p=some v):(execOp ρ o).run Tryz.prog w=.ok (.value v) w:=by
 exact Qd3
theorem Q9Q(ho:o.op=.load 25 x)(hw:Region.wanted o (yielded ops a.tmps)=true)(hx:a.eval x=.pointer (some p))(hc:∀w,C w->w.cell? p=some v)(h:wpQuiet Tryz.prog ops C Q rest (a.put o.dst v)):wpQuiet Tryz.prog ops C Q (o::rest) a:=
 Yt hw (fun w hC=>Q7V ho hx w (hc w hC)) h
theorem Q5l(ho:o.op=.load 27 x)(hx:ρ x=.pointer (some p))(w:World)(hc:w.cell? p=some v):(execOp ρ o).run Tryz.prog w=.ok (.value v) w:=by
 exact Qd3
theorem Q7s(ho:o.op=.load 27 x)(hw:Region.wanted o (yielded ops a.tmps)=true)(hx:a.eval x=.pointer (some p))(hc:∀w,C w->w.cell? p=some v)(h:wpQuiet Tryz.prog ops C Q rest (a.put o.dst v)):wpQuiet Tryz.prog ops C Q (o::rest) a:=
 Yt hw (fun w hC=>Q5l ho hx w (hc w hC)) h
theorem QaH(ho:o.op=.load 48 x)(hx:ρ x=.pointer (some p))(w:World)(hc:w.cell? p=some v):(execOp ρ o).run Tryz.prog w=.ok (.value v) w:=by
 exact Qd3
theorem QcB(ho:o.op=.load 48 x)(hw:Region.wanted o (yielded ops a.tmps)=true)(hx:a.eval x=.pointer (some p))(hc:∀w,C w->w.cell? p=some v)(h:wpQuiet Tryz.prog ops C Q rest (a.put o.dst v)):wpQuiet Tryz.prog ops C Q (o::rest) a:=
 Yt hw (fun w hC=>QaH ho hx w (hc w hC)) h
theorem QaM(ho:o.op=.load 65 x)(hx:ρ x=.pointer (some ⟨b,0,none⟩))(w:World)(h0:w.cell? ⟨b,0,none⟩=some v0)(h1:w.cell? ⟨b,1,none⟩=some v1)(h2:w.cell? ⟨b,2,none⟩=some v2)(h3:w.cell? ⟨b,3,none⟩=some v3)(h4:w.cell? ⟨b,4,none⟩=some v4)(h5:w.cell? ⟨b,5,none⟩=some v5)(h6:w.cell? ⟨b,6,none⟩=some v6)(h7:w.cell? ⟨b,7,none⟩=some v7)(h8:w.cell? ⟨b,8,none⟩=some v8)(h9:w.cell? ⟨b,9,none⟩=some v9)(h10:w.cell? ⟨b,10,none⟩=some v10)(h11:w.cell? ⟨b,11,none⟩=some v11):
  (execOp ρ o).run Tryz.prog w=.ok (.value (.agg #[v0,v1,v2,v3,v4,v5,v6,v7,v8,v9,v10,v11])) w:=by
 simp [execOp,ho,hx,h0,h1,h2,h3,h4,h5,h6,h7,h8,h9,h10,h11,go_sem]
def YX(C:World->Prop)(b:Nat)(v0 v1 v2 v3 v4 v5 v6 v7 v8 v9 v10 v11:Value):Prop:=∀w,C w->∀(j:Nat) (u:Value),[v0,v1,v2,v3,v4,v5,v6,v7,v8,v9,v10,v11][j]? =some u->w.cell? ⟨b,j,none⟩=some u
theorem Qc9(hr:YX C b v0 v1 v2 v3 v4 v5 v6 v7 v8 v9 v10 v11)(ho:o.op=.load 65 x)(hw:Region.wanted o (yielded ops a.tmps)=true)(hx:a.eval x=.pointer (some ⟨b,0,none⟩))(h:wpQuiet Tryz.prog ops C Q rest (a.put o.dst (.agg #[v0,v1,v2,v3,v4,v5,v6,v7,v8,v9,v10,v11]))):wpQuiet Tryz.prog ops C Q (o::rest) a:=
 Yt hw (fun w hC=>QaM ho hx w (hr w hC 0 _ rfl) (hr w hC 1 _ rfl) (hr w hC 2 _ rfl) (hr w hC 3 _ rfl) (hr w hC 4 _ rfl) (hr w hC 5 _ rfl) (hr w hC 6 _ rfl) (hr w hC 7 _ rfl) (hr w hC 8 _ rfl) (hr w hC 9 _ rfl) (hr w hC 10 _ rfl) (hr w hC 11 _ rfl)) h
theorem QfH(hr:YX C b v0 v1 v2 v3 v4 v5 v6 v7 v8 v9 v10 v11)(ho:o.op=.load 3 x)(hw:Region.wanted o (yielded ops a.tmps)=true)(hx:a.eval x=.pointer (some ⟨b,i,none⟩))(hv:[v0,v1,v2,v3,v4,v5,v6,v7,v8,v9,v10,v11][i]? =some v)(h:wpQuiet Tryz.prog ops C Q rest (a.put o.dst v)):wpQuiet Tryz.prog ops C Q (o::rest) a:=
 Qfi ho hw hx Qbp h
theorem Qbv(hr:YX C b v0 v1 v2 v3 v4 v5 v6 v7 v8 v9 v10 v11)(ho:o.op=.load 4 x)(hw:Region.wanted o (yielded ops a.tmps)=true)(hx:a.eval x=.pointer (some ⟨b,i,none⟩))(hv:[v0,v1,v2,v3,v4,v5,v6,v7,v8,v9,v10,v11][i]? =some v)(h:wpQuiet Tryz.prog ops C Q rest (a.put o.dst v)):wpQuiet Tryz.prog ops C Q (o::rest) a:=
 Qdi ho hw hx Qbp h
theorem Qac(hr:YX C b v0 v1 v2 v3 v4 v5 v6 v7 v8 v9 v10 v11)(ho:o.op=.load 25 x)(hw:Region.wanted o (yielded ops a.tmps)=true)(hx:a.eval x=.pointer (some ⟨b,i,none⟩))(hv:[v0,v1,v2,v3,v4,v5,v6,v7,v8,v9,v10,v11][i]? =some v)(h:wpQuiet Tryz.prog ops C Q rest (a.put o.dst v)):wpQuiet Tryz.prog ops C Q (o::rest) a:=
 Q9Q ho hw hx Qbp h
theorem Q7a(hr:YX C b v0 v1 v2 v3 v4 v5 v6 v7 v8 v9 v10 v11)(ho:o.op=.load 27 x)(hw:Region.wanted o (yielded ops a.tmps)=true)(hx:a.eval x=.pointer (some ⟨b,i,none⟩))(hv:[v0,v1,v2,v3,v4,v5,v6,v7,v8,v9,v10,v11][i]? =some v)(h:wpQuiet Tryz.prog ops C Q rest (a.put o.dst v)):wpQuiet Tryz.prog ops C Q (o::rest) a:=
 Q7s ho hw hx Qbp h
theorem Qct(hr:YX C b v0 v1 v2 v3 v4 v5 v6 v7 v8 v9 v10 v11)(ho:o.op=.load 48 x)(hw:Region.wanted o (yielded ops a.tmps)=true)(hx:a.eval x=.pointer (some ⟨b,i,none⟩))(hv:[v0,v1,v2,v3,v4,v5,v6,v7,v8,v9,v10,v11][i]? =some v)(h:wpQuiet Tryz.prog ops C Q rest (a.put o.dst v)):wpQuiet Tryz.prog ops C Q (o::rest) a:=
 QcB ho hw hx Qbp h
theorem QvE{x:Array Operand}{ts:Array TypeId}(ho:o.op=.call { callee:=.value (.func f),args:=x,argTypes:=ts })(he:∀(args:Array Value) (w:World),(callFunc f args).run Tryz.prog w=.ok (.enter f args) w)(hw:Region.wanted o (yielded ops a.tmps)=true)(args:Array Value)(hx:x.map a.eval=args)(hc:∀w,C w->Calls Tryz.prog f args w fun e w''=>e=.returned v/\C w'')(h:wpQuiet Tryz.prog ops C Q rest (a.put o.dst v)):wpQuiet Tryz.prog ops C Q (o::rest) a:=
 QuA hw (fun w _=>by
  revert hx
  generalize hρ:a.eval=ρ
  have hf:ρ (.func f)=.func (.func f) #[] #[]:=by rw[<- hρ];rfl
  intro hx;subst hx
  simp [execOp,ho,hf,he,go_sem]) hc h
end
end
section
variable {a:Act}{b i:Nat}{c x y:Operand}{l:List Oper}{t:TypeId}{v v0 v1 v10 v11 v2 v3 v4 v5 v6 v7 v8 v9:Value}
abbrev Env:=List (Nat×Value)
class DQ where
 D:List Deferred
instance (priority:=low) dq0:DQ:=⟨[]⟩
structure Ag[dq:DQ](N:Nat)(E:Env)(a:Act):Prop where
 sz:a.tmps.size=N
 df:a.defers=DQ.D
 has:∀i v,E.lookup i=some v->a.tmps[i]? =some v
theorem Ag.nil[dq:DQ]{N:Nat}(h:a.tmps.size=N)(hd:a.defers=DQ.D):Ag N [] a:=⟨h,hd,fun i v h=>by cases h⟩
theorem Ag.cons[dq:DQ]{N:Nat}{E:Env}(h:Ag N E a)(hv:a.tmps[i]? =some v):Ag N ((i,v)::E) a:=
 ⟨h.sz,h.df,fun j u hu=>by
  rw[List.lookup_cons] at hu
  split at hu
  ·next hj=>
   cases hu
   rw[beq_iff_eq] at hj
   rw[hj];exact hv
  ·exact h.has j u hu⟩
theorem Ag.put[dq:DQ]{N d:Nat}{E:Env}(h:Ag N E a)(v:Value)(hd:d<N):Ag N ((d,v)::E) (a.put (some d) v):=by
 refine⟨by show (a.tmps.setIfInBounds d v).size=N;rw[Array.size_setIfInBounds];exact h.sz,h.df,fun j u hu=>?_⟩;show (a.tmps.setIfInBounds d v)[j]? =some u;rw[List.lookup_cons] at hu;split at hu
 ·next hj=>
  cases hu
  rw[beq_iff_eq] at hj;subst hj;rw[Array.getElem?_setIfInBounds];simp [h.sz,hd]
 ·next hj=>
  have hne:¬j=d:=by simpa using hj
  rw[Array.getElem?_setIfInBounds,if_neg (fun e=>hne e.symm)];exact h.has j u hu
def ev(E:Env):Operand->Option Value
 |.tmp i=>E.lookup i
 |.const v=>some v
 |_=>none
theorem Ag.eval[dq:DQ]{N:Nat}{E:Env}(h:Ag N E a)(hx:ev E x=some v):a.eval x=v:=by
 cases x with
 |tmp i=>
  show a.tmps.getD i undef=v;rw[Array.getD_eq_getD_getElem?,h.has i v hx];rfl
 |const u=>cases hx;rfl
 |global g=>cases hx
 |func f=>cases hx
def Qi(ops:Array Oper)(E:Env)(o:Oper):Option Bool:=
 match o.guard with
 |none=>some true
 |some (j,b)=>match (ops[j]?).bind (·.dst) with
  |some s=>match E.lookup s with
   |some (.bool c)=>some (c==b)
   |some (.tuple _)=>some false
   |_=>none
  |none=>none
theorem Ag.want[dq:DQ]{N:Nat}{E:Env}{ops:Array Oper}{o:Oper}{b:Bool}(h:Ag N E a)(hw:Qi ops E o=some b):Region.wanted o (yielded ops a.tmps)=b:=by
 unfold Qi at hw;unfold Region.wanted;cases hg:o.guard with
 |none=>rw[hg] at hw;cases hw;rfl
 |some p=>
  obtain⟨j,c⟩:=p;rw[hg] at hw;simp only at hw ⊢;split at hw
  ·next s hs=>
   split at hw
   ·next u hu=>
    have:=h.has s _ hu;unfold yielded;rw[hs];simp only[Option.bind_some,this];cases hw;cases u<;>cases c<;>rfl
   ·next u hu=>
    have:=h.has s _ hu;unfold yielded;rw[hs];simp only[Option.bind_some,this];cases hw;rfl
   ·cases hw
  ·cases hw
section
variable {P:Program}{ops:Array Oper}{C:World->Prop}{Q:Act->Prop}{N:Nat}{E:Env}{o:Oper}{rest:List Oper}{d:Nat}
def qE[dq:DQ](P:Program)(ops:Array Oper)(C:World->Prop)(Q:Act->Prop)(N:Nat)(E:Env)(l:List Oper):Prop:=∀a,Ag N E a->wpQuiet P ops C Q l a
theorem qE.start[dq:DQ](h:qE P ops C Q N E l)(ha:Ag N E a):wpQuiet P ops C Q l a:=h a ha
theorem qE.nil[dq:DQ](h:∀a,Ag N E a->Q a):qE P ops C Q N E []:=fun a ha=>wpQuiet_nil (h a ha)
theorem qE.cut[dq:DQ](E':Env)(n:Nat)(h1:qE P ops C (fun a=>Ag N E' a) N E (l.take n))(h2:qE P ops C Q N E' (l.drop n)):qE P ops C Q N E l:=fun a ha=>
 Qiu (fun a'=>Ag N E' a') n l a (h1 a ha) (fun a' ha'=>h2 a' ha')
theorem Ag.at_[dq:DQ](h:Ag N E a)(hi:E.lookup i=some v):a.tmps[i]? =some v:=h.has i v hi
theorem Q0L[dq:DQ](hd:o.dst=some d)(hN:d<N)(hw:Qi ops E o=some false)(h:qE P ops C Q N ((d,undef)::E) rest):qE P ops C Q N E (o::rest):=fun a ha=>
 QtR J5 VD
theorem Z2[dq:DQ](ho:o.op=.move x)(hd:o.dst=some d)(hN:d<N)(hw:Qi ops E o=some true)(hx:ev E x=some v)(h:qE P ops C Q N ((d,v)::E) rest):qE P ops C Q N E (o::rest):=fun a ha=>
 Qum ho J5 ZL VD
theorem Q37[dq:DQ](ho:o.op=.assign x)(hd:o.dst=some d)(hN:d<N)(hw:Qi ops E o=some true)(hx:ev E x=some v)(h:qE P ops C Q N ((d,v)::E) rest):qE P ops C Q N E (o::rest):=fun a ha=>
 Ql4 ho J5 ZL VD
theorem QT[dq:DQ](ho:o.op=.pick c x y)(hd:o.dst=some d)(hN:d<N)(hw:Qi ops E o=some true)(hc:ev E c=some (.bool true))(hx:ev E x=some v)(h:qE P ops C Q N ((d,v)::E) rest):qE P ops C Q N E (o::rest):=fun a ha=>
 QeB ho J5 Q2t ZL VD
theorem Xc[dq:DQ](ho:o.op=.pick c x y)(hd:o.dst=some d)(hN:d<N)(hw:Qi ops E o=some true)(hc:ev E c=some (.bool false))(hx:ev E y=some v)(h:qE P ops C Q N ((d,v)::E) rest):qE P ops C Q N E (o::rest):=fun a ha=>
 Qjx ho J5 Q2t ZL VD
theorem Qm6[dq:DQ]{b:Bool}(ho:o.op=.unOp .not t x)(hd:o.dst=some d)(hN:d<N)(hw:Qi ops E o=some true)(hx:ev E x=some (.bool b))(h:qE P ops C Q N ((d,.bool (!b))::E) rest):qE P ops C Q N E (o::rest):=fun a ha=>
 Qvl ho J5 ZL rfl VD
theorem Jl[dq:DQ]{t':TypeId}{k:IntKind}{m n:Int}{b:Bool}(ho:o.op=.binOp .eql t x y t')(hd:o.dst=some d)(hN:d<N)(hw:Qi ops E o=some true)(hx:ev E x=some (.int k m))(hy:ev E y=some (.int k n))(hb:(m==n)=b)(h:qE P ops C Q N ((d,.bool b)::E) rest):qE P ops C Q N E (o::rest):=fun a ha=>
 Qw7 ho J5 ZL (ha.eval hy) hb VD
theorem Q5K[dq:DQ]{e:TypeId}{A:Option Addr}{n c:Nat}(ho:o.op=.call { callee:=.builtin .len,args:=#[x],argTypes:=#[t] })(ht:P.underlying t=some (.slice e))(hd:o.dst=some d)(hN:d<N)(hw:Qi ops E o=some true)(hx:ev E x=some (.slice A n c))(h:qE P ops C Q N ((d,.int .i64 (n:Int))::E) rest):qE P ops C Q N E (o::rest):=fun a ha=>
 QvC ho ⟨e,ht⟩ J5 ZL VD
end
section
variable {ops:Array Oper}{C:World->Prop}{Q:Act->Prop}{N:Nat}{E:Env}{o:Oper}{rest:List Oper}{d:Nat}
theorem XE[dq:DQ](ho:o.op=.fieldAddr 65 x i)(hi:i<12)(hd:o.dst=some d)(hN:d<N)(hw:Qi ops E o=some true)(hx:ev E x=some (.pointer (some ⟨b,0,none⟩)))(h:qE Tryz.prog ops C Q N ((d,.pointer (some ⟨b,i,none⟩))::E) rest):qE Tryz.prog ops C Q N E (o::rest):=fun a ha=>
 QpE ho hi J5 ZL VD
theorem Xv[dq:DQ](hr:YX C b v0 v1 v2 v3 v4 v5 v6 v7 v8 v9 v10 v11)(ho:o.op=.load 65 x)(hd:o.dst=some d)(hN:d<N)(hw:Qi ops E o=some true)(hx:ev E x=some (.pointer (some ⟨b,0,none⟩)))(h:qE Tryz.prog ops C Q N ((d,.agg #[v0,v1,v2,v3,v4,v5,v6,v7,v8,v9,v10,v11])::E) rest):qE Tryz.prog ops C Q N E (o::rest):=fun a ha=>
 Qc9 hr ho J5 ZL VD
theorem Xi[dq:DQ](hr:YX C b v0 v1 v2 v3 v4 v5 v6 v7 v8 v9 v10 v11)(ho:o.op=.load 3 x)(hd:o.dst=some d)(hN:d<N)(hw:Qi ops E o=some true)(hx:ev E x=some (.pointer (some ⟨b,i,none⟩)))(hv:[v0,v1,v2,v3,v4,v5,v6,v7,v8,v9,v10,v11][i]? =some v)(h:qE Tryz.prog ops C Q N ((d,v)::E) rest):qE Tryz.prog ops C Q N E (o::rest):=fun a ha=>
 QfH hr ho J5 ZL hv VD
theorem Q02[dq:DQ](hr:YX C b v0 v1 v2 v3 v4 v5 v6 v7 v8 v9 v10 v11)(ho:o.op=.load 4 x)(hd:o.dst=some d)(hN:d<N)(hw:Qi ops E o=some true)(hx:ev E x=some (.pointer (some ⟨b,i,none⟩)))(hv:[v0,v1,v2,v3,v4,v5,v6,v7,v8,v9,v10,v11][i]? =some v)(h:qE Tryz.prog ops C Q N ((d,v)::E) rest):qE Tryz.prog ops C Q N E (o::rest):=fun a ha=>
 Qbv hr ho J5 ZL hv VD
theorem Q3w[dq:DQ](hr:YX C b v0 v1 v2 v3 v4 v5 v6 v7 v8 v9 v10 v11)(ho:o.op=.load 25 x)(hd:o.dst=some d)(hN:d<N)(hw:Qi ops E o=some true)(hx:ev E x=some (.pointer (some ⟨b,i,none⟩)))(hv:[v0,v1,v2,v3,v4,v5,v6,v7,v8,v9,v10,v11][i]? =some v)(h:qE Tryz.prog ops C Q N ((d,v)::E) rest):qE Tryz.prog ops C Q N E (o::rest):=fun a ha=>
 Qac hr ho J5 ZL hv VD
theorem Q0D[dq:DQ](hr:YX C b v0 v1 v2 v3 v4 v5 v6 v7 v8 v9 v10 v11)(ho:o.op=.load 27 x)(hd:o.dst=some d)(hN:d<N)(hw:Qi ops E o=some true)(hx:ev E x=some (.pointer (some ⟨b,i,none⟩)))(hv:[v0,v1,v2,v3,v4,v5,v6,v7,v8,v9,v10,v11][i]? =some v)(h:qE Tryz.prog ops C Q N ((d,v)::E) rest):qE Tryz.prog ops C Q N E (o::rest):=fun a ha=>
 Q7a hr ho J5 ZL hv VD
theorem Q0o[dq:DQ](hr:YX C b v0 v1 v2 v3 v4 v5 v6 v7 v8 v9 v10 v11)(ho:o.op=.load 48 x)(hd:o.dst=some d)(hN:d<N)(hw:Qi ops E o=some true)(hx:ev E x=some (.pointer (some ⟨b,i,none⟩)))(hv:[v0,v1,v2,v3,v4,v5,v6,v7,v8,v9,v10,v11][i]? =some v)(h:qE Tryz.prog ops C Q N ((d,v)::E) rest):qE Tryz.prog ops C Q N E (o::rest):=fun a ha=>
 Qct hr ho J5 ZL hv VD
theorem Vr[dq:DQ]{f:FuncId}{ts:Array TypeId}{u:Value}(ho:o.op=.call { callee:=.value (.func f),args:=#[x],argTypes:=ts })(he:∀(args:Array Value) (w:World),(callFunc f args).run Tryz.prog w=.ok (.enter f args) w)(hd:o.dst=some d)(hN:d<N)(hw:Qi ops E o=some true)(hx:ev E x=some u)(hc:∀w,C w->Calls Tryz.prog f #[u] w fun e w''=>e=.returned v/\C w'')(h:qE Tryz.prog ops C Q N ((d,v)::E) rest):qE Tryz.prog ops C Q N E (o::rest):=fun a ha=>
 QvE ho he J5 #[u] (by simp [ha.eval hx]) hc VD
end
end
section
variable {P:Program}{W:World}{Q Q0:Exit->Act->World->Prop}{N:Nat}{E:Env}
def cE(P:Program)(W:World)(Q:Exit->Act->World->Prop)(N:Nat)(E:Env)(c:Code):Prop:=∀a,Ag N E a->∀x:Up W,c.wp P Q a x.w
theorem cE.go{a:Act}{c:Code}(h:cE P W Q N E c)(ha:Ag N E a)(x:Up W):c.wp P Q a x.w:=h a ha x
end
section
variable {Q:Exit->Act->World->Prop}{a:Act}{bytes size:Nat}{e t:TypeId}{o:Oper}
section
variable {P:Program}(w:World)
theorem Q5X(hT:SlT P t e size bytes)(ty:TypeId)(base:Nat)(A:Option Addr)(n c:Nat)(xs:List Value)(hown:w.ownsRow base e size (.slice A n c) n xs)
  (B:Nat) (A2:Option Addr) (m c2:Nat) (news:List Value) (hr:Rd w B size A2 m news) (h1:∀u∈news,u.oneCell'=true) (hbytes:(n+m)*bytes<=140737488355328) (hbase:base<=w.heap.size):
  ∃A' c' w',(Builtin.append_ #[t,t] ty #[.slice A n c,.slice A2 m c2]).run P w=.ok (.slice A' (n+m) c') w'/\w'.ownsRow base e size (.slice A' (n+m) c') (n+m) (xs++news)/\w.grownBy w' (Value.slice A n c).ownBlock/\Below base w w':=by
 obtain⟨i,z,hi,hz,hs,hby,hzs⟩:=hT.info;have h63:n+m<=maxLen:=by
  exact Qnd
 have hfar:∀k,(Value.slice A n c).ownBlock=some k->base<=k:=fun k hk=>(hown.lt k hk).1;rcases A2 with _|ad
 ·have hm:m=0:=by
   rcases Nat.eq_zero_or_pos m with h0|h0
   ·exact h0
   ·obtain⟨b,o,h,_⟩:=hr.2 h0
    cases h
  subst hm;have hn:=hr.empty;subst hn;refine⟨A,c,w,?_,by simpa using hown,World.grownBy.refl _ _,Below.refl _ _⟩;rcases hown.2 with ⟨hv,rfl⟩|⟨g,cap,cur,hv,_,_,hnc,_⟩
  ·simp only[Value.slice.injEq] at hv
   exact QsT
  ·simp only[Value.slice.injEq] at hv
   obtain⟨rfl,_,rfl⟩:=hv;exact Qkm
 ·have hcells:∀j u,news[j]? =some u->w.cell? (ad.add j)=some u:=by
   intro j u hu;rcases Nat.eq_zero_or_pos m with h0|h0
   ·subst h0
    have hn:=hr.empty;subst hn;simp at hu
   ·obtain⟨b,o,h,_,hc⟩:=hr.2 h0
    injection h with h;subst h;have e:(⟨b,o,none⟩:Addr).add j=⟨b,o+j,none⟩:=by unfold Addr.add;split<;>simp_all
    rw[e];exact hc j u hu
  obtain⟨v',w',hrun,h2,h3,_⟩:=run_append_own (P:=P) w base t ty e i z size bytes hT.und hi hz hs hby hzs hT.pos _ n xs hown ad m c2 news hr.1 hcells h1 h63 hbytes hbase;obtain⟨A',c',rfl⟩:=Q8z h2;exact⟨A',c',w',hrun,h2,h3,(Below.refl _ _).grown h3 hbase hfar⟩
theorem Qpx{K:Act->World->Prop}(hT:SlT P t e size bytes)(s x:Operand)
  (ho:o.op=.call { callee:=.builtin .append,args:=#[s,x],argTypes:=#[t,t] })
  (base:Nat) (A:Option Addr) (n c:Nat) (xs:List Value) (hs:a.eval s=.slice A n c) (hown:w.ownsRow base e size (.slice A n c) n xs)
  (B:Nat) (A2:Option Addr) (m c2:Nat) (news:List Value) (hx:a.eval x=.slice A2 m c2) (hr:Rd w B size A2 m news) (h1:∀u∈news,u.oneCell'=true)
  (hbytes:(n+m)*bytes<=140737488355328) (hbase:base<=w.heap.size)
  (h:∀A' c' w',w'.ownsRow base e size (.slice A' (n+m) c') (n+m) (xs++news)->w.grownBy w' (Value.slice A n c).ownBlock->Below base w w'->K (a.put o.dst (.slice A' (n+m) c')) w'):o.wp P a w K Q:=by
 obtain⟨A',c',w',hrun,h2,h3,h4⟩:=Q5X (P:=P) w hT o.type base A n c xs hown B A2 m c2 news hr h1 hbytes hbase;refine Qt0 ?_;exact h A' c' w' h2 h3 h4
theorem Q4L{ops:Array Oper}{rest:List Oper}(hT:SlT P t e size bytes)(hgd:o.guard=none)(s x:Operand)
  (ho:o.op=.call { callee:=.builtin .append,args:=#[s,x],argTypes:=#[t,t] })
  (base:Nat) (A:Option Addr) (n c:Nat) (xs:List Value) (hs:a.eval s=.slice A n c) (hown:w.ownsRow base e size (.slice A n c) n xs)
  (B:Nat) (A2:Option Addr) (m c2:Nat) (news:List Value) (hx:a.eval x=.slice A2 m c2) (hr:Rd w B size A2 m news) (h1:∀u∈news,u.oneCell'=true)
  (hbytes:(n+m)*bytes<=140737488355328) (hbase:base<=w.heap.size)
  (h:∀A' c' w',w'.ownsRow base e size (.slice A' (n+m) c') (n+m) (xs++news)->w.grownBy w' (Value.slice A n c).ownBlock->Below base w w'->wpList P ops Q rest (a.put o.dst (.slice A' (n+m) c')) w'):wpList P ops Q (o::rest) a w:=
 wpList_plain hgd fun _ hK=>Qpx w hT s x ho base A n c xs hs hown B A2 m c2 news hx hr h1 hbytes hbase fun A' c' w' h2 h3 h4=>hK _ _ (h A' c' w' h2 h3 h4)
end
end
end Go.Proofs.YtphkhfdmlcnoeaaGreatDoor

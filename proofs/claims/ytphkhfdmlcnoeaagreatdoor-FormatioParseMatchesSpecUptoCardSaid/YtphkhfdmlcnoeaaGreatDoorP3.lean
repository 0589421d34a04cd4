import Derived.Test.YtphkhfdmlcnoeaaGreatDoorP2
namespace Go.Proofs.YtphkhfdmlcnoeaaGreatDoor
set_option linter.unusedVariables false
set_option linter.unusedSimpArgs false
set_option maxRecDepth 1000000
set_option maxHeartbeats 32000000
open Go.RowKit
theorem Q0s{w:World}{p:Addr}{v:Value}(h:w.cell? p=some v):p.block<w.heap.size:=by
 unfold World.cell? at h;cases hb:w.heap[p.block]? with
 |none=>rw[hb] at h;cases h
 |some o=>exact(Array.getElem?_eq_some_iff.1 hb).1
def Up(w:World):Type:={ w':World // Below w.heap.size w w' }
instance (w:World):Nonempty (Up w):=⟨⟨w,Below.refl _ _⟩⟩
def Up.w{w:World}(x:Up w):World:=x.1
theorem Up.b{w:World}(x:Up w):Below w.heap.size w x.w:=x.2
theorem Up.cell{w:World}{q:Addr}{v:Value}(h:w.cell? q=some v)(x:Up w):x.w.cell? q=some v:=(x.b.cell (Q0s h)).trans h
theorem Up.next{w w':World}(x:Up w)(h:Below x.w.heap.size x.w w'):∃y:Up w,w'=y.w:=⟨⟨w',X2 x.b h⟩,rfl⟩
theorem Up.start(w:World):∃y:Up w,w=y.w:=⟨⟨w,Below.refl _ _⟩,rfl⟩
theorem Q7O{P:Program}{ops:Array Oper}{C:World->Prop}{QQ:Act->Prop}{Q:Exit->Act->World->Prop}(hQ:∀a w,C w->QQ a->Q .normal a w):∀(l:List Oper) (a:Act) (w:World),C w->wpQuiet P ops C QQ l a->wpList P ops Q l a w:=by
 intro l;induction l with
 |nil=>intro a w hC h;exact hQ a w hC h
 |cons o rest ih=>
  intro a w hC h;refine wpList_step fun K hK=>?_;unfold wpQuiet at h;by_cases hw:Region.wanted o (yielded ops a.tmps)=true
  ·rw[if_pos hw] at h ⊢;exact Oper.wp_of_quiet hC (fun a' w' hC' h'=>hK a' w' (ih a' w' hC' h')) h
  ·rw[if_neg hw] at h ⊢;exact hK _ _ (ih _ w hC h)
theorem Calls.up{P:Program}{f:FuncId}{args:Array Value}{w:World}{x:Up w}{v:Value}(h:Calls P f args x.w fun e w'=>e=.returned v/\Below x.w.heap.size x.w w'):Calls P f args x.w fun e w''=>e=.returned v/\∃y:Up w,w''=y.w:=
 h.mono fun _ w' ⟨he,hb⟩=>⟨he,⟨w',X2 x.b hb⟩,rfl⟩
theorem QbE{P:Program}{Q:Exit->Act->World->Prop}{id:Nat}{a:Act}{w:World}{l:List Oper}(y:Up w)
  (h:wpQuiet P l.toArray (fun w'=>∃x:Up w,w'=x.w) (fun a'=>∀w',(∃x:Up w,w'=x.w)->Q .normal a' w') l a):(Code.region id l.toArray false).wp P Q a y.w:=
 wp_region_lit (Q7O (fun a w' hC h=>h w' hC) l a y.w ⟨y,rfl⟩ h)
theorem QiL{P:Program}{ops:Array Oper}{C:World->Prop}{Q:Act->Prop}(J:Act->Prop):∀(n:Nat) (l:List Oper) (a:Act),wpQuiet P ops C J (l.take n) a->(∀a',J a'->wpQuiet P ops C Q (l.drop n) a')->wpQuiet P ops C Q l a:=by
 intro n;induction n with
 |zero=>intro l a h1 h2;rw[List.take_zero] at h1;rw[List.drop_zero] at h2;exact h2 a h1
 |succ n ih=>
  intro l a h1 h2;cases l with
  |nil=>exact h2 a h1
  |cons o l=>
   unfold wpQuiet at h1 ⊢;rw[List.take_succ_cons] at h1;split
   ·rename_i hw
    simp only[hw,if_true] at h1;exact Oper.quiet_mono (fun a' h'=>ih l a' h' h2) h1
   ·rename_i hw
    simp only[hw] at h1;exact ih l _ h1 h2
theorem Q6D{w:World}{b0 b1 b2 b3 b4 b5 b6 b7 b8 b9 b10 b11:Value}:∀(j:Nat) (u:Value),[b0,b1,b2,b3,b4,b5,b6,b7,b8,b9,b10,b11][j]? =some u->(w.alloc (.cells #[b0,b1,b2,b3,b4,b5,b6,b7,b8,b9,b10,b11] 65)).cell? ⟨w.heap.size,j,none⟩=some u:=by
 intro j u hu;rw[cell_of_row _ w.heap.size j _ 65 (0,0) (heap_alloc_new w _)];simpa using hu
section
variable {A:Option Addr}{B c g i n:Nat}{F:List Rl}{r:Rl}{s y:ByteArray}{sb sn sp:Value}{w w':World}
def Km(w:World)(B:Nat)(r:Rl)(sb sn sp:Value):Prop:=
 ∃Ab nb cb An nn cn Ap np cp,sb=.slice Ab nb cb/\sn=.slice An nn cn/\sp=.slice Ap np cp/\nb<=cb/\nn<=cn/\np<=cp/\Rd w B 1 Ab nb (bv r.bs)/\Rd w B 1 An nn (sv r.names)/\Rd w B 1 Ap np (iv r.parts)
def Ki(w:World)(b o:Nat)(r:Rl)(sb sn sp:Value):Prop:=
 w.cell? ⟨b,o,none⟩=some (.string ⟨r.name.toArray⟩)/\w.cell? ⟨b,o+1,none⟩=some (.int .i64 r.kind)/\w.cell? ⟨b,o+2,none⟩=some sb/\w.cell? ⟨b,o+3,none⟩=some (.int .i64 r.size)/\w.cell? ⟨b,o+4,none⟩=some (.bool r.big)/\w.cell? ⟨b,o+5,none⟩=some (.int .i64 r.mn)/\
 w.cell? ⟨b,o+6,none⟩=some (.int .i64 r.mx)/\w.cell? ⟨b,o+7,none⟩=some (.int .i64 r.stop)/\w.cell? ⟨b,o+8,none⟩=some (.int .i64 r.count)/\w.cell? ⟨b,o+9,none⟩=some (.int .i64 r.elem)/\w.cell? ⟨b,o+10,none⟩=some sn/\w.cell? ⟨b,o+11,none⟩=some sp
def Qvd(w:World)(B:Nat)(v:Value)(r:Rl):Prop:=
 ∃sb sn sp,v=.agg #[.string ⟨r.name.toArray⟩,.int .i64 r.kind,sb,.int .i64 r.size,.bool r.big,.int .i64 r.mn,.int .i64 r.mx,.int .i64 r.stop,.int .i64 r.count,.int .i64 r.elem,sn,sp]/\Km w B r sb sn sp
def QW(w:World)(B:Nat)(A:Option Addr)(n:Nat)(F:List Rl):Prop:=
 F.length=n/\(0<n->∃b o,A=some ⟨b,o,none⟩/\b<B/\∀i r,F[i]? =some r->∃sb sn sp,Ki w b (o+i*12) r sb sn sp/\Km w B r sb sn sp)
theorem Km.below{w w':World}{B:Nat}{r:Rl}{sb sn sp:Value}(h:Km w B r sb sn sp)(hb:Below B w w'):Km w' B r sb sn sp:=by
 obtain⟨Ab,nb,cb,An,nn,cn,Ap,np,cp,h1,h2,h3,h4,h5,h6,h7,h8,h9⟩:=h;exact⟨Ab,nb,cb,An,nn,cn,Ap,np,cp,h1,h2,h3,h4,h5,h6,h7.below hb,h8.below hb,h9.below hb⟩
theorem Km.more{w:World}{B B':Nat}{r:Rl}{sb sn sp:Value}(h:Km w B r sb sn sp)(hB:B<=B'):Km w B' r sb sn sp:=by
 obtain⟨Ab,nb,cb,An,nn,cn,Ap,np,cp,h1,h2,h3,h4,h5,h6,h7,h8,h9⟩:=h;exact⟨Ab,nb,cb,An,nn,cn,Ap,np,cp,h1,h2,h3,h4,h5,h6,h7.more hB,h8.more hB,h9.more hB⟩
theorem Km.on(h:Km w w.heap.size r sb sn sp)(hb:Below w.heap.size w w'):Km w' w'.heap.size r sb sn sp:=(h.below hb).more hb.size
theorem Qvd.on{w w':World}{v:Value}{r:Rl}(h:Qvd w w.heap.size v r)(hb:Below w.heap.size w w'):Qvd w' w'.heap.size v r:=by
 obtain⟨sb,sn,sp,e,h⟩:=h;exact⟨sb,sn,sp,e,h.on hb⟩
theorem Ki.below{b o:Nat}(h:Ki w b o r sb sn sp)(hb:Below B w w')(hB:b<B):Ki w' b o r sb sn sp:=by
 obtain⟨h0,h1,h2,h3,h4,h5,h6,h7,h8,h9,h10,h11⟩:=h;exact⟨(hb.cell Yz).trans h0,(hb.cell Yz).trans h1,(hb.cell Yz).trans h2,(hb.cell Yz).trans h3,(hb.cell Yz).trans h4,(hb.cell Yz).trans h5,(hb.cell Yz).trans h6,(hb.cell Yz).trans h7,(hb.cell Yz).trans h8,(hb.cell Yz).trans h9,(hb.cell Yz).trans h10,(hb.cell Yz).trans h11⟩
theorem QW.on{w w':World}{A:Option Addr}{n:Nat}{F:List Rl}(h:QW w w.heap.size A n F)(hb:Below w.heap.size w w'):QW w' w'.heap.size A n F:=
 ⟨h.1,fun h0=>by
  obtain⟨b,o,e,hB,hc⟩:=h.2 h0;refine⟨b,o,e,Nat.lt_of_lt_of_le hB hb.size,fun i r hr=>?_⟩;obtain⟨sb,sn,sp,h1,h2⟩:=hc i r hr
  exact⟨sb,sn,sp,h1.below hb hB,h2.on hb⟩⟩
theorem QW.at_(h:QW w B A n F)(hi:i<n):∃b o r sb sn sp,A=some ⟨b,o,none⟩/\b<B/\F[i]? =some r/\Ki w b (o+i*12) r sb sn sp/\Km w B r sb sn sp:=by
 obtain⟨b,o,e,hB,hc⟩:=h.2 Q3;have hlen:i<F.length:=by rw[h.1];exact hi
 have hr:F[i]? =some F[i]:=List.getElem?_eq_getElem hlen;obtain⟨sb,sn,sp,h1,h2⟩:=hc i _ hr;exact⟨b,o,_,sb,sn,sp,e,hB,hr,h1,h2⟩
def Vl(F:List Rl)(s:List UInt8):Int:=match F.findIdx? (fun r=>r.name==s) with|some i=>(i:Int)|none=>-1
def QsT(F:List Rl)(s:List UInt8)(w:World)(e:Ending)(w':World):Prop:=e=.returned (.int .i64 (Vl F s))/\Below w.heap.size w w'
def Qwb(F:List Rl)(s:List UInt8)(w:World)(k:Value)(wr:World):Prop:=∃i:Nat,i<=F.length/\k=.int .i64 (i:Int)/\(∀j r,j<i->F[j]? =some r->¬r.name=s)/\Below w.heap.size w wr
theorem Q3L{s:List UInt8}(h:F[i]? =some r)(hn:r.name=s)(hl:∀j r,j<i->F[j]? =some r->¬r.name=s):Vl F s=(i:Int):=by
 unfold Vl;have:F.findIdx? (fun r=>r.name==s)=some i:=by
  rw[List.findIdx?_eq_some_iff_getElem];obtain⟨h1,h2⟩:=List.getElem?_eq_some_iff.1 h;refine⟨h1,by rw[h2];simpa using hn,fun j hj=>?_⟩;have hj':F[j]? =some F[j]:=List.getElem?_eq_getElem Q3;simpa using hl j _ hj hj'
 rw[this]
theorem QbU{s:List UInt8}(hl:∀j r,j<F.length->F[j]? =some r->¬r.name=s):Vl F s=-1:=by
 unfold Vl;have:F.findIdx? (fun r=>r.name==s)=none:=by
  rw[List.findIdx?_eq_none_iff];intro r hr;obtain⟨j,hj,e⟩:=List.mem_iff_getElem.1 hr;have:=hl j r hj (by rw[List.getElem?_eq_getElem hj,e]);simpa using this
 rw[this]
theorem Q7I{a1 a2 a3 a4 a5 a6 a7 a8 a9 a10 a11:Value}(w:World)(hg:w.cell? ⟨g,0,none⟩=some (.string s)):
  Calls Tryz.prog 170 #[.agg #[.string y,a1,a2,a3,a4,a5,a6,a7,a8,a9,a10,a11],.pointer (some ⟨g,0,none⟩)] w fun e w'=>e=.returned (.bool (y.toList==s.toList))/\Below w.heap.size w w':=by
 have hg':=fun ob=>Qf (o:=ob) hg;go_enter Tryz.func170,Tryz.ntmps170;go_wp2_with fail
 exact Q1Z
theorem Qjx(h:y.data.toList=s.data.toList):y=s:=by
 obtain⟨⟨l⟩⟩:=y;obtain⟨⟨m⟩⟩:=s;simp at h;rw[h]
theorem Q3N(h:QW w w.heap.size A n F)(hn:n<=1048576)(hg:w.cell? ⟨g,0,none⟩=some (.string s)):
  Calls Tryz.prog 169 #[.slice A n c,.func (.func 170) #[] #[.pointer (some ⟨g,0,none⟩)]] w (QsT F s.data.toList w):=by
 have HL:=Q2 h.1;have HR:=Q2 h;have HG:=Q2 hg;clear h hg;go_enter Tryz.func169,Tryz.ntmps169;go_wp2_with fail
 go_loopw [8] (Qwb F s.data.toList w) (fun k _=>n - (intOf k).toNat)
 case atStart=>exact⟨0,Nat.zero_le _,rfl,fun j r hj=>absurd hj Q3,Below.refl _ _⟩
 case round=>
  obtain⟨i,hi,rfl,hf,hbw⟩:=hrel;rw[HL.out] at hi;have HF:=Q2 hf;have HB:=Q2 hbw;clear hf hbw;by_cases hlt:i<n
  ·obtain⟨b,o,r,sb,sn,sp,rfl,hb,hr,hcs,hrl⟩:=HR.out.at_ hlt;have HRR:=Q2 hr;obtain⟨c0,c1,c2,c3,c4,c5,c6,c7,c8,c9,c10,c11⟩:=hcs.below HB.out hb
   have hli:(i:Int)<(n:Int):=by omega
   have h0:(0:Int)<=(i:Int):=by omega
   clear hr hcs hrl;go_wp2_with fail
   refine(Q7I _ (Up.cell HG.out ⟨_,HB.out⟩)).mono ?_;rintro e w2 ⟨rfl,hb2⟩;have HB2:=Q2 (X2 HB.out hb2);clear hb2 c0 c1 c2 c3 c4 c5 c6 c7 c8 c9 c10 c11;by_cases hnm:r.name=s.data.toList
   ·have hx:((⟨r.name.toArray⟩:ByteArray).toList==s.toList)=true:=by
     rw[Lib.toList_data,Lib.toList_data];simpa using hnm
    rw[hx];have HE:=Q2 hnm;clear hx hnm;go_wp2_with fail
    go_ret;exact⟨by rw[Q3L HRR.out HE.out HF.out];rfl,HB2.out⟩
   ·have hx:((⟨r.name.toArray⟩:ByteArray).toList==s.toList)=false:=by
     rw[Lib.toList_data,Lib.toList_data];simpa using hnm
    rw[hx];have HE:=Q2 hnm;clear hx hnm;go_wp2_with fail
    go_roundw
    case rel=>exact⟨i+1,by rw[HL.out];omega,by go_num,fun j r' hj hr'=>by
     by_cases hji:j=i
     ·subst hji;have:=HRR.out;rw[hr'] at this
      cases this
      exact HE.out
     ·exact HF.out j r' Q3 hr',HB2.out⟩
    case measure=>simp [intOf];omega
  ·go_wp2_with fail
   go_ret;exact⟨by rw[QbU (fun j r hj=>HF.out j r (by rw[HL.out] at hj;omega))];rfl,HB.out⟩
theorem Q5w(h:QW w w.heap.size A n F)(hn:n<=1048576):
  Calls Tryz.prog 140 #[.slice A n c,.string s] w (QsT F s.data.toList w):=by
 have HR:=Q2 h;clear h;go_enter Tryz.func140,Tryz.ntmps140;go_wp2_with fail
 refine(Q3N (s:=s) (g:=w.heap.size) (HR.out.on (JS _ _)) hn Qm).mono ?_;rintro e w' ⟨rfl,hb⟩;go_wp2_with fail
 go_ret;exact⟨rfl,X2 (JS _ _) hb⟩
end
section
variable {A:Option Addr}{b i:Nat}{b':Bool}{c x y:Operand}{f:FuncId}{k:IntKind}{m n:Int}{p:Addr}{t t':TypeId}{v v0 v1 v10 v11 v2 v3 v4 v5 v6 v7 v8 v9:Value}{ρ:Operand->Value}
section
variable {P:Program}{ops:Array Oper}{C:World->Prop}{Q:Act->Prop}{o:Oper}{rest:List Oper}{a:Act}
theorem Qu7(hw:Region.wanted o (yielded ops a.tmps)=false)(h:wpQuiet P ops C Q rest (a.put o.dst undef)):wpQuiet P ops C Q (o::rest) a:=by
 unfold wpQuiet;rw[hw];exact h
theorem Yg(hw:Region.wanted o (yielded ops a.tmps)=true)(hv:∀w,C w->(execOp a.eval o).run P w=.ok (.value v) w)(h:wpQuiet P ops C Q rest (a.put o.dst v)):wpQuiet P ops C Q (o::rest) a:=by
 unfold wpQuiet;rw[if_pos hw];exact⟨v,fun w hC=>by unfold Oper.quietAt;rw[hv w hC];exact⟨rfl,rfl⟩,h⟩
theorem Qui{args:Array Value}(hw:Region.wanted o (yielded ops a.tmps)=true)(hv:∀w,C w->(execOp a.eval o).run P w=.ok (.enter f args) w)(hc:∀w,C w->Calls P f args w fun e w''=>e=.returned v/\C w'')(h:wpQuiet P ops C Q rest (a.put o.dst v)):wpQuiet P ops C Q (o::rest) a:=by
 unfold wpQuiet;rw[if_pos hw];exact⟨v,fun w hC=>by unfold Oper.quietAt;rw[hv w hC];exact⟨rfl,hc w hC⟩,h⟩
theorem Qhy(ho:o.op=.move x)(hx:ρ x=v)(w:World):(execOp ρ o).run P w=.ok (.value (v)) w:=by
 simp only[execOp,ho,hx];rfl
theorem Qun(ho:o.op=.move x)(hw:Region.wanted o (yielded ops a.tmps)=true)(hx:a.eval x=v)(h:wpQuiet P ops C Q rest (a.put o.dst v)):wpQuiet P ops C Q (o::rest) a:=
 Yg hw (fun w _=>Qhy ho hx w) h
theorem Q8e(ho:o.op=.assign x)(hx:ρ x=v)(w:World):(execOp ρ o).run P w=.ok (.value (v)) w:=by
 simp only[execOp,ho,hx];rfl
theorem Qoi(ho:o.op=.assign x)(hw:Region.wanted o (yielded ops a.tmps)=true)(hx:a.eval x=v)(h:wpQuiet P ops C Q rest (a.put o.dst v)):wpQuiet P ops C Q (o::rest) a:=
 Yg hw (fun w _=>Q8e ho hx w) h
theorem Q4m(ho:o.op=.pick c x y)(hc:ρ c=.bool true)(hx:ρ x=v)(w:World):(execOp ρ o).run P w=.ok (.value (v)) w:=by
 simp [execOp,ho,hx,hc,go_sem]
theorem Qeu(ho:o.op=.pick c x y)(hw:Region.wanted o (yielded ops a.tmps)=true)(hc:a.eval c=.bool true)(hx:a.eval x=v)(h:wpQuiet P ops C Q rest (a.put o.dst v)):wpQuiet P ops C Q (o::rest) a:=
 Yg hw (fun w _=>Q4m ho hc hx w) h
theorem Q6k(ho:o.op=.pick c x y)(hc:ρ c=.bool false)(hx:ρ y=v)(w:World):(execOp ρ o).run P w=.ok (.value (v)) w:=by
 simp [execOp,ho,hx,hc,go_sem]
theorem QiI(ho:o.op=.pick c x y)(hw:Region.wanted o (yielded ops a.tmps)=true)(hc:a.eval c=.bool false)(hx:a.eval y=v)(h:wpQuiet P ops C Q rest (a.put o.dst v)):wpQuiet P ops C Q (o::rest) a:=
 Yg hw (fun w _=>Q6k ho hc hx w) h
theorem Qmh{b:Bool}(ho:o.op=.unOp .not t x)(hx:ρ x=.bool b)(hb:(!b)=b')(w:World):(execOp ρ o).run P w=.ok (.value ((.bool b'))) w:=by
 subst hb;simp [execOp,ho,hx,go_sem]
theorem Qvs{b:Bool}(ho:o.op=.unOp .not t x)(hw:Region.wanted o (yielded ops a.tmps)=true)(hx:a.eval x=.bool b)(hb:(!b)=b')(h:wpQuiet P ops C Q rest (a.put o.dst (.bool b'))):wpQuiet P ops C Q (o::rest) a:=
 Yg hw (fun w _=>Qmh ho hx hb w) h
theorem QjT{b:Bool}(ho:o.op=.binOp .eql t x y t')(hx:ρ x=.int k m)(hy:ρ y=.int k n)(hb:(m==n)=b)(w:World):(execOp ρ o).run P w=.ok (.value ((.bool b))) w:=by
 exact Qfn
theorem Qvn{b:Bool}(ho:o.op=.binOp .eql t x y t')(hw:Region.wanted o (yielded ops a.tmps)=true)(hx:a.eval x=.int k m)(hy:a.eval y=.int k n)(hb:(m==n)=b)(h:wpQuiet P ops C Q rest (a.put o.dst (.bool b))):wpQuiet P ops C Q (o::rest) a:=
 Yg hw (fun w _=>QjT ho hx hy hb w) h
theorem Qvc{b:Bool}(ho:o.op=.binOp .neq t x y t')(hx:ρ x=.int k m)(hy:ρ y=.int k n)(hb:(m != n)=b)(w:World):(execOp ρ o).run P w=.ok (.value ((.bool b))) w:=by
 exact Qfn
theorem Quf{b:Bool}(ho:o.op=.binOp .gtr t x y t')(hx:ρ x=.int k m)(hy:ρ y=.int k n)(hb:decide (n<m)=b)(w:World):(execOp ρ o).run P w=.ok (.value ((.bool b))) w:=by
 exact Qfn
theorem Qnj{n c:Nat}(ho:o.op=.call { callee:=.builtin .len,args:=#[x],argTypes:=#[t] })(ht:∃e,P.underlying t=some (.slice e))(hx:ρ x=.slice A n c)(w:World):(execOp ρ o).run P w=.ok (.value ((.int .i64 (n:Int)))) w:=by
 obtain⟨e,he⟩:=ht;simp [execOp,ho,hx,he,go_sem]
theorem Qw2{n c:Nat}(ho:o.op=.call { callee:=.builtin .len,args:=#[x],argTypes:=#[t] })(ht:∃e,P.underlying t=some (.slice e))(hw:Region.wanted o (yielded ops a.tmps)=true)(hx:a.eval x=.slice A n c)(h:wpQuiet P ops C Q rest (a.put o.dst (.int .i64 (n:Int)))):wpQuiet P ops C Q (o::rest) a:=
 Yg hw (fun w _=>Qnj ho ht hx w) h
end
section
variable {ops:Array Oper}{C:World->Prop}{Q:Act->Prop}{o:Oper}{rest:List Oper}{a:Act}
theorem QlL(ho:o.op=.fieldAddr 65 x i)(hi:i<12)(hx:ρ x=.pointer (some ⟨b,0,none⟩))(w:World):(execOp ρ o).run Tryz.prog w=.ok (.value ((.pointer (some ⟨b,i,none⟩)))) w:=by
 rcases (show i=0\/i=1\/i=2\/i=3\/i=4\/i=5\/i=6\/i=7\/i=8\/i=9\/i=10\/i=11 by omega) with rfl|rfl|rfl|rfl|rfl|rfl|rfl|rfl|rfl|rfl|rfl|rfl<;>simp [execOp,ho,hx,go_sem]
theorem Qpp(ho:o.op=.fieldAddr 65 x i)(hi:i<12)(hw:Region.wanted o (yielded ops a.tmps)=true)(hx:a.eval x=.pointer (some ⟨b,0,none⟩))(h:wpQuiet Tryz.prog ops C Q rest (a.put o.dst (.pointer (some ⟨b,i,none⟩)))):wpQuiet Tryz.prog ops C Q (o::rest) a:=
 Yg hw (fun w _=>QlL ho hi hx w) h
theorem Qc9(ho:o.op=.load 3 x)(hx:ρ x=.pointer (some p))(w:World)(hc:w.cell? p=some v):(execOp ρ o).run Tryz.prog w=.ok (.value v) w:=by
 exact Qcj
theorem Qfy(ho:o.op=.load 3 x)(hw:Region.wanted o (yielded ops a.tmps)=true)(hx:a.eval x=.pointer (some p))(hc:∀w,C w->w.cell? p=some v)(h:wpQuiet Tryz.prog ops C Q rest (a.put o.dst v)):wpQuiet Tryz.prog ops C Q (o::rest) a:=
 Yg hw (fun w hC=>Qc9 ho hx w (hc w hC)) h
theorem Qan(ho:o.op=.load 4 x)(hx:ρ x=.pointer (some p))(w:World)(hc:w.cell? p=some v):(execOp ρ o).run Tryz.prog w=.ok (.value v) w:=by
 exact Qcj
theorem QbL(ho:o.op=.load 4 x)(hw:Region.wanted o (yielded ops a.tmps)=true)(hx:a.eval x=.pointer (some p))(hc:∀w,C w->w.cell? p=some v)(h:wpQuiet Tryz.prog ops C Q rest (a.put o.dst v)):wpQuiet Tryz.prog ops C Q (o::rest) a:=
 Yg hw (fun w hC=>Qan ho hx w (hc w hC)) h
theorem Q81(ho:o.op=.load 25 x)(hx:ρ x=.pointer (some p))(w:World)(hc:w.cell? p=some v):(execOp ρ o).run Tryz.prog w=.ok (.value v) w:=by
 exact Qcj
theorem Qal(ho:o.op=.load 25 x)(hw:Region.wanted o (yielded ops a.tmps)=true)(hx:a.eval x=.pointer (some p))(hc:∀w,C w->w.cell? p=some v)(h:wpQuiet Tryz.prog ops C Q rest (a.put o.dst v)):wpQuiet Tryz.prog ops C Q (o::rest) a:=
 Yg hw (fun w hC=>Q81 ho hx w (hc w hC)) h
theorem Q5a(ho:o.op=.load 27 x)(hx:ρ x=.pointer (some p))(w:World)(hc:w.cell? p=some v):(execOp ρ o).run Tryz.prog w=.ok (.value v) w:=by
 exact Qcj
theorem Q5P(ho:o.op=.load 27 x)(hw:Region.wanted o (yielded ops a.tmps)=true)(hx:a.eval x=.pointer (some p))(hc:∀w,C w->w.cell? p=some v)(h:wpQuiet Tryz.prog ops C Q rest (a.put o.dst v)):wpQuiet Tryz.prog ops C Q (o::rest) a:=
 Yg hw (fun w hC=>Q5a ho hx w (hc w hC)) h
theorem Q9F(ho:o.op=.load 48 x)(hx:ρ x=.pointer (some p))(w:World)(hc:w.cell? p=some v):(execOp ρ o).run Tryz.prog w=.ok (.value v) w:=by
 exact Qcj
theorem Qcw(ho:o.op=.load 48 x)(hw:Region.wanted o (yielded ops a.tmps)=true)(hx:a.eval x=.pointer (some p))(hc:∀w,C w->w.cell? p=some v)(h:wpQuiet Tryz.prog ops C Q rest (a.put o.dst v)):wpQuiet Tryz.prog ops C Q (o::rest) a:=
 Yg hw (fun w hC=>Q9F ho hx w (hc w hC)) h
theorem Qaz(ho:o.op=.load 65 x)(hx:ρ x=.pointer (some ⟨b,0,none⟩))(w:World)(h0:w.cell? ⟨b,0,none⟩=some v0)(h1:w.cell? ⟨b,1,none⟩=some v1)(h2:w.cell? ⟨b,2,none⟩=some v2)(h3:w.cell? ⟨b,3,none⟩=some v3)(h4:w.cell? ⟨b,4,none⟩=some v4)(h5:w.cell? ⟨b,5,none⟩=some v5)(h6:w.cell? ⟨b,6,none⟩=some v6)(h7:w.cell? ⟨b,7,none⟩=some v7)(h8:w.cell? ⟨b,8,none⟩=some v8)(h9:w.cell? ⟨b,9,none⟩=some v9)(h10:w.cell? ⟨b,10,none⟩=some v10)(h11:w.cell? ⟨b,11,none⟩=some v11):
  (execOp ρ o).run Tryz.prog w=.ok (.value (.agg #[v0,v1,v2,v3,v4,v5,v6,v7,v8,v9,v10,v11])) w:=by
 simp [execOp,ho,hx,h0,h1,h2,h3,h4,h5,h6,h7,h8,h9,h10,h11,go_sem]
def YX(C:World->Prop)(b:Nat)(v0 v1 v2 v3 v4 v5 v6 v7 v8 v9 v10 v11:Value):Prop:=∀w,C w->∀(j:Nat) (u:Value),[v0,v1,v2,v3,v4,v5,v6,v7,v8,v9,v10,v11][j]? =some u->w.cell? ⟨b,j,none⟩=some u
theorem QbJ(hr:YX C b v0 v1 v2 v3 v4 v5 v6 v7 v8 v9 v10 v11)(ho:o.op=.load 65 x)(hw:Region.wanted o (yielded ops a.tmps)=true)(hx:a.eval x=.pointer (some ⟨b,0,none⟩))(h:wpQuiet Tryz.prog ops C Q rest (a.put o.dst (.agg #[v0,v1,v2,v3,v4,v5,v6,v7,v8,v9,v10,v11]))):wpQuiet Tryz.prog ops C Q (o::rest) a:=
 Yg hw (fun w hC=>Qaz ho hx w (hr w hC 0 _ rfl) (hr w hC 1 _ rfl) (hr w hC 2 _ rfl) (hr w hC 3 _ rfl) (hr w hC 4 _ rfl) (hr w hC 5 _ rfl) (hr w hC 6 _ rfl) (hr w hC 7 _ rfl) (hr w hC 8 _ rfl) (hr w hC 9 _ rfl) (hr w hC 10 _ rfl) (hr w hC 11 _ rfl)) h
theorem Qg6(hr:YX C b v0 v1 v2 v3 v4 v5 v6 v7 v8 v9 v10 v11)(ho:o.op=.load 3 x)(hw:Region.wanted o (yielded ops a.tmps)=true)(hx:a.eval x=.pointer (some ⟨b,i,none⟩))(hv:[v0,v1,v2,v3,v4,v5,v6,v7,v8,v9,v10,v11][i]? =some v)(h:wpQuiet Tryz.prog ops C Q rest (a.put o.dst v)):wpQuiet Tryz.prog ops C Q (o::rest) a:=
 Qfy ho hw hx Qd6 h
theorem Qc4(hr:YX C b v0 v1 v2 v3 v4 v5 v6 v7 v8 v9 v10 v11)(ho:o.op=.load 4 x)(hw:Region.wanted o (yielded ops a.tmps)=true)(hx:a.eval x=.pointer (some ⟨b,i,none⟩))(hv:[v0,v1,v2,v3,v4,v5,v6,v7,v8,v9,v10,v11][i]? =some v)(h:wpQuiet Tryz.prog ops C Q rest (a.put o.dst v)):wpQuiet Tryz.prog ops C Q (o::rest) a:=
 QbL ho hw hx Qd6 h
theorem Qb4(hr:YX C b v0 v1 v2 v3 v4 v5 v6 v7 v8 v9 v10 v11)(ho:o.op=.load 25 x)(hw:Region.wanted o (yielded ops a.tmps)=true)(hx:a.eval x=.pointer (some ⟨b,i,none⟩))(hv:[v0,v1,v2,v3,v4,v5,v6,v7,v8,v9,v10,v11][i]? =some v)(h:wpQuiet Tryz.prog ops C Q rest (a.put o.dst v)):wpQuiet Tryz.prog ops C Q (o::rest) a:=
 Qal ho hw hx Qd6 h
theorem Q6x(hr:YX C b v0 v1 v2 v3 v4 v5 v6 v7 v8 v9 v10 v11)(ho:o.op=.load 27 x)(hw:Region.wanted o (yielded ops a.tmps)=true)(hx:a.eval x=.pointer (some ⟨b,i,none⟩))(hv:[v0,v1,v2,v3,v4,v5,v6,v7,v8,v9,v10,v11][i]? =some v)(h:wpQuiet Tryz.prog ops C Q rest (a.put o.dst v)):wpQuiet Tryz.prog ops C Q (o::rest) a:=
 Q5P ho hw hx Qd6 h
theorem Qca(hr:YX C b v0 v1 v2 v3 v4 v5 v6 v7 v8 v9 v10 v11)(ho:o.op=.load 48 x)(hw:Region.wanted o (yielded ops a.tmps)=true)(hx:a.eval x=.pointer (some ⟨b,i,none⟩))(hv:[v0,v1,v2,v3,v4,v5,v6,v7,v8,v9,v10,v11][i]? =some v)(h:wpQuiet Tryz.prog ops C Q rest (a.put o.dst v)):wpQuiet Tryz.prog ops C Q (o::rest) a:=
 Qcw ho hw hx Qd6 h
theorem Qvl{x:Array Operand}{ts:Array TypeId}(ho:o.op=.call { callee:=.value (.func f),args:=x,argTypes:=ts })(he:∀(args:Array Value) (w:World),(callFunc f args).run Tryz.prog w=.ok (.enter f args) w)(hw:Region.wanted o (yielded ops a.tmps)=true)(args:Array Value)(hx:x.map a.eval=args)(hc:∀w,C w->Calls Tryz.prog f args w fun e w''=>e=.returned v/\C w'')(h:wpQuiet Tryz.prog ops C Q rest (a.put o.dst v)):wpQuiet Tryz.prog ops C Q (o::rest) a:=
 Qui hw (fun w _=>by
  revert hx
  generalize hρ:a.eval=ρ
  have hf:ρ (.func f)=.func (.func f) #[] #[]:=by rw[<- hρ];rfl
  intro hx;subst hx
  simp [execOp,ho,hf,he,go_sem]) hc h
end
end
section
variable {a:Act}{b i:Nat}{c x y:Operand}{l:List Oper}{t:TypeId}{v v0 v1 v10 v11 v2 v3 v4 v5 v6 v7 v8 v9:Value}
abbrev Env:=List (Nat×Value)
class DQ where
 D:List Deferred
instance (priority:=low) dq0:DQ:=⟨[]⟩
structure Ag[dq:DQ](N:Nat)(E:Env)(a:Act):Prop where
 sz:a.tmps.size=N
 df:a.defers=DQ.D
 has:∀i v,E.lookup i=some v->a.tmps[i]? =some v
theorem Ag.nil[dq:DQ]{N:Nat}(h:a.tmps.size=N)(hd:a.defers=DQ.D):Ag N [] a:=⟨h,hd,fun i v h=>by cases h⟩
theorem Ag.cons[dq:DQ]{N:Nat}{E:Env}(h:Ag N E a)(hv:a.tmps[i]? =some v):Ag N ((i,v)::E) a:=
 ⟨h.sz,h.df,fun j u hu=>by
  rw[List.lookup_cons] at hu
  split at hu
  ·next hj=>
   cases hu
   rw[beq_iff_eq] at hj
   rw[hj];exact hv
  ·exact h.has j u hu⟩
theorem Ag.put[dq:DQ]{N d:Nat}{E:Env}(h:Ag N E a)(v:Value)(hd:d<N):Ag N ((d,v)::E) (a.put (some d) v):=by
 refine⟨by show (a.tmps.setIfInBounds d v).size=N;rw[Array.size_setIfInBounds];exact h.sz,h.df,fun j u hu=>?_⟩;show (a.tmps.setIfInBounds d v)[j]? =some u;rw[List.lookup_cons] at hu;split at hu
 ·next hj=>
  cases hu
  rw[beq_iff_eq] at hj;subst hj;rw[Array.getElem?_setIfInBounds];simp [h.sz,hd]
 ·next hj=>
  have hne:¬j=d:=by simpa using hj
  rw[Array.getElem?_setIfInBounds,if_neg (fun e=>hne e.symm)];exact h.has j u hu
def ev(E:Env):Operand->Option Value
 |.tmp i=>E.lookup i
 |.const v=>some v
 |_=>none
theorem Ag.eval[dq:DQ]{N:Nat}{E:Env}(h:Ag N E a)(hx:ev E x=some v):a.eval x=v:=by
 cases x with
 |tmp i=>
  show a.tmps.getD i undef=v;rw[Array.getD_eq_getD_getElem?,h.has i v hx];rfl
 |const u=>cases hx;rfl
 |global g=>cases hx
 |func f=>cases hx
def Qi(ops:Array Oper)(E:Env)(o:Oper):Option Bool:=
 match o.guard with
 |none=>some true
 |some (j,b)=>match (ops[j]?).bind (·.dst) with
  |some s=>match E.lookup s with
   |some (.bool c)=>some (c==b)
   |some (.tuple _)=>some false
   |_=>none
  |none=>none
theorem Ag.want[dq:DQ]{N:Nat}{E:Env}{ops:Array Oper}{o:Oper}{b:Bool}(h:Ag N E a)(hw:Qi ops E o=some b):Region.wanted o (yielded ops a.tmps)=b:=by
 unfold Qi at hw;unfold Region.wanted;cases hg:o.guard with
 |none=>rw[hg] at hw;cases hw;rfl
 |some p=>
  obtain⟨j,c⟩:=p;rw[hg] at hw;simp only at hw ⊢;split at hw
  ·next s hs=>
   split at hw
   ·next u hu=>
    have:=h.has s _ hu;unfold yielded;rw[hs];simp only[Option.bind_some,this];cases hw;cases u<;>cases c<;>rfl
   ·next u hu=>
    have:=h.has s _ hu;unfold yielded;rw[hs];simp only[Option.bind_some,this];cases hw;rfl
   ·cases hw
  ·cases hw
section
variable {P:Program}{ops:Array Oper}{C:World->Prop}{Q:Act->Prop}{N:Nat}{E:Env}{o:Oper}{rest:List Oper}{d:Nat}
def qE[dq:DQ](P:Program)(ops:Array Oper)(C:World->Prop)(Q:Act->Prop)(N:Nat)(E:Env)(l:List Oper):Prop:=∀a,Ag N E a->wpQuiet P ops C Q l a
theorem qE.start[dq:DQ](h:qE P ops C Q N E l)(ha:Ag N E a):wpQuiet P ops C Q l a:=h a ha
theorem qE.nil[dq:DQ](h:∀a,Ag N E a->Q a):qE P ops C Q N E []:=fun a ha=>wpQuiet_nil (h a ha)
theorem qE.cut[dq:DQ](E':Env)(n:Nat)(h1:qE P ops C (fun a=>Ag N E' a) N E (l.take n))(h2:qE P ops C Q N E' (l.drop n)):qE P ops C Q N E l:=fun a ha=>
 QiL (fun a'=>Ag N E' a') n l a (h1 a ha) (fun a' ha'=>h2 a' ha')
theorem Ag.at_[dq:DQ](h:Ag N E a)(hi:E.lookup i=some v):a.tmps[i]? =some v:=h.has i v hi
theorem Q08[dq:DQ](hd:o.dst=some d)(hN:d<N)(hw:Qi ops E o=some false)(h:qE P ops C Q N ((d,undef)::E) rest):qE P ops C Q N E (o::rest):=fun a ha=>
 Qu7 J1 VA
theorem XR[dq:DQ](ho:o.op=.move x)(hd:o.dst=some d)(hN:d<N)(hw:Qi ops E o=some true)(hx:ev E x=some v)(h:qE P ops C Q N ((d,v)::E) rest):qE P ops C Q N E (o::rest):=fun a ha=>
 Qun ho J1 ZJ VA
theorem Q2F[dq:DQ](ho:o.op=.assign x)(hd:o.dst=some d)(hN:d<N)(hw:Qi ops E o=some true)(hx:ev E x=some v)(h:qE P ops C Q N ((d,v)::E) rest):qE P ops C Q N E (o::rest):=fun a ha=>
 Qoi ho J1 ZJ VA
theorem QR[dq:DQ](ho:o.op=.pick c x y)(hd:o.dst=some d)(hN:d<N)(hw:Qi ops E o=some true)(hc:ev E c=some (.bool true))(hx:ev E x=some v)(h:qE P ops C Q N ((d,v)::E) rest):qE P ops C Q N E (o::rest):=fun a ha=>
 Qeu ho J1 Q1S ZJ VA
theorem X9[dq:DQ](ho:o.op=.pick c x y)(hd:o.dst=some d)(hN:d<N)(hw:Qi ops E o=some true)(hc:ev E c=some (.bool false))(hx:ev E y=some v)(h:qE P ops C Q N ((d,v)::E) rest):qE P ops C Q N E (o::rest):=fun a ha=>
 QiI ho J1 Q1S ZJ VA
theorem Qka[dq:DQ]{b:Bool}(ho:o.op=.unOp .not t x)(hd:o.dst=some d)(hN:d<N)(hw:Qi ops E o=some true)(hx:ev E x=some (.bool b))(h:qE P ops C Q N ((d,.bool (!b))::E) rest):qE P ops C Q N E (o::rest):=fun a ha=>
 Qvs ho J1 ZJ rfl VA
theorem Jl[dq:DQ]{t':TypeId}{k:IntKind}{m n:Int}{b:Bool}(ho:o.op=.binOp .eql t x y t')(hd:o.dst=some d)(hN:d<N)(hw:Qi ops E o=some true)(hx:ev E x=some (.int k m))(hy:ev E y=some (.int k n))(hb:(m==n)=b)(h:qE P ops C Q N ((d,.bool b)::E) rest):qE P ops C Q N E (o::rest):=fun a ha=>
 Qvn ho J1 ZJ (ha.eval hy) hb VA
theorem Q70[dq:DQ]{e:TypeId}{A:Option Addr}{n c:Nat}(ho:o.op=.call { callee:=.builtin .len,args:=#[x],argTypes:=#[t] })(ht:P.underlying t=some (.slice e))(hd:o.dst=some d)(hN:d<N)(hw:Qi ops E o=some true)(hx:ev E x=some (.slice A n c))(h:qE P ops C Q N ((d,.int .i64 (n:Int))::E) rest):qE P ops C Q N E (o::rest):=fun a ha=>
 Qw2 ho ⟨e,ht⟩ J1 ZJ VA
end
section
variable {ops:Array Oper}{C:World->Prop}{Q:Act->Prop}{N:Nat}{E:Env}{o:Oper}{rest:List Oper}{d:Nat}
theorem XA[dq:DQ](ho:o.op=.fieldAddr 65 x i)(hi:i<12)(hd:o.dst=some d)(hN:d<N)(hw:Qi ops E o=some true)(hx:ev E x=some (.pointer (some ⟨b,0,none⟩)))(h:qE Tryz.prog ops C Q N ((d,.pointer (some ⟨b,i,none⟩))::E) rest):qE Tryz.prog ops C Q N E (o::rest):=fun a ha=>
 Qpp ho hi J1 ZJ VA
theorem Xp[dq:DQ](hr:YX C b v0 v1 v2 v3 v4 v5 v6 v7 v8 v9 v10 v11)(ho:o.op=.load 65 x)(hd:o.dst=some d)(hN:d<N)(hw:Qi ops E o=some true)(hx:ev E x=some (.pointer (some ⟨b,0,none⟩)))(h:qE Tryz.prog ops C Q N ((d,.agg #[v0,v1,v2,v3,v4,v5,v6,v7,v8,v9,v10,v11])::E) rest):qE Tryz.prog ops C Q N E (o::rest):=fun a ha=>
 QbJ hr ho J1 ZJ VA
theorem Xj[dq:DQ](hr:YX C b v0 v1 v2 v3 v4 v5 v6 v7 v8 v9 v10 v11)(ho:o.op=.load 3 x)(hd:o.dst=some d)(hN:d<N)(hw:Qi ops E o=some true)(hx:ev E x=some (.pointer (some ⟨b,i,none⟩)))(hv:[v0,v1,v2,v3,v4,v5,v6,v7,v8,v9,v10,v11][i]? =some v)(h:qE Tryz.prog ops C Q N ((d,v)::E) rest):qE Tryz.prog ops C Q N E (o::rest):=fun a ha=>
 Qg6 hr ho J1 ZJ hv VA
theorem Q0L[dq:DQ](hr:YX C b v0 v1 v2 v3 v4 v5 v6 v7 v8 v9 v10 v11)(ho:o.op=.load 4 x)(hd:o.dst=some d)(hN:d<N)(hw:Qi ops E o=some true)(hx:ev E x=some (.pointer (some ⟨b,i,none⟩)))(hv:[v0,v1,v2,v3,v4,v5,v6,v7,v8,v9,v10,v11][i]? =some v)(h:qE Tryz.prog ops C Q N ((d,v)::E) rest):qE Tryz.prog ops C Q N E (o::rest):=fun a ha=>
 Qc4 hr ho J1 ZJ hv VA
theorem Q3c[dq:DQ](hr:YX C b v0 v1 v2 v3 v4 v5 v6 v7 v8 v9 v10 v11)(ho:o.op=.load 25 x)(hd:o.dst=some d)(hN:d<N)(hw:Qi ops E o=some true)(hx:ev E x=some (.pointer (some ⟨b,i,none⟩)))(hv:[v0,v1,v2,v3,v4,v5,v6,v7,v8,v9,v10,v11][i]? =some v)(h:qE Tryz.prog ops C Q N ((d,v)::E) rest):qE Tryz.prog ops C Q N E (o::rest):=fun a ha=>
 Qb4 hr ho J1 ZJ hv VA
theorem KY[dq:DQ](hr:YX C b v0 v1 v2 v3 v4 v5 v6 v7 v8 v9 v10 v11)(ho:o.op=.load 27 x)(hd:o.dst=some d)(hN:d<N)(hw:Qi ops E o=some true)(hx:ev E x=some (.pointer (some ⟨b,i,none⟩)))(hv:[v0,v1,v2,v3,v4,v5,v6,v7,v8,v9,v10,v11][i]? =some v)(h:qE Tryz.prog ops C Q N ((d,v)::E) rest):qE Tryz.prog ops C Q N E (o::rest):=fun a ha=>
 Q6x hr ho J1 ZJ hv VA
theorem Q0w[dq:DQ](hr:YX C b v0 v1 v2 v3 v4 v5 v6 v7 v8 v9 v10 v11)(ho:o.op=.load 48 x)(hd:o.dst=some d)(hN:d<N)(hw:Qi ops E o=some true)(hx:ev E x=some (.pointer (some ⟨b,i,none⟩)))(hv:[v0,v1,v2,v3,v4,v5,v6,v7,v8,v9,v10,v11][i]? =some v)(h:qE Tryz.prog ops C Q N ((d,v)::E) rest):qE Tryz.prog ops C Q N E (o::rest):=fun a ha=>
 Qca hr ho J1 ZJ hv VA
theorem Vr[dq:DQ]{f:FuncId}{ts:Array TypeId}{u:Value}(ho:o.op=.call { callee:=.value (.func f),args:=#[x],argTypes:=ts })(he:∀(args:Array Value) (w:World),(callFunc f args).run Tryz.prog w=.ok (.enter f args) w)(hd:o.dst=some d)(hN:d<N)(hw:Qi ops E o=some true)(hx:ev E x=some u)(hc:∀w,C w->Calls Tryz.prog f #[u] w fun e w''=>e=.returned v/\C w'')(h:qE Tryz.prog ops C Q N ((d,v)::E) rest):qE Tryz.prog ops C Q N E (o::rest):=fun a ha=>
 Qvl ho he J1 #[u] (by simp [ha.eval hx]) hc VA
end
end
section
variable {P:Program}{W:World}{Q Q0:Exit->Act->World->Prop}{N:Nat}{E:Env}
def cE(P:Program)(W:World)(Q:Exit->Act->World->Prop)(N:Nat)(E:Env)(c:Code):Prop:=∀a,Ag N E a->∀x:Up W,c.wp P Q a x.w
theorem cE.go{a:Act}{c:Code}(h:cE P W Q N E c)(ha:Ag N E a)(x:Up W):c.wp P Q a x.w:=h a ha x
end
section
variable {Q:Exit->Act->World->Prop}{a:Act}{bytes size:Nat}{e t:TypeId}{o:Oper}
section
variable {P:Program}(w:World)
theorem Q73(hT:SlT P t e size bytes)(ty:TypeId)(base:Nat)(A:Option Addr)(n c:Nat)(xs:List Value)(hown:w.ownsRow base e size (.slice A n c) n xs)
  (B:Nat) (A2:Option Addr) (m c2:Nat) (news:List Value) (hr:Rd w B size A2 m news) (h1:∀u∈news,u.oneCell'=true) (hbytes:(n+m)*bytes<=140737488355328) (hbase:base<=w.heap.size):
  ∃A' c' w',(Builtin.append_ #[t,t] ty #[.slice A n c,.slice A2 m c2]).run P w=.ok (.slice A' (n+m) c') w'/\w'.ownsRow base e size (.slice A' (n+m) c') (n+m) (xs++news)/\w.grownBy w' (Value.slice A n c).ownBlock/\Below base w w':=by
 obtain⟨i,z,hi,hz,hs,hby,hzs⟩:=hT.info;have h63:n+m<=maxLen:=by
  exact Qn7
 have hfar:∀k,(Value.slice A n c).ownBlock=some k->base<=k:=fun k hk=>(hown.lt k hk).1;rcases A2 with _|ad
 ·have hm:m=0:=by
   rcases Nat.eq_zero_or_pos m with h0|h0
   ·exact h0
   ·obtain⟨b,o,h,_⟩:=hr.2 h0
    cases h
  subst hm;have hn:=hr.empty;subst hn;refine⟨A,c,w,?_,by simpa using hown,World.grownBy.refl _ _,Below.refl _ _⟩;rcases hown.2 with ⟨hv,rfl⟩|⟨g,cap,cur,hv,_,_,hnc,_⟩
  ·simp only[Value.slice.injEq] at hv
   exact QsJ
  ·simp only[Value.slice.injEq] at hv
   obtain⟨rfl,_,rfl⟩:=hv;exact QlZ
 ·have hcells:∀j u,news[j]? =some u->w.cell? (ad.add j)=some u:=by
   intro j u hu;rcases Nat.eq_zero_or_pos m with h0|h0
   ·subst h0
    have hn:=hr.empty;subst hn;simp at hu
   ·obtain⟨b,o,h,_,hc⟩:=hr.2 h0
    injection h with h;subst h;have e:(⟨b,o,none⟩:Addr).add j=⟨b,o+j,none⟩:=by unfold Addr.add;split<;>simp_all
    rw[e];exact hc j u hu
  obtain⟨v',w',hrun,h2,h3,_⟩:=run_append_own (P:=P) w base t ty e i z size bytes hT.und hi hz hs hby hzs hT.pos _ n xs hown ad m c2 news hr.1 hcells h1 h63 hbytes hbase;obtain⟨A',c',rfl⟩:=Q8m h2;exact⟨A',c',w',hrun,h2,h3,(Below.refl _ _).grown h3 hbase hfar⟩
theorem Qpc{K:Act->World->Prop}(hT:SlT P t e size bytes)(s x:Operand)
  (ho:o.op=.call { callee:=.builtin .append,args:=#[s,x],argTypes:=#[t,t] })
  (base:Nat) (A:Option Addr) (n c:Nat) (xs:List Value) (hs:a.eval s=.slice A n c) (hown:w.ownsRow base e size (.slice A n c) n xs)
  (B:Nat) (A2:Option Addr) (m c2:Nat) (news:List Value) (hx:a.eval x=.slice A2 m c2) (hr:Rd w B size A2 m news) (h1:∀u∈news,u.oneCell'=true)
  (hbytes:(n+m)*bytes<=140737488355328) (hbase:base<=w.heap.size)
  (h:∀A' c' w',w'.ownsRow base e size (.slice A' (n+m) c') (n+m) (xs++news)->w.grownBy w' (Value.slice A n c).ownBlock->Below base w w'->K (a.put o.dst (.slice A' (n+m) c')) w'):o.wp P a w K Q:=by
 obtain⟨A',c',w',hrun,h2,h3,h4⟩:=Q73 (P:=P) w hT o.type base A n c xs hown B A2 m c2 news hr h1 hbytes hbase;refine QsU ?_;exact h A' c' w' h2 h3 h4
theorem Q4S{ops:Array Oper}{rest:List Oper}(hT:SlT P t e size bytes)(hgd:o.guard=none)(s x:Operand)
  (ho:o.op=.call { callee:=.builtin .append,args:=#[s,x],argTypes:=#[t,t] })
  (base:Nat) (A:Option Addr) (n c:Nat) (xs:List Value) (hs:a.eval s=.slice A n c) (hown:w.ownsRow base e size (.slice A n c) n xs)
  (B:Nat) (A2:Option Addr) (m c2:Nat) (news:List Value) (hx:a.eval x=.slice A2 m c2) (hr:Rd w B size A2 m news) (h1:∀u∈news,u.oneCell'=true)
  (hbytes:(n+m)*bytes<=140737488355328) (hbase:base<=w.heap.size)
  (h:∀A' c' w',w'.ownsRow base e size (.slice A' (n+m) c') (n+m) (xs++news)->w.grownBy w' (Value.slice A n c).ownBlock->Below base w w'->wpList P ops Q rest (a.put o.dst (.slice A' (n+m) c')) w'):wpList P ops Q (o::rest) a w:=
 wpList_plain hgd fun _ hK=>Qpc w hT s x ho base A n c xs hs hown B A2 m c2 news hx hr h1 hbytes hbase fun A' c' w' h2 h3 h4=>hK _ _ (h A' c' w' h2 h3 h4)
end
end
end Go.Proofs.YtphkhfdmlcnoeaaGreatDoor

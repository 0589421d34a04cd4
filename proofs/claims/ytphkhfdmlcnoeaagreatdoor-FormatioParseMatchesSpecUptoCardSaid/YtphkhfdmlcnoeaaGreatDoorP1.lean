import Derived.WalkKit
import Derived.Lib.Hide
import Derived.Deep.LoopGhost
import Derived.Deep.MidRow
import Derived.BigQuiet
import Derived.Laws.EntriesVeiled
import Derived.Deep.RegionLaw
namespace Go.Proofs.YtphkhfdmlcnoeaaGreatDoor
set_option linter.unusedVariables false
set_option linter.unusedSimpArgs false
set_option maxRecDepth 1000000
set_option maxHeartbeats 32000000
open Go.RowKit
section
theorem Q1 {p : Prop} (h : p := by decide) : p := h
theorem Q3 {p : Prop} (h : p := by omega) : p := h
theorem Q5 {p : Prop} (h : p := by kernel_rfl) : p := h
theorem Qm {p : Prop} (h : p := by simp) : p := h
theorem QS {p : Prop} (h : p := by assumption) : p := h
theorem Q2 {p : Prop} (h : p) : Hid p := Lib.hid h
structure Hq(q:Prop):Prop where
  o:q
universe u
variable{α:Sort u}
abbrev mc1(x:α:=by exact (.cons rfl rfl (.cons rfl rfl (.cons rfl rfl (.cons rfl rfl .nil))))):α:=x
abbrev mc2(x:α:=by exact (.cons rfl rfl (.cons rfl rfl (.cons rfl rfl (.cons rfl (by go_num) .nil))))):α:=x
abbrev mc3(x:α:=by exact (Ag.cons (Ag.cons (Ag.nil rfl rfl) rfl) rfl)):α:=x
abbrev mc4(x:α:=by exact .inr rfl):α:=x
abbrev mc5(x:α:=by exact (QsG rfl rfl Q1 rfl rfl)):α:=x
abbrev mc6(x:α:=by exact (Xt (xs:=[]) (vs:=[]) (v:=.agg #[.int .i64 0,.int .i64 0]) rfl rfl Q1 rfl rfl (fun w=>run_build w _ _ _ Q5))):α:=x
abbrev mc8(x:α:=by exact Ag.cons (Ag.cons (Ag.cons (Ag.nil ha.sz ha.df) (by exact ha.at_ rfl)) (by exact ha.at_ rfl)) (by exact ha.at_ rfl)):α:=x
abbrev JO(x:α:=by exact (QA.sel [0] Q1 rfl)):α:=x
abbrev Q02(x:α:=by (try simp only[List.length_append,List.length_cons,List.length_nil]);omega):α:=x
abbrev Zk(x:α:=by first|exact Nat.le_refl _|(simp only[Qx];omega)):α:=x
abbrev V3(x:α:=by go_ret;exact⟨by rw[<- HF.out];simp [QC, *],X2 HB1.out (Up.b _)⟩):α:=x
abbrev Qwq(x:α:=by exact [.string ⟨name.toArray⟩,.int .i64 9,.slice Ab bs.length cb,.int .i64 size,.bool big,.int .i64 mn,.int .i64 mx,.int .i64 stop,.int .i64 count,.int .i64 elem,.slice An names.length cn,.slice Ap parts.length cp]):α:=x
abbrev QvS(x:α:=by exact (.cells ([.string ⟨name.toArray⟩,.int .i64 8,.slice Ab bs.length cb,.int .i64 size,.bool big,.int .i64 mn,.int .i64 mx,.int .i64 stop,.int .i64 count,.int .i64 elem,.slice An names.length cn,.slice (some ⟨bp,op,none⟩) parts.length cp]:List Value).toArray 65 (0,0))):α:=x
abbrev Q30(x:α:=by exact (Qg (f:=126) rfl rfl Q1 rfl rfl (fun w hw=>KC w))):α:=x
abbrev X4(x:α:=by simp only[Qx]):α:=x
abbrev Qug(x:α:=by exact [.blk g (.cells ([.slice (some ⟨bf,of,none⟩) nn cf,.slice A xs.length c,.int .i64 (n:Int)]:List Value).toArray 77 (0,0)),.row A xs.length c 5 1 (bv xs)]):α:=x
abbrev YE(x:α:=by exact (QlT rfl rfl Q1 rfl rfl)):α:=x
abbrev QbG(x:α:=by exact (fun w hw=>hw.rd_blk 0 rfl rfl)):α:=x
abbrev QT(x:α:=by exact (Wd.start [] W)):α:=x
abbrev Qvf(x:α:=by exact [(0,.pointer (some ⟨g,0,none⟩)),(1,.int .i64 k),(2,.agg [.int .i64 dk,.int .i64 dn,.slice Abv dbs.length cbv,.slice Anv dns.length cnv,.slice Apv p.len cpv].toArray)]):α:=x
abbrev Q2p(x:α:=by exact (Yu rfl rfl Q1 rfl rfl rfl Tryz.underlying3 hcv)):α:=x
abbrev Q3q(x:α:=by exact (QtU (k:=.i64) rfl rfl Q1 rfl rfl rfl (IntWalk.i64_in _ Q3))):α:=x
abbrev Yp(x:α:=by exact (YT 0 rfl rfl rfl rfl rfl rfl rfl Qm)):α:=x
abbrev Q40(x:α:=by exact (2,.pointer (some ⟨b2,0,none⟩))):α:=x
abbrev Qiz(x:α:=by exact (1,.pointer (some ⟨b1,0,none⟩))):α:=x
abbrev Qp4(x:α:=by exact [.blk b3 (.cells ([.string ⟨name.toArray⟩,.int .i64 kind,sb,.int .i64 size,.bool big,.int .i64 mn,.int .i64 mx,.int .i64 stop,.int .i64 count,.int .i64 elem,sn,sp]:List Value).toArray 65 (0,0)),.blk g (.cells ([.slice Af nn cf,.slice As nn cs,.slice Ad nd cd,.int .i64 ((p+i:Nat):Int)]:List Value).toArray 60 (0,0))]):α:=x
abbrev QpF(x:α:=by exact [.string ⟨name.toArray⟩,.int .i64 6,.slice Ab bs.length cb,.int .i64 size,.bool big,.int .i64 mn,.int .i64 mx,.int .i64 stop,.int .i64 count,.int .i64 elem,.slice An names.length cn,.slice Ap parts.length cp]):α:=x
abbrev Q6j(x:α:=by exact (QaG (f:=122) (fun _:Option Addr×Nat=>.tuple #[]) (fun _=>True) _ rfl rfl rfl rfl (fun w hw=>Qva _ _ Q3 hw))):α:=x
abbrev Q0n(x:α:=by exact (Qdj rfl rfl Q1 rfl rfl)):α:=x
abbrev QoM(x:α:=by exact (fun w hw=>⟨by rw[HZ.out],hw.k.below⟩)):α:=x
abbrev Q5i(x:α:=by exact (.cells ([.slice (some ⟨b,o,none⟩) n c]:List Value).toArray 24 (0,0))):α:=x
abbrev Z6(x:α:=by exact (Ag.cons (Ag.nil rfl rfl) rfl)):α:=x
abbrev Q5l(x:α:=by exact (.cons rfl rfl (.cons rfl rfl mc1))):α:=x
abbrev KW(x:α:=by exact (fun w=>run_build w _ _ _ Q5)):α:=x
abbrev Q7x(x:α:=by exact (.cons rfl rfl (.cons rfl rfl .nil))):α:=x
abbrev Xi(x:α:=by exact (QA.rfl_)):α:=x
abbrev Q9R(x:α:=by simp [Value.oneCell']):α:=x
abbrev Q7E(x:α:=by exact (some ⟨g,0,none⟩)):α:=x
abbrev Kq(x:α:=by exact (J7 rfl rfl Q1 rfl rfl rfl Q3)):α:=x
abbrev Zi(x:α:=by exact (RsV.blk 1 rfl rfl rfl)):α:=x
abbrev Qqt(x:α:=by exact [(0,.agg ([.string ⟨name.toArray⟩,.int .i64 2,.slice Ab bs.length cb,.int .i64 size,.bool big,.int .i64 mn,.int .i64 mx,.int .i64 stop,.int .i64 count,.int .i64 elem,.slice An names.length cn,.slice Ap parts.length cp]:List Value).toArray),(1,.int .i64 (b:Int))]):α:=x
abbrev Q05(x:α:=by exact (HG.out.on hw.k.below)):α:=x
abbrev Q3J(x:α:=by exact (QA.sel [0,1,2] Q1 rfl)):α:=x
abbrev Qqb(x:α:=by exact (5,.pointer (some ⟨b5,0,none⟩))):α:=x
abbrev QuJ(x:α:=by exact (0,.agg (ruC r (.slice Ab r.bs.length cb) (.slice An r.names.length cn) (.slice Ap r.parts.length cp)).toArray)):α:=x
abbrev Q5o(x:α:=by exact (QA.sel [0,2] Q1 rfl)):α:=x
abbrev Q4e(x:α:=by exact (KR rfl rfl Q1 rfl rfl rfl (by first|exact decide_eq_true Q3|rfl))):α:=x
abbrev Qde(x:α:=by exact Q2 (show Rd W B 1 Ab bs.length (bv bs) from HRU.out.b)):α:=x
abbrev Q59(x:α:=by exact (.cons rfl rfl (.cons rfl rfl (.cons rfl (by go_num) .nil)))):α:=x
abbrev Qaw(x:α:=by exact (QA.sel [1] Q1 rfl)):α:=x
abbrev QeI(x:α:=by exact Q8 mc4 rfl (.tmp rfl) QoM):α:=x
abbrev Q5n(x:α:=by exact (YT 1 rfl rfl rfl rfl (Qln _) (X3 _) rfl (by simp [X3]))):α:=x
abbrev QcF(x:α:=by exact (3,.pointer (some ⟨b3,0,none⟩))):α:=x
abbrev Q8y(x:α:=by exact (.cells [.slice (some ⟨b,o,none⟩) n c].toArray 24 (0,0))):α:=x
abbrev KI(x:α:=by exact (YT 1 rfl rfl rfl rfl rfl rfl rfl Qm)):α:=x
abbrev Q2x(x:α:=by exact (Qg (f:=91) rfl rfl Q1 rfl rfl (fun w hw=>QbT _ _ w))):α:=x
abbrev Q0g(x:α:=by exact (.cons rfl rfl (.cons rfl rfl (.cons rfl rfl mc2)))):α:=x
abbrev QoD(x:α:=by exact (.cells ([.string ⟨name.toArray⟩,.int .i64 1,.slice Ab bs.length cb,.int .i64 size,.bool big,.int .i64 mn,.int .i64 mx,.int .i64 stop,.int .i64 count,.int .i64 elem,.slice An names.length cn,.slice Ap parts.length cp]:List Value).toArray 65 (0,0))):α:=x
abbrev Q4V(x:α:=by exact Q2 (Qnl HN6.out HALL.out (by have:=HD.out;rwa [List.take_of_length_le (by rw[HL.out];omega)] at this))):α:=x
abbrev QdH(x:α:=by exact Q8 mc4 rfl (.tmp rfl) (fun w hw=>⟨rfl,hw.k.below⟩)):α:=x
abbrev Q79(x:α:=by exact Jn (Xw _ _ _ rfl rfl rfl (fun w hw=>Q0a hw (fun w' hw'=>⟨p+i,HE.out,rfl,hw'.k⟩))) rfl Q1 (fun i=>i.elim)):α:=x
abbrev Q3v(x:α:=by exact (some ⟨bf,of,none⟩)):α:=x
abbrev Qsb(x:α:=by exact (Qg (f:=125) rfl rfl Q1 rfl rfl (fun w hw=>Q1D w))):α:=x
abbrev Q2O(x:α:=by exact (some ⟨br,0,none⟩)):α:=x
abbrev ZM(x:α:=by exact (QA.sel [2,0] Q1 rfl)):α:=x
abbrev Q5I(x:α:=by exact (QA.sel [1,3] Q1 rfl)):α:=x
abbrev Q9n(x:α:=by exact (.cells (ruC r (.slice Ab r.bs.length cb) (.slice An r.names.length cn) (.slice Ap r.parts.length cp)).toArray 65 (0,0))):α:=x
abbrev Zt(x:α:=by simp only[Qx];omega):α:=x
abbrev Q4l(x:α:=by exact (Q4T rfl rfl Q1 rfl rfl)):α:=x
abbrev Y1(x:α:=by exact (ZZ (size:=1) rfl rfl rfl rfl rfl Q1)):α:=x
abbrev QhE(x:α:=by exact (.cells ([.int .i64 0,.int .i64 0,.slice none 0 0,.slice none 0 0,.slice none 0 0]:List Value).toArray 30 (0,0))):α:=x
abbrev K4(x:α:=by exact ⟨h3,.inl ⟨x,h1,by rw[h2]⟩⟩):α:=x
abbrev QjR(x:α:=by exact [.string ⟨name.toArray⟩,.int .i64 8,.slice Ab bs.length cb,.int .i64 size,.bool big,.int .i64 mn,.int .i64 mx,.int .i64 stop,.int .i64 count,.int .i64 elem,.slice An names.length cn,.slice Ap parts.length cp]):α:=x
abbrev Qrq(x:α:=by exact [.string ⟨name.toArray⟩,.int .i64 5,.slice Ab bs.length cb,.int .i64 size,.bool big,.int .i64 mn,.int .i64 mx,.int .i64 stop,.int .i64 count,.int .i64 elem,.slice An names.length cn,.slice Ap parts.length cp]):α:=x
abbrev Q2P(x:α:=by exact (YN rfl rfl Q1 rfl rfl rfl (by first|assumption|rfl))):α:=x
abbrev QdS(x:α:=by exact (QeS rfl rfl Q1 rfl rfl rfl (by rw[VE,VE];simp only[Q6F,List.length_take,List.length_append,List.length_cons,List.length_nil]<;>omega))):α:=x
abbrev Q1K(x:α:=by exact Q2 (show Below w.heap.size w W1 by rw[<- hW1];exact QvU _ _ _ _)):α:=x
abbrev Qh4(x:α:=by exact (Q7l (k:=.i64) rfl rfl Q1 rfl rfl rfl (IntWalk.i64_in _ Q3))):α:=x
abbrev Q8x(x:α:=by exact (FC.new (w.alloc (.cells #[.int .i64 d.k,.int .i64 d.n,.slice Ab nb cb,.slice An nn cn,.slice Ap p.len cp] 30)) 0 0).on hb2):α:=x
abbrev Q0H(x:α:=by exact (some ⟨b,0,none⟩)):α:=x
abbrev Q5E(x:α:=by exact (QA.sel [4,6] Q1 rfl)):α:=x
abbrev QqY(x:α:=by exact (YM rfl rfl Q1 rfl rfl rfl (by first|exact decide_eq_true Q3|rfl))):α:=x
abbrev Vw(x:α:=by exact (some ⟨bs,0,none⟩)):α:=x
abbrev Xo(x:α:=by exact (Nat.le_refl _)):α:=x
abbrev YZ(x:α:=by exact (ZZ rfl rfl rfl rfl rfl Qm)):α:=x
abbrev Zo(x:α:=by exact (Ag.cons mc3 rfl)):α:=x
abbrev XY(x:α:=by exact (Nat.zero_le _)):α:=x
abbrev Q0q(x:α:=by exact ⟨Nat.zero_le _,fun j hj=>absurd hj (Nat.not_lt_zero _)⟩):α:=x
abbrev QqM(x:α:=by exact (.cells ([.string ⟨name.toArray⟩,.int .i64 2,sb,.int .i64 (sz:Int),.bool big,.int .i64 mn,.int .i64 mx,.int .i64 stop,.int .i64 count,.int .i64 elem,sn,sp]:List Value).toArray 65 (0,0))):α:=x
abbrev Yf(x:α:=by exact (0,.agg #[.slice A n c])):α:=x
abbrev KG(x:α:=by exact (HFM.out.on hw.k.below)):α:=x
abbrev Vj(x:α:=by go_ret;exact⟨by rw[HT.out];rfl,HB2.out⟩):α:=x
abbrev Vx(x:α:=by exact (fun _=>.inl Q1)):α:=x
abbrev Qmn(x:α:=by exact ⟨HF.out.snoc hy.2.1,HL.out.app hy.2.2,(hfar q y.r hq hy.1).2,by show i+1<=_;omega,by show (A.snoc _ _).len<=i+1;rw[VF.len_snoc];omega,by show (N++[s.data.toList]).length<=i+1;rw[List.length_append];show N.length+1<=i+1;omega,by rw[HR2.out,Q8N hz hy.1]⟩):α:=x
abbrev Qm1(x:α:=by exact (X7 rfl rfl Q1 rfl rfl (by first|exact fun w hw=>hw.range_blk 0 rfl|exact fun w hw=>hw.range_old QS Qm) (by rfl))):α:=x
abbrev QcQ(x:α:=by exact (fun _ _ h=>by rw[HC.out] at h;exact h)):α:=x
abbrev Vt(x:α:=by show n - (i+1)<n - i;omega):α:=x
abbrev Q8w(x:α:=by show Wd [] W [.row z.1 (i+1) z.2 3 1 (iv (ZD F old (i+1))),_] w;rw[<- HST.out,<- Q3o];exact hw.tl.tl):α:=x
abbrev Q1h(x:α:=by exact fun j u hu=>Up.cell (Q6D j u hu) ⟨_,Q2M _ _ _⟩):α:=x
abbrev Q9a(x:α:=by exact (0,.agg #[.slice (some ⟨b,o,none⟩) n c])):α:=x
abbrev Qhd(x:α:=by exact (1,.agg [.string ⟨name.toArray⟩,.int .i64 kind,sb,.int .i64 size,.bool big,.int .i64 mn,.int .i64 mx,.int .i64 stop,.int .i64 count,.int .i64 elem,sn,sp].toArray)):α:=x
abbrev Q8K(x:α:=by exact (Qg (f:=20) rfl rfl Q1 rfl rfl (fun w hw=>QeO _ _ w))):α:=x
abbrev Q7f(x:α:=by exact (YN rfl rfl Q1 rfl rfl rfl (by first|exact beq_eq_false_iff_ne.2 Q3|rfl))):α:=x
abbrev Q4z(x:α:=by exact Q2 (show ns.length=nn by have:=hr.len;rw[JE] at this;exact this)):α:=x
abbrev VA(x:α:=by exact (h _ (by rw[hd];exact ha.put _ hN))):α:=x
abbrev Q3n(x:α:=by exact (4,.pointer (some ⟨b4,0,none⟩))):α:=x
abbrev KM(x:α:=by exact (RsV.blk 1 rfl rfl (by rw[Vi,X3]))):α:=x
abbrev QcK(x:α:=by show parts.length - (i+1)<parts.length - i;omega):α:=x
abbrev QcN(x:α:=by exact [.blk g (.cells ([.slice Af nn cf,.slice As nn cs,.slice Ad nd cd,.int .i64 (p:Int)]:List Value).toArray 60 (0,0))]):α:=x
abbrev QqG(x:α:=by exact (Xw _ _ _ rfl rfl rfl (fun w hw=>(HNC.out w (H.out.nextW hw 2 3 rfl rfl)).mono (fun e w' h=>QlQ 2 3 Q1 hw rfl rfl (fun x hx=>by cases hx) h)))):α:=x
abbrev Qcd(x:α:=by exact (11,.pointer (some ⟨b11,0,none⟩))):α:=x
abbrev QdG(x:α:=by exact (Qg (f:=105) rfl rfl Q1 rfl rfl (fun w hw=>by rw[<- HL.out];exact QaU _ _ w) (v:=.int .i64 L))):α:=x
abbrev Qi3(x:α:=by exact (Q0F rfl rfl Q1 rfl rfl rfl QS)):α:=x
abbrev QbH(x:α:=by exact (YN rfl rfl Q1 rfl rfl rfl (by first|exact beq_iff_eq.2 Q3|exact beq_eq_false_iff_ne.2 Q3|rfl))):α:=x
abbrev YY(x:α:=by exact (QA.sel [2] Q1 rfl)):α:=x
abbrev QtG(x:α:=by exact [.string ⟨name.toArray⟩,.int .i64 kind,.slice Ab bs.length cb,.int .i64 size,.bool big,.int .i64 mn,.int .i64 mx,.int .i64 stop,.int .i64 count,.int .i64 elem,.slice An names.length cn,.slice Ap parts.length cp]):α:=x
abbrev Qtn(x:α:=by exact [.string ⟨name.toArray⟩,.int .i64 10,.slice Ab bs.length cb,.int .i64 size,.bool big,.int .i64 mn,.int .i64 mx,.int .i64 stop,.int .i64 count,.int .i64 elem,.slice An names.length cn,.slice Ap parts.length cp]):α:=x
abbrev Ju(x:α:=by exact (fun w hw=>hw)):α:=x
abbrev Q74(x:α:=by rw[Bool.and_eq_false_iff,decide_eq_false_iff_not,decide_eq_false_iff_not];omega):α:=x
abbrev KP(x:α:=by exact (QA.sel [3,5] Q1 rfl)):α:=x
abbrev Q2V(x:α:=by show parts.length - (j+1)<parts.length - j;omega):α:=x
abbrev Qp0(x:α:=by exact (Qg (f:=95) rfl rfl Q1 rfl rfl (fun w hw=>Calls.stay (Xk _ _ _ w)))):α:=x
abbrev QgX(x:α:=by exact (KR rfl rfl Q1 rfl rfl rfl (by exact decide_eq_true Q3))):α:=x
abbrev Qtm(x:α:=by exact (.cells [.int .i64 0,.int .i64 0].toArray 32 (0,0))):α:=x
abbrev Qhm(x:α:=by exact (QaG (fun _:Unit=>.tuple #[]) (fun _=>True) (fun _=>_) rfl rfl rfl rfl (fun w hw=>Qgl (i:=0) rfl Q3 Q3 Q3 hw))):α:=x
abbrev Qdl(x:α:=by exact ⟨N++[s.data.toList],A.snoc y.r.1 y.r.2.1,cs'++y.cells,z2.1,z2.2,z1.1,z1.2,L++y.L,y.r.2.2,i+1⟩):α:=x
abbrev Q1H(x:α:=by exact Up.cell (QiY _ _ _ _) ⟨_,JS _ _⟩):α:=x
abbrev Q6w(x:α:=by exact (HF.out.on hw.k.below)):α:=x
abbrev Q4A(x:α:=by exact Q8 mc4 rfl (.tmp rfl) (fun w hw=>QG rfl hw)):α:=x
abbrev YF(x:α:=by exact (show 0<nn by omega)):α:=x
abbrev QcR(x:α:=by exact ⟨Qw5 hu,by (try simp only[List.length_append,List.length_cons,List.length_nil]);omega⟩):α:=x
abbrev QrS(x:α:=by exact #[.int .i64 0,.int .i64 0,.slice none 0 0,.slice none 0 0,.slice none 0 0]):α:=x
abbrev YS(x:α:=by exact (List.mem_of_getElem? hx)):α:=x
abbrev QdV(x:α:=by exact (8,.pointer (some ⟨b8,0,none⟩))):α:=x
abbrev Q4g(x:α:=by exact Q2 (show ns.all Qw=false by simpa using hall)):α:=x
abbrev KJ(x:α:=by exact (some ⟨bf,0,none⟩)):α:=x
abbrev Q0t(x:α:=by exact (RsV.blk 2 rfl rfl rfl)):α:=x
abbrev Qhu(x:α:=by exact ⟨by rw[HPC.out,List.append_nil],by (try simp only[List.length_append,List.length_cons,List.length_nil]);omega⟩):α:=x
abbrev Qi4(x:α:=by show Wd [] W [.row z.1 (i+1) z.2 3 1 (iv (ZD F old (i+1))),_] w;rw[<- HST.out,H6.out,<- Q3o];exact hw.tl.tl.tl):α:=x
abbrev Qgs(x:α:=by exact (1,.agg (ruC r (.slice Ab r.bs.length cb) (.slice An r.names.length cn) (.slice Ap r.parts.length cp)).toArray)):α:=x
abbrev Qt7(x:α:=by exact (Zj (xs:=[(0,.const (.int .u8 2)),(1,.const (.int .u8 5)),(2,.const (.int .u8 0)),(3,.const (.int .u8 6)),(4,.const (.int .u8 0))]) (vs:=[(0,.int .u8 2),(1,.int .u8 5),(2,.int .u8 0),(3,.int .u8 6),(4,.int .u8 0)]) (cells:=bv exD) rfl rfl rfl (Qav Q1 (by rintro⟨l⟩ h;match l,h with|[z0,z1,z2,z3,z4],_=>rfl)))):α:=x
abbrev YR(x:α:=by exact (QtL rfl rfl rfl rfl)):α:=x
abbrev QhG(x:α:=by exact (Qg rfl rfl Q1 rfl rfl (fun w hw=>(Q1E _ _ w).mono (fun e w2 h=>⟨h.1,h.2▸JS _ _⟩)))):α:=x
abbrev QqC(x:α:=by exact (Xg _ _ _ rfl rfl rfl (fun w hw=>(Q1I ((hy.2.1.below (hw.k.belowB H.out.hB H.out.lt)).more (by have:=H.out.hB;have:=H.out.lt;have:=hw.k.size;omega)) (by have:=congrArg (fun x=>x.1.length) (Vk hy.1).1;simp only[List.length_take,List.length_drop] at this;omega)).mono (fun e w' h=>QkY hw h)))):α:=x
abbrev QlV(x:α:=by exact (YT 2 rfl rfl rfl rfl rfl rfl rfl Qm)):α:=x
abbrev Qcq(x:α:=by exact (2,.slice Ad D.length cd)):α:=x
abbrev Q0r(x:α:=by simp only;omega):α:=x
abbrev Q4i(x:α:=by exact (H.out.next hw.k hp (hw.own 3 _ rfl))):α:=x
abbrev Q8A(x:α:=by exact Q2 (show Below w.heap.size w w2 from X2 (Q2M _ _ _) hb2)):α:=x
abbrev Q4Z(x:α:=by exact (fun _=>.inr (QA.sel [5,6,2] Q1 rfl))):α:=x
abbrev Q3y(x:α:=by exact (fun _=>.inr JO)):α:=x
abbrev Q6c(x:α:=by exact (hw.own 0 _ rfl)):α:=x
abbrev Q1O(x:α:=by exact fun y:Up W1=>Up.cell (hc 11 _ rfl) y):α:=x
abbrev Q1z(x:α:=by exact fun y:Up W1=>Up.cell (hc 10 _ rfl) y):α:=x
abbrev KO(x:α:=by exact (QA.sel [3,1] Q1 rfl)):α:=x
abbrev YC(x:α:=by exact (J4 3 rfl rfl rfl rfl rfl QbG Q9R Q3)):α:=x
abbrev Y5(x:α:=by exact (J4 2 rfl rfl rfl rfl rfl QbG Q9R Q3)):α:=x
abbrev QhL(x:α:=by exact (some ⟨b,o,none⟩)):α:=x
abbrev QdA(x:α:=by exact [.blk g (.cells ([.slice Q3v nn cf,.slice As nn cs,.slice Ad nd cd,.int .i64 (p:Int)]:List Value).toArray 60 (0,0))]):α:=x
abbrev QcI(x:α:=by exact (.cells ([.slice Q3v nn cf]:List Value).toArray 24 (0,0))):α:=x
abbrev Qrk(x:α:=by exact (Qg (f:=54) rfl rfl Q1 rfl rfl (fun w hw=>(Q3t KG HS.out hc Q05).mono QcQ))):α:=x
abbrev ZU(x:α:=by exact (0,.pointer Q7E)):α:=x
abbrev Q9g(x:α:=by exact (QA.sel [3,4] Q1 rfl)):α:=x
abbrev J9(x:α:=by exact (.cons rfl rfl mc2)):α:=x
abbrev J0(x:α:=by exact (.cons rfl rfl Q7x)):α:=x
abbrev Qn1(x:α:=by exact (Qg rfl rfl Q1 rfl rfl (fun w hw=>(Vp Q6w HS.out hc Q05).mono (fun e w' h=>by rw[HZ.out] at h;exact h)))):α:=x
abbrev Q9c(x:α:=by exact (.cells ([.pointer Q7E]:List Value).toArray 56 (0,0))):α:=x
abbrev QkM(x:α:=by exact (Xt (xs:=[(0,.const (.int .i64 3))]) (vs:=[(0,.int .i64 3)]) (v:=.agg #[.int .i64 3,.int .i64 0,.slice none 0 0,.slice none 0 0,.slice none 0 0]) rfl rfl Q1 rfl rfl KW)):α:=x
abbrev YP(x:α:=by exact IntWalk.i64_in _ Q3):α:=x
abbrev Q75(x:α:=by exact (fun _ _ h=>by rw[H3.out] at h;exact h)):α:=x
abbrev Q0I(x:α:=by exact (.cons rfl rfl Q5l)):α:=x
abbrev Qdp(x:α:=by exact (KR rfl rfl Q1 rfl rfl rfl (by first|exact decide_eq_false Q3|rfl))):α:=x
abbrev Qdx(x:α:=by exact (.cons rfl (by go_num) .nil)):α:=x
abbrev QcG(x:α:=by exact [QuJ,(1,.pointer (some ⟨h,0,none⟩)),(2,.pointer (some ⟨gf,0,none⟩))]):α:=x
abbrev Qdn(x:α:=by exact (Xt (xs:=[]) (vs:=[]) (v:=.agg zrL.toArray) rfl rfl Q1 rfl rfl KW)):α:=x
abbrev Qlu(x:α:=by exact [(0,.agg #[.slice Q3v nn cf]),(1,.int .i64 k),Qcq,(3,.int .i64 (p:Int))]):α:=x
abbrev Qrw(x:α:=by exact (.cells ([.string ⟨name.toArray⟩,.int .i64 7,.slice Ab bs.length cb,.int .i64 size,.bool big,.int .i64 mn,.int .i64 mx,.int .i64 stop,.int .i64 count,.int .i64 elem,.slice (some ⟨bm,om,none⟩) names.length cn,.slice (some ⟨bp,op,none⟩) parts.length cp]:List Value).toArray 65 (0,0))):α:=x
abbrev Q1m(x:α:=by exact fun y:Up W1=>Up.cell (hc 9 _ rfl) y):α:=x
abbrev Q1n(x:α:=by exact fun y:Up W1=>Up.cell (hc 8 _ rfl) y):α:=x
abbrev Q1i(x:α:=by exact fun y:Up W1=>Up.cell (hc 7 _ rfl) y):α:=x
abbrev Q1t(x:α:=by exact fun y:Up W1=>Up.cell (hc 6 _ rfl) y):α:=x
abbrev Q1A(x:α:=by exact fun y:Up W1=>Up.cell (hc 5 _ rfl) y):α:=x
abbrev Q1N(x:α:=by exact fun y:Up W1=>Up.cell (hc 4 _ rfl) y):α:=x
abbrev Q1p(x:α:=by exact fun y:Up W1=>Up.cell (hc 3 _ rfl) y):α:=x
abbrev Q1y(x:α:=by exact fun y:Up W1=>Up.cell (hc 2 _ rfl) y):α:=x
abbrev Q1l(x:α:=by exact fun y:Up W1=>Up.cell (hc 1 _ rfl) y):α:=x
abbrev Q1s(x:α:=by exact fun y:Up W1=>Up.cell (hc 0 _ rfl) y):α:=x
abbrev Qlz(x:α:=by exact (JB 2 rfl rfl rfl rfl rfl rfl rfl)):α:=x
abbrev Q6p(x:α:=by exact (.cells zrL.toArray 30 (0,0))):α:=x
abbrev Qng(x:α:=by exact (Qg rfl rfl Q1 rfl rfl (fun w hw=>VY w))):α:=x
abbrev JI(x:α:=by go_ret;exact⟨rfl,rfl⟩):α:=x
abbrev Yy(x:α:=by exact (RsV.blk 0 rfl rfl rfl)):α:=x
abbrev Qnu(x:α:=by exact QO mc4 rfl Zi (.tmp rfl) (.tmp rfl) (fun w hw=>⟨hw.k.below,.inl ⟨x,HX.out,rfl⟩⟩)):α:=x
abbrev QhA(x:α:=by exact (Xz rfl rfl Q1 rfl rfl rfl (show i<names.length by omega))):α:=x
abbrev Qd3(x:α:=by exact (Xt (xs:=[]) (vs:=[]) (v:=.agg QrS) rfl rfl Q1 rfl rfl KW)):α:=x
abbrev Q5Q(x:α:=by exact .inl rfl):α:=x
abbrev QoH(x:α:=by simp only[Rows.uptoBulk];simp only[lits,List.length_map,List.length_take] at h1;simp only[lits];omega):α:=x
abbrev Q1F(x:α:=by exact (QA.sel [3,4,0] Q1 rfl)):α:=x
abbrev QsS(x:α:=by exact ⟨HF.out.snoc hy2,HL.out.app hy3,(hfar q y.r hq hy1).2,by show i+1<=_;omega,by show (A.snoc _ _).len<=i+1;rw[VF.len_snoc];omega,by show (N++[s.data.toList]).length<=i+1;rw[List.length_append];show N.length+1<=i+1;omega,by rw[HR2.out,Q8N hz hy1]⟩):α:=x
abbrev QsX(x:α:=by rw[if_neg Q3,if_neg Q3,if_neg Q3,if_neg Q3,if_neg Q3,if_neg Q3,if_pos h]):α:=x
abbrev QrT(x:α:=by exact [.blk b3 (.cells ([.int .i64 dk',.int .i64 dn',.slice Ab' nb' cb',.slice An' nn' cn',.slice Ap' L cp']:List Value).toArray 30 (0,0)),.blk b2 (.cells ([.int .i64 dk,.int .i64 dn,.slice Ab nb cb,.slice An nn cn,.slice Ap L cp]:List Value).toArray 30 (0,0))]):α:=x
abbrev Qha(x:α:=by exact (Qe6 rfl rfl Q1 rfl rfl rfl rfl)):α:=x
abbrev Q4r(x:α:=by exact (Kx (t:=32) rfl rfl)):α:=x
abbrev Q1G(x:α:=by exact (List.mem_cons_of_mem _ hx)):α:=x
abbrev QcO(x:α:=by exact (.cells (Qwq:List Value).toArray 65 (0,0))):α:=x
abbrev Qou(x:α:=by exact (X7 rfl rfl Q1 rfl rfl (by exact fun w hw=>hw.range_blk 0 rfl) (by rfl))):α:=x
abbrev Q1J(x:α:=by exact (1,.int .i64 (k:Int))):α:=x
abbrev Qr7(x:α:=by exact (Qly Tryz.underlying9 rfl rfl Q1 rfl rfl)):α:=x
abbrev Qbt(x:α:=by exact (Xz rfl rfl Q1 rfl rfl rfl QS)):α:=x
abbrev Ye(x:α:=by rw[hsz];omega):α:=x
abbrev Qdz(x:α:=by exact (HL.out.new fun x hx=>hw.onAll x (by simp [hx]))):α:=x
abbrev Yj(x:α:=by exact (.cons rfl rfl mc1)):α:=x
abbrev Q1q(x:α:=by exact fun y:Up W1=>Up.cell hc14 y):α:=x
abbrev Q1v(x:α:=by exact fun y:Up W1=>Up.cell hc13 y):α:=x
abbrev Q8f(x:α:=by exact (JB 5 rfl rfl rfl rfl rfl rfl rfl)):α:=x
abbrev QbK(x:α:=by exact (Q7e rfl rfl Q1 rfl rfl rfl)):α:=x
abbrev Qmo(x:α:=by exact (XJ rfl rfl Q1 rfl rfl (by exact fun w hw=>hw.cell_blkL 0 rfl rfl))):α:=x
abbrev QgA(x:α:=by exact (YN rfl rfl Q1 rfl rfl rfl (by first|exact beq_iff_eq.2 Q3|rfl))):α:=x
abbrev Q1L(x:α:=by rw[HLEN.out];exact hkn):α:=x
abbrev Qrx(x:α:=by exact (.cells ([.slice Q3v nn cf,.slice As nn cs,.slice Ad nd cd,.int .i64 (y.q:Int)]:List Value).toArray 60 (0,0))):α:=x
abbrev QmZ(x:α:=by rw[if_neg Q3,if_neg Q3,if_neg Q3,if_neg Q3,if_neg Q3,if_pos h]):α:=x
abbrev Qrb(x:α:=by exact (.cells ([.slice Q3v nn cf,.slice As nn cs,.slice Ad nd cd,.int .i64 (q:Int)]:List Value).toArray 60 (0,0))):α:=x
abbrev Q0u(x:α:=by exact ⟨w.heap.size,0,none⟩):α:=x
abbrev QdT(x:α:=by exact (Q8l rfl rfl Q1 rfl rfl rfl)):α:=x
abbrev Qci(x:α:=by exact (Qz rfl rfl Q1 rfl rfl rfl hxn)):α:=x
abbrev Q8V(x:α:=by exact (fun _=>.inr (QA.sel [2,3] Q1 rfl))):α:=x
abbrev Qhp(x:α:=by exact (Qg (f:=133) rfl rfl Q1 rfl rfl (fun w hw=>Q2r _ w hnm))):α:=x
abbrev Q4x(x:α:=by exact Q2 (Qeq HN6.out HALL.out)):α:=x
abbrev QdB(x:α:=by exact (RsV.blk 4 rfl rfl rfl)):α:=x
abbrev Q6H(x:α:=by exact (.cons rfl (by go_num) Q5l)):α:=x
abbrev QgY(x:α:=by exact (.cells (QpF:List Value).toArray 65 (0,0))):α:=x
abbrev QnN(x:α:=by exact QO mc4 rfl Zi (.tmp rfl) (.tmp rfl) (fun w hw=>⟨hw.k.below,.inl ⟨D.length,HX.out,rfl⟩⟩)):α:=x
abbrev ZJ(x:α:=by exact (ha.eval hx)):α:=x
abbrev Q9l(x:α:=by exact (fun x hx=>by rw[<- HE.out,hx];rfl)):α:=x
abbrev QlZ(x:α:=by simp [Builtin.append_,run_underlying hT.und,sizeOf,typeInfo,hi,Builtin.lenOf,Builtin.firstCells,hnc,storeCells]):α:=x
abbrev Qkv(x:α:=by exact (Qg (f:=28) rfl rfl Q1 rfl rfl (fun w hw=>(Vp KG HS.out hc Q05).mono QcQ))):α:=x
abbrev Y3(x:α:=by exact (fun _ hw=>hw.tl)):α:=x
abbrev Q89(x:α:=by rw[<- QN hg];simp only;omega):α:=x
abbrev Qcf(x:α:=by simp only[VF.len_snoc,List.length_append,Qlv];exact h):α:=x
abbrev QrM(x:α:=by exact (Xg faV (faP (Qq F D f elem q) W.heap.size) (faG _) rfl rfl rfl (fun w hw=>(HIH.out w elem q _ _ _ _ _ _ hel hq (H.out.next hw.k.below) ⟨q1,HQ.out⟩).mono (fun e w' h=>QaJ hw h)))):α:=x
abbrev QoO(x:α:=by exact (Qu6 rfl rfl Q1 rfl rfl)):α:=x
abbrev Q4C(x:α:=by exact (hb1.cell Qm).trans Qm):α:=x
abbrev QhV(x:α:=by exact #[.pointer (some ⟨b4,0,none⟩),.pointer (some ⟨b5,0,none⟩)]):α:=x
abbrev QbI(x:α:=by simp [results,Tryz.results16,go_sem,r0,r1,z4]):α:=x
abbrev Q6Y(x:α:=by exact ⟨hjn,by omega,by omega,H2.out⟩):α:=x
abbrev QtZ(x:α:=by exact (Qg (f:=57) rfl rfl Q1 rfl rfl (fun w hw=>Qcg w))):α:=x
abbrev Qsu(x:α:=by exact (fun w hw=>(Q5z (HO.out.on hw.k.below) hcn).mono fun e w' hq=>⟨by rw[hq.1,H1.out],hq.2⟩)):α:=x
abbrev Qtc(x:α:=by exact (.cells ([.slice Af nn cf,.slice A xs.length c,.int .i64 (n:Int)]:List Value).toArray 77 (0,0))):α:=x
abbrev Qkd(x:α:=by exact ⟨A.snoc y.r.1 y.r.2.1,cs'++y.cells,z.1,z.2,L++y.L,y.r.2.2,n⟩):α:=x
abbrev Qtt(x:α:=by exact (Xg faV (faP (Qq F D f x q) W.heap.size) (faG _) rfl rfl rfl (fun w hw=>(HIH.out w x q _ _ _ _ _ _ hxk hq (H.out.next hw.k.below) ⟨q1,HY.out⟩).mono (fun e w' h=>QaJ hw h)))):α:=x
abbrev Qgx(x:α:=by exact (Qg rfl rfl Q1 rfl rfl (fun w hw=>Qbh _ _ _ w))):α:=x
abbrev Qs5(x:α:=by exact (Xg faV (faP (Qq F D f x p) W.heap.size) (faG _) rfl rfl rfl (fun w hw=>(HIH.out w x p _ _ _ _ _ _ hxk hp (HFA.out w hw.k.below) ⟨q1,HY.out⟩).mono (fun e w' h=>QaJ hw h)))):α:=x
abbrev Q8U(x:α:=by exact (Kx rfl rfl)):α:=x
abbrev Q4Q(x:α:=by rw[HLEN.out] at hj;omega):α:=x
abbrev Qp5(x:α:=by exact ⟨⟨by decide,by decide,by decide,by decide⟩,by decide,by decide,fun x hx=>by cases hx⟩):α:=x
abbrev Qho(x:α:=by exact (Qe6 rfl rfl Q1 rfl rfl rfl hne)):α:=x
abbrev J1(x:α:=by exact (ha.want hw)):α:=x
abbrev Jt(x:α:=by exact hb):α:=x
abbrev Q4H(x:α:=by exact (RsV.blk 3 rfl rfl rfl)):α:=x
abbrev QjF(x:α:=by exact Q2 (show RES=some (.error x) by rw[<- HE.out,HY.out];rfl)):α:=x
abbrev QhI(x:α:=by have:=hs.name;show r.name.toArray.size<=_;rw[List.size_toArray];omega):α:=x
abbrev Q4Y(x:α:=by rw[HLEN.out];exact hn40):α:=x
abbrev Q6h(x:α:=by go_ret;exact⟨by rw[HK.out];rfl,rfl⟩):α:=x
abbrev Qt2(x:α:=by exact (fun y=>ZY y.L y.cs y.A/\KU y.L W.heap.size/\y.q<=D.length/\y.A.len+y.n<=D.length+1/\RES=rb (Vv (Qq F D f elem) D stop y.A y.n y.q) fun z=>okR (ndL,z.1,z.2))):α:=x
abbrev Qro(x:α:=by rw[if_neg Q3,if_neg Q3,if_neg Q3,if_neg Q3,if_pos h]):α:=x
abbrev QrU(x:α:=by exact (Qg (v:=.tuple #[.int .i64 (m:Int),.int .i64 (q:Int),.int .i64 (-1)]) rfl rfl Q1 rfl rfl (fun w hw=>ZP HNO2.out (H.out.next hw.k.below).dt hD hp HY.out))):α:=x
abbrev Q0v(x:α:=by exact (hw.own 1 _ rfl)):α:=x
abbrev Q8H(x:α:=by go_ret;exact⟨rfl,X2 (Q2M _ _ _) hb2⟩):α:=x
abbrev Q6U(x:α:=by exact List.mem_singleton.2 rfl):α:=x
abbrev Q4J(x:α:=by rw[HLEN.out];exact hn0):α:=x
abbrev Qse(x:α:=by exact Xq () [0,1,2,3] Q1 trivial (.cons rfl rfl (.cons rfl rfl (.cons rfl rfl (.cons rfl rfl (.cons rfl rfl (.cons rfl rfl (.cons rfl (by rw[hb];rfl) .nil))))))) rfl):α:=x
abbrev QcD(x:α:=by exact .inr ⟨_,h2,x,hx x h1,rfl,hw.k.thenK hk⟩):α:=x
abbrev Qtp(x:α:=by exact (Xg _ _ _ (f:=55) rfl rfl rfl (fun w hw=>QiZ HFM.out HF.out hn40 hn0 hw))):α:=x
abbrev Q6a(x:α:=by exact (QmG rfl Q1 rfl)):α:=x
abbrev Qcj(x:α:=by obtain⟨b,n,s⟩:=p;simp [execOp,ho,hx,hc,go_sem]):α:=x
abbrev Qn7(x:α:=by have h:=Nat.le_trans (Nat.le_mul_of_pos_right (n+m) hT.bpos) hbytes;simp only[maxLen];omega):α:=x
abbrev Q1x(x:α:=by exact (Yv h).elim):α:=x
abbrev Qto(x:α:=by exact (Zj (xs:=[(0,.tmp 384),(1,.tmp 385)]) (vs:=[(0,.agg (Q3P j).toArray),(1,.agg (y.cells).toArray)]) (cells:=Q3P j++y.cells) rfl rfl rfl (Qhc y j))):α:=x
abbrev Qdg(x:α:=by exact ⟨rfl,JS _ _⟩):α:=x
abbrev Qr6(x:α:=by exact (QhJ rfl rfl Q1 rfl rfl rfl (v:=true) Qm)):α:=x
abbrev Qhe(x:α:=by exact (fun w hw=>⟨hw.k.below,.inl ⟨x',HZ.out,rfl⟩⟩)):α:=x
abbrev QmV(x:α:=by exact (.cells ([.slice A n c]:List Value).toArray 24 (0,0))):α:=x
abbrev Qu3(x:α:=by exact (fun _=>[Qb.blk g (.cells [.slice Vw ws0.length 2].toArray 27 (0,0)),Qb.row Vw ws0.length 2 9 1 (sv ws0),Qb.blk br Q9n,Qb.blk bf Q8y])):α:=x
abbrev QgE(x:α:=by exact (fun w hw=>⟨rfl,hw.k.below⟩)):α:=x
abbrev Q1B(x:α:=by exact Qjc _ _ _ _ _):α:=x
abbrev Qmq(x:α:=by exact (XJ rfl rfl Q1 rfl rfl (fun w hw=>hw.cell_old hcs (by simp;omega)))):α:=x
abbrev Q0J(x:α:=by exact (fun i=>i.elim)):α:=x
abbrev QjJ(x:α:=by exact (List.mem_cons_of_mem _ hk)):α:=x
abbrev Q39(x:α:=by exact (1,.int .i64 (b:Int))):α:=x
abbrev Qrd(x:α:=by exact (Qg (f:=76) rfl rfl Q1 rfl rfl (fun w hw=>(Yw (HL2.out.on hw.k.below) HOK2.out hb).mono (fun _ _ h=>by rw[hv2] at h;exact h)))):α:=x
abbrev QrL(x:α:=by exact Q8 mc4 rfl Zi (fun w hw=>⟨hw.k,.inr ⟨ndN y.1,.nil,y.2,_,[],by rw[<- HE.out,hy];rfl,rfl,hw.own 3 _ rfl,QU.num _,New.nil _ _⟩⟩)):α:=x
abbrev QgU(x:α:=by exact Ag.cons (Ag.nil ha.sz ha.df) (by exact ha.at_ rfl)):α:=x
abbrev Qt0(x:α:=by exact (Qg (f:=116) rfl rfl Q1 rfl rfl (fun w hw=>(Q6N KG (HLK.out.on hw.k.below) HSM.out (QuI HOK.out)).mono (fun _ _ h=>h)))):α:=x
abbrev Qo6(x:α:=by simp [results,Tryz.results69,go_sem,r0,r1,z4]):α:=x
abbrev Q8b(x:α:=by exact (List.replicate F.length false)):α:=x
abbrev Qkf(x:α:=by rintro v w' ⟨i,rfl,hp,hW'⟩;rw[hd];exact hK _ _ (h i hp _ w' (ha.put _ hN) hW')):α:=x
abbrev Qr1(x:α:=by exact (Xg _ _ _ (f:=121) rfl rfl rfl (fun w hw=>Qj3 HG.out hw Q05))):α:=x
abbrev Qmv(x:α:=by exact (Qjo (l:=1) rfl rfl Q1 rfl rfl rfl hlt)):α:=x
abbrev QmH(x:α:=by exact (fun _=>.inr (QA.sel [1,2] Q1 rfl))):α:=x
abbrev Qhz(x:α:=by rw[List.length_take,List.length_drop];omega):α:=x
abbrev Q8M(x:α:=by exact (beq_eq_false_iff_ne.2 Q3)):α:=x
abbrev QoW(x:α:=by exact (QA.sel [4,5] Q1 rfl)):α:=x
abbrev Qnx(x:α:=by exact Q2 (show xs.length=n by have:=h.len;rw[Q07] at this;exact this)):α:=x
abbrev Q6B(x:α:=by exact (fun b' hb'=>.inl hb')):α:=x
abbrev QtM(x:α:=by exact QO mc4 rfl Zi (.tmp rfl) (.tmp rfl) (fun w hw=>⟨hw.k.below,.inr ⟨ndN n,.nil,q,_,[],HX.out,rfl,QU.num _,New.nil _ _⟩⟩)):α:=x
abbrev QhD(x:α:=by exact (Xg _ _ _ rfl rfl rfl (fun w hw=>Qvv hw))):α:=x
abbrev Qrc(x:α:=by exact (Xg _ _ _ rfl rfl rfl (fun w hw=>(Q2j (Qgm (H.out.next hw.k.below).dt hm hcd) Q3).mono (fun e w' h=>QoL hw h)))):α:=x
abbrev Qs0(x:α:=by exact (KR rfl rfl Q1 rfl rfl rfl (by exact decide_eq_false Q3))):α:=x
abbrev Q6b(x:α:=by exact (fun _=>.inr Q5I)):α:=x
abbrev Qdw(x:α:=by exact beq_eq_false_iff_ne.2 Q3):α:=x
abbrev Q8k(x:α:=by exact (1,.int .i64 k)):α:=x
abbrev QtT(x:α:=by exact (Qg (f:=120) rfl rfl Q1 rfl rfl (fun w hw=>(Q6f (HLK.out.on hw.k.below) HOK.out ((Q68 F).trans HLEN.out) Q0v).mono (fun _ _ h=>h)))):α:=x
abbrev QjX(x:α:=by exact (Qz rfl rfl Q1 rfl rfl rfl Q3)):α:=x
abbrev QgB(x:α:=by exact ⟨h.1,by rw[<- h.2];exact Below.refl _ _⟩):α:=x
abbrev Qo7(x:α:=by exact Q2 (show Below w.heap.size w W1 by rw[<- hW1];exact JS _ _)):α:=x
abbrev Qhl(x:α:=by exact [QuJ,(1,.slice A m c),(2,.int .i64 (n:Int))]):α:=x
abbrev Qhb(x:α:=by show l.length - (i+1)<l.length - i;omega):α:=x
abbrev K3(x:α:=by exact (.inl hkind)):α:=x
abbrev Qh1(x:α:=by exact [(0,.agg (y.cells).toArray)]):α:=x
abbrev QtH(x:α:=by rw[Qq];rw[if_neg Q3,if_neg Q3,if_neg Q3,if_neg Q3,if_neg Q3,if_neg Q3,if_neg Q3,if_pos h,hc];simp only;rw[hi]):α:=x
abbrev QrK(x:α:=by exact (QvD rfl rfl Q1 rfl rfl rfl)):α:=x
abbrev Qry(x:α:=by exact (Qba rfl rfl Q1 rfl rfl rfl (by rfl))):α:=x
abbrev QkA(x:α:=by exact #[.int .i64 0,.int .i64 0,.int .i64 (x:Int)]):α:=x
abbrev Qki(x:α:=by exact V9 mc4 rfl Q0t Zi (fun w hw=>Kw HX.out hw.k.below)):α:=x
abbrev QqQ(x:α:=by exact (Xw _ _ _ rfl rfl rfl (fun w hw=>Q5C (H.out.next hw.k hpi Q0v) HC.out hw (fun w' hw'=>⟨p+i,HE.out,rfl,hw'.k⟩)))):α:=x
abbrev Qtq(x:α:=by exact (Qg (f:=118) rfl rfl Q1 rfl rfl (fun w hw=>(QfC Q6c ((ZK F).trans HLEN.out) hsz).mono (fun _ _ h=>h)))):α:=x
abbrev Qru(x:α:=by exact [(0,.agg #[a0,.int .i64 5,.slice Ab nb cb,.int .i64 size,.bool big,.int .i64 mn,.int .i64 mx,.int .i64 stop,a8,a9,a10,a11])]):α:=x
abbrev KK(x:α:=by exact (fun _ hw=>hw)):α:=x
abbrev Q0E(x:α:=by exact (.error (p+i))):α:=x
abbrev Qc7(x:α:=by exact ⟨name.toArray⟩):α:=x
abbrev QlR(x:α:=by exact ⟨_,(Array.toArray_toList).symm,by simp⟩):α:=x
abbrev Qrv(x:α:=by exact [.blk g (.cells ([.slice Af nn cf,.slice As nn cs,.slice Ad nd cd,.int .i64 ((p+i:Nat):Int)]:List Value).toArray 60 (0,0))]):α:=x
abbrev QhC(x:α:=by exact (Jd rfl rfl Q1 rfl rfl rfl hqn)):α:=x
abbrev Yz(x:α:=by exact hB):α:=x
abbrev QgI(x:α:=by rw[<- HC.out];simp [Xm,hk1,hk7,hk8,h1,h2,h3,h4]):α:=x
abbrev QsO(x:α:=by have h1:=hw.blk_row (i:=0) (n:=2) (s:=5) rfl rfl Q1;exact(Q0p 0 h1 rfl).app (hy3.new fun x hx=>hw.onAll x (by simp [faG,hx]))):α:=x
abbrev Q03(x:α:=by exact (X3 _)):α:=x
abbrev Qh5(x:α:=by exact (6,.func (.func 122) #[] #[.pointer Q7E])):α:=x
abbrev Qgy(x:α:=by go_ret;exact⟨by rw[HK.out];rfl,Below.refl _ _⟩):α:=x
abbrev Qtk(x:α:=by show Wd [] W [.row z.1 (i+1) z.2 3 1 (iv (ZD F old (i+1))),_] w;rw[<- HST.out,H6.out,<- HS2.out,<- Q3o];exact hw.tl.tl):α:=x
abbrev Qnd(x:α:=by exact decide_eq_false Q3):α:=x
abbrev Qte(x:α:=by exact (Q0A rfl rfl Q1 rfl rfl rfl QS)):α:=x
abbrev Q6o(x:α:=by rw[HNP.out];omega):α:=x
abbrev QkS(x:α:=by exact (Qo5 rfl rfl Q1 rfl rfl)):α:=x
abbrev Qtb(x:α:=by exact (QlE rfl rfl Q1 rfl rfl)):α:=x
abbrev QnZ(x:α:=by exact (Qg rfl rfl Q1 rfl rfl (fun w hw=>QdL _ w))):α:=x
abbrev Q4M(x:α:=by exact (fun _=>.inr Q9g)):α:=x
abbrev Qrm(x:α:=by exact fun(c:UInt8) (i:Nat) h1 h2=>(Qq2 (F:=F) (D:=D) (f:=f) (p:=p) (k:=k) (c:=c) (i:=i) hkind h1 h2).symm.trans hres):α:=x
abbrev Qgk(x:α:=by rw[<- HC.out];simp [Xm,hk1,hk7,hk8,h1,h2,h3]):α:=x
abbrev Qnw(x:α:=by exact (hr.parts (.inl h7) k hk)):α:=x
abbrev Q00(x:α:=by simp [hx]):α:=x
abbrev QqR(x:α:=by simp only[ho];exact .inr ⟨hw,Empty,fun i=>i.elim,fun i=>i.elim,fun w h=>absurd ⟨w,h⟩ hne,fun i=>i.elim,fun i=>i.elim⟩):α:=x
abbrev QqW(x:α:=by exact ⟨by rw[List.append_assoc];rfl,by (try simp only[List.length_append,List.length_cons,List.length_nil]);omega⟩):α:=x
abbrev QtI(x:α:=by exact Jn (Xw _ _ _ rfl rfl rfl (fun w hw=>Q0a hw (fun w' hw'=>⟨p,HE.out,rfl,hw'.k⟩))) rfl Q1 Q0J):α:=x
abbrev Qtj(x:α:=by exact [(2,.slice (some ⟨qd,od,none⟩) D.length cd),(3,.int .i64 (p:Int)),Q3n,QdV,Qcd,(32,.int .i64 (j:Int))]):α:=x
abbrev QoV(x:α:=by exact (JB 1 rfl rfl rfl rfl rfl rfl rfl)):α:=x
abbrev Q96(x:α:=by exact (.inr hkind)):α:=x
abbrev Qt3(x:α:=by exact (.cells ([.slice QhL i c]:List Value).toArray 24 (0,0))):α:=x
abbrev QsJ(x:α:=by obtain⟨rfl,_,rfl⟩:=hv;simp [Builtin.append_,run_underlying hT.und,sizeOf,typeInfo,hi,Builtin.lenOf,Builtin.firstCells]):α:=x
abbrev QtE(x:α:=by exact Jn (Xw _ _ _ rfl rfl rfl (fun w hw=>Q0a hw (fun w' hw'=>⟨rfl,hw'.k.below⟩))) rfl Q1 Q0J):α:=x
abbrev QqT(x:α:=by exact (Qg (f:=117) rfl rfl Q1 rfl rfl (fun w hw=>(Q9C KG HF.out hn40 hkn).mono (fun _ _ h=>h)))):α:=x
abbrev QrJ(x:α:=by exact ⟨hct.1,by rw[<- hFn];exact hct.2⟩):α:=x
abbrev Qrf(x:α:=by exact (Xw _ _ _ rfl rfl rfl (fun w hw=>(Q21 Q4i HNO.out).mono (fun e w' h=>Q9z 3 rfl hw Q9l h)))):α:=x
abbrev Q8u(x:α:=by exact (HV.out.on (Q2M _ _ _))):α:=x
abbrev Q4N(x:α:=by exact (2,.pointer KJ)):α:=x
abbrev QlO(x:α:=by rw[<- Qbk,HTQ.out,HSQ.out,Nat.zero_add,Nat.mul_one];rfl):α:=x
abbrev Qs9(x:α:=by show Wd [] W [.row z.1 (i+1) z.2 3 1 (iv (ZD F old (i+1))),_] w;rw[<- HST.out,H6.out,<- Q3o];exact hw.tl.tl):α:=x
abbrev Qnv(x:α:=by exact (.cons rfl rfl (.cons rfl rfl Q0I))):α:=x
abbrev Qgi(x:α:=by rw[<- HC.out];simp [Xm,hk1,hk7,hk8,h1,h2]):α:=x
abbrev Qts(x:α:=by exact (Qg rfl rfl Q1 rfl rfl (fun w hw=>(K2 _ _ w).mono (fun e w2 h=>⟨h.1,h.2▸JS _ _⟩)))):α:=x
abbrev QgG(x:α:=by exact (fun _=>True)):α:=x
abbrev Qcm(x:α:=by exact (QA.sel [3] Q1 rfl)):α:=x
abbrev QsY(x:α:=by obtain⟨j,h1,h2,h3,h4⟩:=hq;exact⟨m j,h2,j,h1,rfl,h3,h4⟩):α:=x
abbrev Qm8(x:α:=by exact ⟨by omega,by have:=hv.len;omega⟩):α:=x
abbrev Qrl(x:α:=by exact Q2 (show RES=some (.error x') by have h:Qq F D f x p=some (.error x'):=hy;rw[<- HX.out,h];rfl)):α:=x
abbrev QgO(x:α:=by exact List.eq_nil_of_length_eq_zero Q3):α:=x
abbrev QtP(x:α:=by simp only[List.map_cons,List.sum_cons,List.length_cons];omega):α:=x
abbrev QqB(x:α:=by exact fun(c:UInt8) h1 h2=>(Qlc (F:=F) (D:=D) (f:=f) (p:=p) (k:=k) (c:=c) hkind h1 h2).symm.trans hres):α:=x
abbrev Qrt(x:α:=by exact (Qg (f:=35) rfl rfl Q1 rfl rfl (fun w hw=>(Qbu KG HS.out hkn HK.out).mono QcQ))):α:=x
abbrev Qti(x:α:=by exact Q2 (show RES=some Q0E by rw[HRES.out];exact Vg HC.out (fun h=>hs h.2) (.inr (.inr hm)))):α:=x
abbrev QsV(x:α:=by exact Q2 (QoT (VF.all_drop HALL.out i) hdr (Z4.drop p i HFP.out) (Yh.drop p i HGP.out) hl')):α:=x
abbrev Q54(x:α:=by exact absurd h Q1):α:=x
abbrev Qbs(x:α:=by exact (hr.elem (.inl h6))):α:=x
abbrev Q6V(x:α:=by exact (fun _=>.inr Q5E)):α:=x
abbrev Q4j(x:α:=by simp;omega):α:=x
abbrev QtK(x:α:=by show 256 - (i+1)<256 - i;omega):α:=x
abbrev Qne(x:α:=by exact (List.mem_cons_of_mem _ hy)):α:=x
abbrev QsW(x:α:=by exact QO mc4 rfl Zi (.tmp rfl) (.tmp rfl) (fun w hw=>⟨hw.k.below,.inl ⟨p+i,HX.out,rfl⟩⟩)):α:=x
abbrev QmQ(x:α:=by injection h with h;subst h;rw[Addr.add_mid];exact hc j u hu):α:=x
abbrev Qtx(x:α:=by exact [Q40,(5,.slice Q2O n n),(6,.slice Vw 256 256),(7,.int .i64 (q:Int)),(8,.int .i64 (i:Int))]):α:=x
abbrev QtR(x:α:=by exact (QrC rfl rfl Q1 rfl rfl rfl)):α:=x
abbrev QsN(x:α:=by exact (fun w hw=>ZP (JX.of HRK.out (.inr rfl)) (H.out.next hw.k.below).dt hD hp HY.out)):α:=x
abbrev QtN(x:α:=by exact (fun w hw=>ZP (JX.of HRK.out (.inl rfl)) (H.out.next hw.k.below).dt hD hp HY.out)):α:=x
abbrev QhN(x:α:=by exact (.inr ⟨by simpa using hw,rfl⟩)):α:=x
abbrev QgZ(x:α:=by rw[<- HC.out];simp [Xm,hk1,hk7,hk8,h1]):α:=x
abbrev QtB(x:α:=by exact QO mc4 rfl Zi (.tmp rfl) (.tmp rfl) (fun w hw=>⟨hw.k.below,.inl ⟨p,HX.out,rfl⟩⟩)):α:=x
abbrev Qtu(x:α:=by exact (J4 1 rfl rfl rfl rfl rfl QbG Q9R Q3)):α:=x
abbrev QtC(x:α:=by exact (YN rfl rfl Q1 rfl rfl rfl (by first|assumption|exact beq_eq_false_iff_ne.2 Q3|rfl))):α:=x
abbrev Qrr(x:α:=by exact (Qg rfl rfl Q1 rfl rfl (fun w hw=>hcc w))):α:=x
abbrev Qd6(x:α:=by exact (fun w hC=>hr w hC i v hv)):α:=x
abbrev Qcl(x:α:=by rw[HNP.out];exact hlt):α:=x
abbrev QcS(x:α:=by exact (List.mem_of_getElem? hrk)):α:=x
abbrev Qlk(x:α:=by go_ret;exact⟨by rw[<- HF.out];simp [QC],HB2.out⟩):α:=x
abbrev Qgg(x:α:=by exact ⟨hkn,Ke HA.out HRK.out⟩):α:=x
abbrev Q6v(x:α:=by exact (ndL,z.1,z.2)):α:=x
abbrev Q1o(x:α:=by exact (hcl.set hr')):α:=x
abbrev Q5M(x:α:=by exact (hB.symm.trans h0)):α:=x
abbrev Q2W(x:α:=by exact (h a w ha hw)):α:=x
abbrev Q9r(x:α:=by exact (3,.pointer Q2O)):α:=x
abbrev Qhi(x:α:=by exact (.cons rfl rfl J9)):α:=x
abbrev Qty(x:α:=by rintro e' u' w8 ⟨rfl,rfl,rfl⟩;exact⟨_,Qpe rfl (VI ha hw h4) (VI ha hw h5),hR _ hw⟩):α:=x
abbrev QrE(x:α:=by exact YV HV.out Q3 (fun r hr x hx=>(HS.out.2 r hr).each x hx) _ HK.out 0 _ XY HY1.out):α:=x
abbrev Qsv(x:α:=by exact (Qg (f:=89) rfl rfl Q1 rfl rfl (fun w hw=>(Qbn KG HS.out hc).mono QcQ))):α:=x
abbrev Qov(x:α:=by exact (Kx (t:=65) rfl rfl)):α:=x
abbrev Qos(x:α:=by rw[<- HSET.out,HST.out];rw[Nat.zero_add] at hw;exact hw):α:=x
abbrev QtV(x:α:=by exact ⟨h1,h4,fun x hx=>⟨h5.rd x hx,fun b hb=>Nat.le_trans hw.k.size (h5.far x hx b hb)⟩⟩):α:=x
abbrev QqS(x:α:=by exact [ZU,(1,.pointer (some ⟨k,0,none⟩)),(5,.iface 32 (.agg #[.int .i64 c,.int .i64 x]))]):α:=x
abbrev Qhq(x:α:=by rw[<- HR.out];exact HS.out):α:=x
abbrev Qh3(x:α:=by exact (QA.sel [4,5,1] Q1 rfl)):α:=x
abbrev QsD(x:α:=by exact ((Below.refl _ _).alloc Xo _)):α:=x
abbrev Qk0(x:α:=by exact ⟨rfl,rfl,rfl,Nat.le_refl _,fun _ _ _=>rfl⟩):α:=x
abbrev Qm9(x:α:=by exact (Jp 1 rfl rfl rfl rfl rfl rfl Q3)):α:=x
abbrev Qu0(x:α:=by exact (Xg _ _ _ (f:=97) rfl rfl rfl (fun w hw=>Q8i (n:=F.length) HLK.out HOK.out hw))):α:=x
abbrev Qsf(x:α:=by exact (Qg rfl rfl Q1 rfl rfl (fun w hw=>Q34 (H.out.next hw.k hpi hw.blkH) HC.out))):α:=x
abbrev QqL(x:α:=by exact (fun b' hb'=>by simp only[Qb.foot] at hb';rw[if_neg Q3] at hb';cases hb';exact h1)):α:=x
abbrev Q8E(x:α:=by exact (5,.slice Vw n n)):α:=x
abbrev QrY(x:α:=by exact ⟨rfl,by (try simp only[List.length_append,List.length_cons,List.length_nil]);omega⟩):α:=x
abbrev Qm0(x:α:=by exact Q2 ((hp.below HB1.out).more HB1.out.size)):α:=x
abbrev QoY(x:α:=by exact (QnW rfl rfl rfl rfl Q3)):α:=x
abbrev Qu2(x:α:=by exact (X7 rfl rfl Q1 rfl rfl (fun w hw=>hw.range_old hrg2 (by simpa using hbg)) rfl)):α:=x
abbrev QoE(x:α:=by exact (J7 rfl rfl Q1 rfl rfl rfl hx)):α:=x
abbrev Qnh(x:α:=by exact (Qz rfl rfl Q1 rfl rfl rfl hcn)):α:=x
abbrev Q4X(x:α:=by exact (hw.own i _ hO)):α:=x
abbrev QmD(x:α:=by rw[<- HC.out];simp [Xm,hk1,hk7,hk8,h1,h2,h3,h4,h6]):α:=x
abbrev QtF(x:α:=by exact Qu (i+1,z2.1,z2.2) hlt (by show sz - (i+1)<sz - i;omega) J9 (fun w hw=>hw.tl)):α:=x
abbrev QrX(x:α:=by exact [ZU,(6,.slice Ab bs.length cb),(7,.int .i64 (bs.length:Int)),(8,.int .i64 (i:Int))]):α:=x
abbrev Qrs(x:α:=by exact ⟨by rw[QlU (fun j y hj=>HF.out j y (by rw[HL.out] at hj;omega))];rfl,HB.out⟩):α:=x
abbrev Qk4(x:α:=by exact ⟨QvU _ _ _ _,.inl ⟨_,_,HC.out,rfl⟩⟩):α:=x
abbrev QtJ(x:α:=by exact [.blk b2 (.cells cur2.toArray 3 (0,0)),.row Vw n n 4 1 (XC seen),.blk bf Q8y]):α:=x
abbrev Qsi(x:α:=by exact .inr ⟨hw,ι,V,G,hr1,hG,fun x=>go _ _ (hG x).1 ((hG x).2.resolve_left hjT) (hk x)⟩):α:=x
abbrev Qlq(x:α:=by exact (Yc rfl rfl Q1 rfl rfl rfl hkn)):α:=x
abbrev QqK(x:α:=by exact (.cells (Qrq:List Value).toArray 65 (0,0))):α:=x
abbrev Qsn(x:α:=by exact (ZZ (size:=1) (cs:=[.int .u8 ((dgc m).toNat:Int)]) rfl rfl rfl rfl rfl Q1)):α:=x
abbrev Qtz(x:α:=by exact (Xg _ _ _ (f:=37) rfl rfl rfl (fun w hw=>Q72 HFM.out HF.out hn40 hkn hw))):α:=x
abbrev QsE(x:α:=by exact (Xg _ _ _ (f:=119) rfl rfl rfl (fun w hw=>Qiv HFM.out HF.out hn40 hn0 hw))):α:=x
abbrev QsR(x:α:=by exact (Qz rfl rfl Q1 rfl rfl rfl (show 0<=count/\count<(nn:Int) by omega))):α:=x
abbrev Qr0(x:α:=by exact ⟨rfl,fun h=>absurd h (Nat.lt_irrefl _)⟩):α:=x
abbrev Qr4(x:α:=by exact ⟨by rw[HLE.out,HR.out],Ky (XT (X2 HB2.out HBR.out) Q3 _ _) _⟩):α:=x
abbrev QsH(x:α:=by exact ⟨by rw[HLE.out,HR.out],Ky (XT (X2 HB2.out HB3.out) Q3 _ _) _⟩):α:=x
abbrev QrB(x:α:=by exact [.blk b11 (.cells (QjR:List Value).toArray 65 (0,0)),.blk b8 Q6p,.blk b4 QcI]):α:=x
abbrev QnT(x:α:=by exact (Jp 0 rfl rfl rfl rfl rfl rfl hst)):α:=x
abbrev Qtf(x:α:=by exact (Zj (xs:=[(0,.tmp 440)]) (vs:=Qh1) (cells:=y.cells) rfl rfl rfl (Q2K y))):α:=x
abbrev Qd8(x:α:=by exact (hr.elem (.inr h9))):α:=x
abbrev Qrg(x:α:=by exact (fun n hn=>hwz n (List.mem_of_mem_take hn))):α:=x
abbrev QmF(x:α:=by simpa using hy):α:=x
abbrev Qu5(x:α:=by exact ⟨by rw[HT.out];rfl,HBW.out.trans ⟨rfl,rfl,rfl,Nat.le_refl _,fun _ _=>rfl⟩⟩):α:=x
abbrev Qtl(x:α:=by exact (Xg _ _ _ (f:=37) rfl rfl rfl (fun w hw=>Q72 HFM.out HF.out hn hk hw))):α:=x
abbrev Q7r(x:α:=by exact (hw.own 4 _ rfl)):α:=x
abbrev Qll(x:α:=by rw[<- HI.out,Q77 hlt (by rw[hv];decide),hv]):α:=x
abbrev Qns(x:α:=by rw[<- HI.out,Q77 hin (by rw[hv];decide),hv]):α:=x
abbrev Qsc(x:α:=by exact YW (A:=[]) (R:=[]) B A (Z.drop A.length) (by rw[List.length_drop];omega)):α:=x
abbrev Qke(x:α:=by exact (inferInstance:Sl Tryz.prog 28 30 5 88).h):α:=x
abbrev Qcy(x:α:=by exact (fun w hw=>hw.row _ _)):α:=x
abbrev Qls(x:α:=by have h:=Nat.le_trans (Nat.le_mul_of_pos_right (n+1) hT.bpos) hbytes;simp only[maxLen];omega):α:=x
abbrev Qn5(x:α:=by exact Q2 (show RES=some (.ok (ndL,A,q+1)) by rw[HR.out,Qij HC.out hs];rfl)):α:=x
abbrev Qbf(x:α:=by exact (Qq F D f elem)):α:=x
abbrev Qa1(x:α:=by exact (1,.slice A2 m c2)):α:=x
abbrev Qkz(x:α:=by exact Qc3 (lits (H:=H) .u8 (zs.take len))):α:=x
abbrev QoZ(x:α:=by exact (QhJ rfl rfl Q1 rfl rfl rfl rfl)):α:=x
abbrev Qe2(x:α:=by simp only[List.length_cons,List.length_nil];omega):α:=x
abbrev Qg0(x:α:=by rw[List.length_replicate] at this;exact this.symm):α:=x
abbrev Ql5(x:α:=by exact fun h=>(QkI (F:=F) (D:=D) (f:=f) (p:=p) (k:=k) hkind h).symm.trans hres):α:=x
abbrev QlY(x:α:=by exact ⟨(XT HPB.out Q3 _ _).drew,.inl ⟨c,ix,HC.out,HF.out,rfl⟩⟩):α:=x
abbrev QeT(x:α:=by exact Xq () [0,1] Q1 trivial Q5l rfl):α:=x
abbrev Qp3(x:α:=by exact (JB 0 rfl rfl rfl rfl rfl rfl rfl)):α:=x
abbrev Qf3(x:α:=by exact (JB 0 rfl rfl rfl rfl rfl rfl hc0)):α:=x
abbrev Qn2(x:α:=by exact [Q40,(5,.slice Q2O n n),(6,.slice Vw 256 256),(7,.int .i64 (q:Int))]):α:=x
abbrev QkZ(x:α:=by exact (fun w hw=>ZP HNO.out (H.out.next hw.k.below).dt hD hp HY.out)):α:=x
abbrev Qp8(x:α:=by exact (JB 0 rfl rfl rfl rfl rfl rfl (ZF _ (show 0+n*1<256 by omega)))):α:=x
abbrev QnC(x:α:=by exact (fun x hx=>by rw[List.mem_singleton] at hx;subst hx;exact hw.own 0 _ rfl)):α:=x
abbrev Qoa(x:α:=by exact Q2 (show RES=some (.ok (ndN n,.nil,q)) by rw[<- HE.out,HY.out];rfl)):α:=x
abbrev Qli(x:α:=by exact [Qcq,(3,.int .i64 (p:Int)),QdV,Qcd,(19,.int .i64 ((p+j:Nat):Int))]):α:=x
abbrev Qb3(x:α:=by exact (Qlw rfl rfl rfl rfl)):α:=x
abbrev Q9V(x:α:=by rw[HLEN.out];exact hk):α:=x
abbrev Qmm(x:α:=by rw[QfL,HOUT.out,Nat.zero_add,Q0V];unfold Z5;rw[HRK.out,HK.out];rfl):α:=x
abbrev Qmc(x:α:=by exact Q8 mc4 rfl (.tmp rfl) (fun w hw=>⟨by rw[QlD],hw.k.below⟩)):α:=x
abbrev Qfb(x:α:=by exact Q2 (X2 (X2 HB1.out y.b) hb)):α:=x
abbrev Ql0(x:α:=by exact Q2 (show xs.length=n by have:=h.len;rw[JE] at this;exact this)):α:=x
abbrev Qox(x:α:=by exact Q2 (show 0<=(0:Int)/\(0:Int)<F.length by have:=HV.out.len;omega)):α:=x
abbrev QmI(x:α:=by exact fun h=>(QmO (F:=F) (D:=D) (f:=f) (p:=p) (k:=k) h).symm.trans hres):α:=x
abbrev Qkk(x:α:=by exact (fun e=>by rw[Q6A hG.1 (by simpa using e)];exact Nat.le_refl _)):α:=x
abbrev Qfd(x:α:=by exact ⟨size.toNat,by omega⟩):α:=x
abbrev Qab(x:α:=by exact ZQ hown1 hb2 Xo):α:=x
abbrev Qo8(x:α:=by exact fun h=>(Qq6 (F:=F) (D:=D) (f:=f) (p:=p) (k:=k) h).symm.trans hres):α:=x
abbrev Qkj(x:α:=by exact fun h=>(Qql (F:=F) (D:=D) (f:=f) (p:=p) (k:=k) h).symm.trans hres):α:=x
abbrev Qo1(x:α:=by exact fun h=>(Qpk (F:=F) (D:=D) (f:=f) (p:=p) (k:=k) h).symm.trans hres):α:=x
abbrev Qa5(x:α:=by exact (Kx (t:=27) rfl rfl)):α:=x
abbrev Qf5(x:α:=by exact (Ql F (Ql F k).count)):α:=x
abbrev QnL(x:α:=by exact (Qg (f:=71) rfl rfl Q1 rfl rfl (fun w hw=>QY _ _ _ w))):α:=x
abbrev Qbg(x:α:=by rw[h] at hr;cases hr):α:=x
abbrev Qaq(x:α:=by exact (Region.noSelect_spec hs)):α:=x
abbrev Q2f(x:α:=by simp [Qb.w] at this):α:=x
abbrev Qmk(x:α:=by exact (Kg (v:=.bool true) (f:=152) rfl rfl Q1 rfl rfl rfl Qsu)):α:=x
abbrev Q6K(x:α:=by exact (fun i=>.inr ZM)):α:=x
abbrev QaI(x:α:=by exact (fun _=>.inr YY)):α:=x
abbrev Qa0(x:α:=by simpa using hx):α:=x
abbrev QeP(x:α:=by show 256 - (q+1)<256 - q;omega):α:=x
abbrev Q9O(x:α:=by exact (Ag.cons Zo rfl)):α:=x
abbrev Q48(x:α:=by simp only at this;omega):α:=x
abbrev QkH(x:α:=by rw[List.take_add_one,h,Option.toList_some,List.map_append,List.sum_append];simp):α:=x
abbrev QfN(x:α:=by exact Xv hv.toUsd f hel):α:=x
abbrev Qm7(x:α:=by exact (QpA (F:=F) (D:=D) (f:=f) (p:=p) (k:=k) hkind).symm.trans hres):α:=x
abbrev Q9E(x:α:=by exact (Region.free_spec ho hf)):α:=x
abbrev Qet(x:α:=by exact (0,.const (.int .i64 2))):α:=x
abbrev QoP(x:α:=by go_ret;rw[HE.out];exact JP.intro (JL hown3 Q3) (by rw[Q09]) hb3):α:=x
abbrev Qk9(x:α:=by exact Q2 (show RES=some (.error x') by rw[HR2.out,QcZ hy];rfl)):α:=x
abbrev Q6G(x:α:=by rw[List.length_cons];omega):α:=x
abbrev Qod(x:α:=by exact Q2 (show RES=some (.error q) by rw[HR.out,Qjb hc];rfl)):α:=x
abbrev Qk7(x:α:=by exact [Qcq,(3,.int .i64 (p:Int)),QdV,Qcd,(12,.int .i64 (i:Int))]):α:=x
abbrev Qk2(x:α:=by exact ⟨-1,rfl,by rw[Quv (by rw[HL.out];omega) HF.out];rfl,rfl⟩):α:=x
abbrev Q66(x:α:=by exact absurd h Qm):α:=x
abbrev QaM(x:α:=by exact Nat.mod_eq_of_lt Q3):α:=x
abbrev Q3Z(x:α:=by exact (zi1 (hj:=hq2))):α:=x
abbrev Q3X(x:α:=by exact (zi1 (hj:=hin))):α:=x
abbrev Q9y(x:α:=by exact (HLK.out.on hw.k.below)):α:=x
abbrev Qnb(x:α:=by exact Q2 (show Below w.heap.size w w1 from X2 (JS _ _) hb1)):α:=x
abbrev Qmu(x:α:=by exact Q2 (X2 HB.out (show Below wr.heap.size wr w2 from hb2))):α:=x
abbrev Qeh(x:α:=by exact Q2 ⟨sb',sn',sp',rfl,hd'⟩):α:=x
abbrev Qms(x:α:=by exact (Q2S (v:=.bool false) rfl rfl Q1 rfl rfl rfl hqn htc)):α:=x
abbrev QlF(x:α:=by rw[Nat.pow_succ] at h;omega):α:=x
abbrev QoN(x:α:=by rintro w' ⟨x,rfl⟩;exact Calls.up (Q5d _)):α:=x
abbrev Qmb(x:α:=by rintro w' ⟨x,rfl⟩;exact Calls.up (KC _)):α:=x
abbrev Qp1(x:α:=by show Leaves P fn a.tmps R a.defers .returning w;rw[hd];exact⟨v,h1,h2⟩):α:=x
abbrev Qar(x:α:=by exact ⟨⟨i,h2⟩,h1,h3⟩):α:=x
abbrev Qac(x:α:=by exact ⟨n.toNat,by omega⟩):α:=x
abbrev QlB(x:α:=by exact ⟨.nil,.nil _,hp,by show 0+(D.length+1)<=_;omega,HX.out⟩):α:=x
abbrev QfF(x:α:=by exact (zi1 (j:=0) (hj:=hlt))):α:=x
abbrev Ql7(x:α:=by exact (Q2S (v:=.bool true) rfl rfl Q1 rfl rfl rfl hqn htc)):α:=x
abbrev Q9S(x:α:=by exact (fun q hq=>hb.cell hq)):α:=x
abbrev QeK(x:α:=by exact (fun k hk=>h1 k QjJ)):α:=x
abbrev Qoe(x:α:=by rintro w' ⟨x,rfl⟩;exact Calls.up (VY _)):α:=x
abbrev Qkt(x:α:=by rintro w' ⟨x,rfl⟩;exact Calls.up (Q0b _)):α:=x
abbrev Qau(x:α:=by simp only[VF.len_snoc];exact h):α:=x
abbrev QnS(x:α:=by exact ⟨by rw[HF.out],Ky (XT HB2.out Q3 _ _) _⟩):α:=x
abbrev QkK(x:α:=by exact ⟨Nat.zero_le _,fun q hq=>absurd hq (Nat.not_lt_zero q)⟩):α:=x
abbrev Qkx(x:α:=by exact Q2 (show Below w.heap.size w wr from X2 HWB.out hbw)):α:=x
abbrev Q6e(x:α:=by exact absurd h.1 Q1):α:=x
abbrev QnE(x:α:=by rintro w' ⟨x,rfl⟩;exact Calls.up (Q1D _)):α:=x
abbrev Q9Z(x:α:=by exact (Nat.lt_irrefl 0)):α:=x
abbrev Q6P(x:α:=by exact (5,.pointer Q7E)):α:=x
abbrev QfX(x:α:=by simp only[Value.slice.injEq] at hv;omega):α:=x
abbrev Qeg(x:α:=by simp [sizeOf,typeInfo,hi,hs,sliced,JQ]):α:=x
abbrev QoA(x:α:=by rw[<- Qiq S k st cc hkS hcn,Nat.zero_add,Nat.mul_one,HB.out];rfl):α:=x
abbrev QkL(x:α:=by rw[Bool.eq_iff_iff];simp only[Bool.and_eq_true,decide_eq_true_eq];omega):α:=x
abbrev QnX(x:α:=by exact (Qg rfl rfl Q1 rfl rfl (fun w hw=>Q5Y 6 w))):α:=x
abbrev Qkg(x:α:=by exact (Qg rfl rfl Q1 rfl rfl (fun w hw=>Q5Y 5 w))):α:=x
abbrev QkG(x:α:=by rintro w' ⟨x,rfl⟩;exact Calls.up (Q35 _)):α:=x
abbrev Qn8(x:α:=by rw[<- QN hg];exact Qah b.1 (by show z.1.len<=1048576;omega)):α:=x
abbrev Q1S(x:α:=by exact (ha.eval hc)):α:=x
abbrev QeN(x:α:=by exact (QA.sel [4,2] Q1 rfl)):α:=x
abbrev Qag(x:α:=by exact (6,.int .i64 (t:Int))):α:=x
abbrev QlN(x:α:=by obtain⟨b',o'',e',hlt,_⟩:=hl.p.2 h0;rw[h] at e';cases e';exact hlt):α:=x
abbrev Qlb(x:α:=by exact ⟨by rw[HS.out,HQ.out];simp,X2 (JS _ _) HB2.out⟩):α:=x
abbrev QjQ(x:α:=by exact (QuD Tryz.underlying4 rfl rfl Q1 rfl rfl rfl rfl)):α:=x
abbrev Qmy(x:α:=by simp only[execOp,ho,ha.eval hx,Sem.run_bind,h,Result.andThen_ok];rfl):α:=x
abbrev QoS(x:α:=by rw[<- HC.out];simp [Xm,hk1,hk7,hk8,h1,h2,h3,h4,h6,h7,h8,h10,h11]):α:=x
abbrev QnH(x:α:=by exact ⟨by rw[Qjz HX.out HP.out HF.out];rfl,HB2.out⟩):α:=x
abbrev Qey(x:α:=by rw[hd];exact ha.put _ hN):α:=x
abbrev Qfn(x:α:=by subst hb;simp [execOp,ho,hx,hy,go_sem]):α:=x
abbrev QjN(x:α:=by exact ⟨y.Ab,y.nb,y.cb,y.An,y.nn,y.cn,y.Ap,y.np,y.cp,y.L⟩):α:=x
abbrev Qao(x:α:=by exact ⟨_,_,_,_,_,he,h⟩):α:=x
abbrev Q9K(x:α:=by exact fun _=>by kernel_rfl):α:=x
abbrev Qmi(x:α:=by exact Ky HB2.out (.cells #[.int .i64 c,.int .i64 ix] 32)):α:=x
abbrev Qfz(x:α:=by exact (heap_alloc_new _ _)):α:=x
abbrev Qaj(x:α:=by exact (fun _ hw=>hw.tl.tl)):α:=x
abbrev Qbe(x:α:=by exact (decide_eq_false hb)):α:=x
abbrev QaO(x:α:=by exact (Nat.lt_succ_self n)):α:=x
abbrev Qfv(x:α:=by exact (.cons rfl rfl .nil)):α:=x
abbrev Qm2(x:α:=by exact ⟨Ab,cb,An,cn,Ap,cp,rfl,rfl,rfl,h1,h2,h3,h4,h5,h6⟩):α:=x
abbrev Q6d(x:α:=by exact [ZU,Q8k]):α:=x
abbrev Qmj(x:α:=by exact [(0,.agg (Q5u i).toArray),(1,.agg (Q5u j).toArray)]):α:=x
abbrev Q71(x:α:=by exact Int.le_refl _):α:=x
abbrev Qk6(x:α:=by exact HF1.out.alloc (.cells #[.int .i64 c,.int .i64 ix] 32)):α:=x
abbrev Qlh(x:α:=by exact (QjU rfl rfl rfl (fun w hw=>hw.cell_rd 0 rfl hkw))):α:=x
abbrev QfQ(x:α:=by exact (show ¬(2:Int)=3 by decide)):α:=x
abbrev QjY(x:α:=by exact (Jd (j:=n) rfl rfl Q1 rfl rfl rfl Q3)):α:=x
abbrev QjG(x:α:=by rw[<- HC.out];simp [Xm,hk1,hk7,hk8,h1,h2,h3,h4,h6,h9,h10,h11]):α:=x
abbrev QjW(x:α:=by rw[<- HC.out];simp [Xm,hk1,hk7,hk8,h1,h2,h3,h4,h5,h6,h10,h11]):α:=x
abbrev Qko(x:α:=by exact (Xg _ _ _ rfl rfl rfl (fun w hw=>QuB 5 6 hw))):α:=x
abbrev Qnp(x:α:=by exact (QuR hr Q3 Q1 rfl rfl Q1 rfl rfl rfl)):α:=x
abbrev Qme(x:α:=by exact (QkN hq Q3 Q1 rfl rfl Q1 rfl rfl rfl)):α:=x
abbrev QkW(x:α:=by exact (fun k hk=>Xv hv.toUsd f Qnw)):α:=x
abbrev QaC(x:α:=by exact (fun _=>.inr QoW)):α:=x
abbrev Q9L(x:α:=by exact (Q3k hv f)):α:=x
abbrev QaE(x:α:=by exact (decide_eq_true hb)):α:=x
abbrev Qec(x:α:=by simpa using h1):α:=x
abbrev QoB(x:α:=by simp [results,Tryz.results101,go_sem,r0,r1,z4]):α:=x
abbrev QaS(x:α:=by exact (XC (YK F k))):α:=x
abbrev Qfh(x:α:=by exact (Nat.mul_le_mul_right _ h2)):α:=x
abbrev Q1Z(x:α:=by go_ret;exact Qdg):α:=x
abbrev QmU(x:α:=by exact (RsV.cell1 rfl (fun w hw=>hw.cell_blkL 5 rfl rfl))):α:=x
abbrev Qlf(x:α:=by simp [execOp,ho,ha.eval hx,ha.eval hy,QeD h1 hcell hfr]):α:=x
abbrev QjA(x:α:=by rw[<- HC.out];simp [Xm,hk1,hk7,hk8,h1,h2,h3,h4,h6,h10,h11]):α:=x
abbrev Qp6(x:α:=by rw[hrun] at hre;injection hre with e1 e2;rw[e1] at hb;exact hb):α:=x
section
variable{p q:Prop}(hq:q)
include hq
theorem mc7(h:Hq q->p:=by intro h0';(repeat(first|refine Q4 zA ?_|refine Qd ?_|refine Qa ?_|refine Q6 ?_|refine QB ?_|refine Qk ?_|refine Qs ?_));exact h0'.o):p:=h ⟨hq⟩
theorem mc9(h:Hq q->p:=by intro h0';refine Qe zS ?_;refine Qe zS ?_;refine Qe zS ?_;refine Qe zS ?_;refine Qe zS ?_;exact h0'.o):p:=h ⟨hq⟩
theorem VU(h:Hq q->p:=by intro h0';simp only[List.append_eq,List.cons_append,List.nil_append,List.take_succ_cons,List.take_zero];exact h0'.o):p:=h ⟨hq⟩
theorem Qut(h:Hq q->p:=by intro h0';refine yW 0 ?_;refine yl<|yn<|yq<|yq<|yr<|yo zM<|yo (zD 0)<|yo (zD 1) ?_;refine Q4 (Qg rfl rfl Q1 rfl rfl (fun w hw=>HFC.out w (H.out.nextW hw 2 3 rfl rfl) (HRU.out.below (H.out.below hw.k)) (HVAL.out.below (H.out.below hw.k) (Nat.le_refl _)))) ?_;exact h0'.o):p:=h ⟨hq⟩
theorem Q2Z(h:Hq q->p:=by intro h0';refine yo zO<|yl<|yn<|y0<|ys<|yn<|yq<|yq<|yr<|yo (zD 0) ?_;refine Q4 (Qg (f:=72) rfl rfl Q1 rfl rfl (fun w hw=>HU2.out w)) ?_;exact h0'.o):p:=h ⟨hq⟩
theorem Qnz(h:Hq q->p:=by intro h0';(repeat(first|((with_reducible show sE _ _ _ _ _ _ _ _);first|refine Qa ?_|refine Q6 ?_|refine Qt ?_|refine Q7 rfl ?_)|((with_reducible show xE _ _ _ _ _ _ _);refine Qj ?_)));exact h0'.o):p:=h ⟨hq⟩
theorem Q33(h:Hq q->p:=by intro h0';refine yq<|yq<|yr<|yo zM<|yo zF<|yo (zB 1)<|yo zL<|yo zlt<|yl<|yn<|y1<|ys<|yn<|yq<|yb<|yq<|yr<|yo zF<|yo (zB 1)<|yo zM<|yo zi<|yo zE ?_;exact h0'.o):p:=h ⟨hq⟩
theorem Q2u(h:Hq q->p:=by intro h0';refine yq<|yq<|yr<|yo zM<|yo zM<|yo zlf<|yl<|yn<|y0<|ye<|yn<|yq<|yq<|yr<|yo zF<|yo (zB 0) ?_;exact h0'.o):p:=h ⟨hq⟩
theorem Q2I(h:Hq q->p:=by intro h0';(repeat(first|((with_reducible show sE _ _ _ _ _ _ _ _);first|refine Qa ?_|refine Q6 ?_)));exact h0'.o):p:=h ⟨hq⟩
theorem Qq8(h:Hq q->p:=by intro h0';refine yW 0 ?_;refine yl<|yn<|yq<|yr<|yo zA<|yl<|yn<|yq<|yq<|yr<|yo zF<|yo (zB 0)<|yl<|yn<|yb<|yq<|yr<|yo zef<|yo zA<|yl<|yn<|y0<|yq<|yq<|yr<|yo zef<|yo zA<|yl<|yn<|y0<|yr<|yo zef<|yo zA<|yl<|yn<|y0<|yq<|yr<|yo zef<|yo zA<|yl<|yn<|y0<|yq<|yq<|yr<|yo zef<|yo zA<|yl<|yn<|y0<|yr<|yo zef<|yo zA<|yl<|yn<|y0<|yq<|yr<|yo zet<|yo zA<|yl<|yn<|y1<|yq<|yr<|yo zF<|yo (zB 2)<|yo zF<|yo (zB 0) ?_;refine Q4 (Qz rfl rfl Q1 rfl rfl rfl Q3) ?_;refine yo zE ?_;exact h0'.o):p:=h ⟨hq⟩
theorem Qqd(h:Hq q->p:=by intro h0';refine yo zA<|yl<|yn<|yq<|yq<|yr<|yo zF<|yo (zB 0)<|yo zef<|yl<|yn<|y0<|ys<|yn<|yq<|yq<|yr<|yo zF<|yo (zB 0)<|yo zef<|yo zM<|yo zS<|yo zS<|yo zN<|yl<|yn<|y0<|ys<|yn<|yq<|yq<|yr<|yo zF<|yo (zB 0)<|yo zef<|yl<|yn<|y0<|ys<|yn<|yq<|yq<|yr<|yo zF<|yo (zB 0)<|yo zef<|yl<|yn<|y0<|ys<|yn<|yq<|yq<|yr<|yo zF<|yo (zB 0)<|yo zef<|yl<|yn<|y0<|ys<|yn<|yq<|yq<|yr<|yo zF<|yo (zB 0)<|yo zef<|yl<|yn<|y0<|ys<|yn<|yq<|yr<|yo zF<|yo (zB 0)<|yo zef<|yo zA<|yl<|yn<|yt ?_;exact h0'.o):p:=h ⟨hq⟩
theorem QnB(h:Hq q->p:=by intro h0';(repeat(first|((with_reducible show sE _ _ _ _ _ _ _ _);first|refine Qa ?_|refine Q6 ?_)|((with_reducible show xE _ _ _ _ _ _ _);refine Qj ?_)));exact h0'.o):p:=h ⟨hq⟩
theorem Qpt(h:Hq q->p:=by intro h0';refine yo zA<|yl<|yn<|yq<|yq<|yr<|yo zF<|yo (zB 0)<|yo zef<|yl<|yn<|y0<|ys<|yn<|yq<|yq<|yr<|yo zF<|yo (zB 0)<|yo zet<|yo zM<|yo zF<|yo (zB 0)<|yo zY<|yl<|yn<|y1<|yq<|yr<|yo zF<|yo (zB 0)<|yo zQ ?_;exact h0'.o):p:=h ⟨hq⟩
theorem QiW(h:Hq q->p:=by intro h0';refine Q4 (Qg rfl rfl Q1 rfl rfl (fun w hw=>Q8R _ w)) ?_;refine yo zX<|yo zX<|yo zX ?_;exact h0'.o):p:=h ⟨hq⟩
theorem Qwk(h:Hq q->p:=by intro h0';refine Q2u ?_;refine Q4 (Qg (f:=71) rfl rfl Q1 rfl rfl (fun w hw=>(QY 8 1 10 w).mono (fun _ _ h=>by rw[H3.out] at h;exact h))) ?_;refine Q2Z ?_;refine yl<|yn<|y0<|ys<|yn<|yq<|yq<|yr<|yo zF<|yo (zB 0)<|yo zef<|yo zM<|yo zS<|yo zS<|yo zS<|yo zS<|yo zN<|yl<|yn<|y0<|ys<|yn<|yq<|yq<|yr<|yo zF<|yo (zB 0)<|yo zef<|yo zM<|yo zS<|yo zS<|yo zS<|yo zS<|yo zN<|yl<|yn<|y0<|ys<|yn<|yq<|yq<|yr<|yo zF<|yo (zB 0)<|yo zef<|yo zM<|yo zS<|yo zS<|yo zS<|yo zS<|yo zS<|yo zS<|yo zS<|yo zN<|yl<|yn<|y0<|ys<|yn<|yq<|yq<|yr<|yo zF<|yo (zB 0)<|yo zef<|yo zM<|yo zS<|yo zS<|yo zS<|yo zS<|yo zN<|yo zM<|yo zF<|yo (zB 0)<|yo zea<|yo zM<|yo zF<|yo (zB 0)<|yo zL ?_;refine Q4 (KR rfl rfl Q1 rfl rfl rfl QS) ?_;exact h0'.o):p:=h ⟨hq⟩
theorem QnO(h:Hq q->p:=by intro h0';refine yl<|yn<|yq<|yr<|yo (zB 1) ?_;refine Q4 mc5 ?_;refine yo zF<|yo zF<|yo (zB 2)<|yo zM ?_;refine Q4 (Qz rfl rfl Q1 rfl rfl rfl hkn) ?_;refine Q4 (X7 rfl rfl Q1 rfl rfl (fun w hw=>hw.range_old hrg (by simpa using hbg)) rfl) ?_;exact h0'.o):p:=h ⟨hq⟩
theorem QvF(h:Hq q->p:=by intro h0';refine yn<|y0<|ys<|yn<|yq<|yr<|yo zM ?_;refine Q4 mc5 ?_;refine yo zF<|yo (zB 2)<|yo zP ?_;refine Q4 mc5 ?_;refine yo zF ?_;refine yS 2 ?_;exact h0'.o):p:=h ⟨hq⟩
theorem Qnq(h:Hq q->p:=by intro h0';(refine VU ?_;repeat(first|refine XR rfl rfl Q1 rfl rfl ?_|refine XA rfl Q1 rfl Q1 rfl rfl ?_|refine Xj HV rfl rfl Q1 rfl rfl rfl ?_|refine Jl rfl rfl Q1 rfl rfl rfl QS ?_|refine QR rfl rfl Q1 rfl rfl rfl ?_|refine Q08 rfl Q1 rfl ?_));exact h0'.o):p:=h ⟨hq⟩
theorem Q3Y(h:Hq q->p:=by intro h0';refine Q4 zA ?_;refine Qd ?_;exact h0'.o):p:=h ⟨hq⟩
theorem Q2v(h:Hq q->p:=by intro h0';refine Qe zF ?_;refine Qe (zB 0) ?_;exact h0'.o):p:=h ⟨hq⟩
theorem Qud(h:Hq q->p:=by intro h0';refine yq<|yb<|yq<|yr<|yo zM ?_;refine Q4 Q2p ?_;refine yo zF<|yo (zB 0)<|yo zea<|yo zM<|yo zS<|yo zS<|yo zS<|yo zS<|yo zS<|yo zS<|yo zN<|yo zA<|yl<|yn<|y0<|yq<|yq<|yr<|yo zM<|yo zO<|yo zA<|yl<|yn<|y0<|yq<|yr<|yo zM ?_;refine Q4 mc5 ?_;exact h0'.o):p:=h ⟨hq⟩
theorem Kn(h:Hq q->p:=by intro h0';refine yo zA<|yl<|yn<|yr<|yo zM<|yo zP<|yo zA<|yl ?_;exact h0'.o):p:=h ⟨hq⟩
theorem JK(h:Hq q->p:=by intro h0';rw[Q24 (by dsimp only;omega) (by dsimp only;omega)];exact h0'.o):p:=h ⟨hq⟩
theorem Q6W(h:Hq q->p:=by intro h0';(refine VU ?_;repeat(first|refine XR rfl rfl Q1 rfl rfl ?_|refine X9 rfl rfl Q1 rfl rfl rfl ?_|refine Q08 rfl Q1 rfl ?_));exact h0'.o):p:=h ⟨hq⟩
theorem Y7(h:Hq q->p:=by intro h0';refine Qe zM ?_;refine Qe zM ?_;exact h0'.o):p:=h ⟨hq⟩
theorem QjO(h:Hq q->p:=by intro h0';refine yn<|yb<|yq<|yr<|yo zef<|yo zA<|yl<|yn<|y0<|yq<|yq<|yr<|yo zef<|yo zA<|yl<|yn<|y0<|yr<|yo zef<|yo zA<|yl<|yn<|y0<|yq<|yr<|yo zef<|yo zA<|yl<|yn<|y0<|yq<|yr<|yo zet<|yo zA<|yl<|yn<|y1<|yq<|yr<|yo zF<|yo (zB 2)<|yo zF<|yo (zB 0) ?_;refine Q4 (Qz rfl rfl Q1 rfl rfl rfl hcn2) ?_;refine Q4 (X7 rfl rfl Q1 rfl rfl (fun w hw=>hw.range_old HRG.out Qm) rfl) ?_;refine yo zM<|yo zM ?_;exact h0'.o):p:=h ⟨hq⟩
theorem Qoj(h:Hq q->p:=by intro h0';refine yn<|yq<|yq<|yr<|yo zF<|yo (zB 1)<|yo zF<|yo (zB 0)<|yo znf<|yo zM<|yo zF<|yo (zB 1)<|yo zF<|yo (zB 0)<|yo znf<|yo zN<|yo zM<|yo zF<|yo (zB 1)<|yo zF<|yo (zB 0) ?_;refine Q4 (Qg rfl rfl Q1 rfl rfl (fun w hw=>hby w hw)) ?_;refine yo zO<|yo zN<|yo zM<|yo zF<|yo (zB 1)<|yo zF<|yo (zB 0) ?_;refine Q4 (Qg rfl rfl Q1 rfl rfl (fun w hw=>hst w hw)) ?_;exact h0'.o):p:=h ⟨hq⟩
theorem Q56(h:Hq q->p:=by intro h0';refine Qe zM ?_;refine Qe mc5 ?_;refine Qe zF ?_;exact h0'.o):p:=h ⟨hq⟩
theorem Qbr(h:Hq q->p:=by intro h0';(repeat(first|((with_reducible show sE _ _ _ _ _ _ _ _);first|refine Qa ?_|refine Q6 ?_|refine Q9 rfl ?_)|((with_reducible show xE _ _ _ _ _ _ _);refine Qj ?_)));exact h0'.o):p:=h ⟨hq⟩
theorem Qi7(h:Hq q->p:=by intro h0';refine yq<|yq<|yr<|yo zM ?_;refine Q4 (Qg rfl rfl Q1 rfl rfl (fun w hw=>(QY _ _ _ w).mono (fun _ _ h=>by rw[hin] at h;exact h))) ?_;exact h0'.o):p:=h ⟨hq⟩
theorem Qgz(h:Hq q->p:=by intro h0';(repeat(first|refine Q4 zM ?_|refine Qd ?_|refine Qa ?_|refine Q6 ?_|refine Q7 rfl ?_|refine XK ?_|refine Q4 (KR rfl rfl Q1 rfl rfl rfl (by first|exact decide_eq_false Q3|rfl)) ?_|refine Q4 zP ?_));exact h0'.o):p:=h ⟨hq⟩
theorem QrZ(h:Hq q->p:=by intro h0';refine yn<|yb<|yq<|yr<|yo zef<|yo zA<|yl<|yn<|y0<|yq<|yq<|yr<|yo zef<|yo zA<|yl<|yn<|y0<|yr<|yo zef<|yo zA<|yl<|yn<|y0<|yq<|yr<|yo zef<|yo zA<|yl<|yn<|y0<|yq<|yr<|yo zef<|yo zA<|yl<|yn<|y0<|yq<|yr<|yo zef<|yo zA<|yl<|yn<|y0<|yq<|yr<|yo zef<|yo zA<|yl<|yn<|y0<|yq<|yr<|yo zef<|yo zA<|yl<|yn<|y0<|yq<|yr<|yo zet<|yo zA<|yl<|yn<|y1<|yq<|yr<|yo (zB 2) ?_;exact h0'.o):p:=h ⟨hq⟩
theorem QgS(h:Hq q->p:=by intro h0';refine yn<|yq<|yr<|yo (zD 0) ?_;refine Q4 mc6 ?_;refine Q4 (Qe6 rfl rfl Q1 rfl rfl rfl hne) ?_;exact h0'.o):p:=h ⟨hq⟩
theorem Q3e(h:Hq q->p:=by intro h0';simp only[List.append_eq,List.cons_append,List.nil_append,List.drop_succ_cons,List.drop_zero];exact h0'.o):p:=h ⟨hq⟩
theorem Qgb(h:Hq q->p:=by intro h0';(repeat(first|((with_reducible show sE _ _ _ _ _ _ _ _);first|refine Qa ?_|refine Q6 ?_|refine Qt ?_|refine Q9 rfl ?_|refine Qh ?_)|((with_reducible show xE _ _ _ _ _ _ _);refine Qj ?_)));exact h0'.o):p:=h ⟨hq⟩
theorem Qhr(h:Hq q->p:=by intro h0';refine wpS_of_wp ?_;simp only[Array.replicate_succ,Array.replicate_zero,List.push_toArray,List.append_toArray,List.nil_append,List.cons_append,List.setIfInBounds_toArray,List.set_cons_zero,List.set_cons_succ];exact h0'.o):p:=h ⟨hq⟩
theorem Q8B(h:Hq q->p:=by intro h0';refine Qe zF ?_;refine Qe (zB 1) ?_;exact h0'.o):p:=h ⟨hq⟩
theorem QdW(h:Hq q->p:=by intro h0';refine yo zF<|yo (zB 0) ?_;refine Q4 (YN rfl rfl Q1 rfl rfl rfl (by first|assumption|exact beq_eq_false_iff_ne.2 Q3)) ?_;refine yo zM ?_;exact h0'.o):p:=h ⟨hq⟩
theorem Qn9(h:Hq q->p:=by intro h0';refine Q4 (Qz rfl rfl Q1 rfl rfl rfl hkn) ?_;refine Q4 (X7 rfl rfl Q1 rfl rfl (fun w hw=>hw.range_old hrg Qm) rfl) ?_;exact h0'.o):p:=h ⟨hq⟩
theorem QnA(h:Hq q->p:=by intro h0';refine yl<|yn<|yq<|yr<|yo zM ?_;refine Q4 mc5 ?_;refine yo zF<|yo zF<|yo (zB 1)<|yo zM ?_;refine Q4 (Qz rfl rfl Q1 rfl rfl rfl hkn) ?_;refine Q4 (X7 rfl rfl Q1 rfl rfl (fun w hw=>hw.range_old hrg hbM) rfl) ?_;exact h0'.o):p:=h ⟨hq⟩
theorem Qbw(h:Hq q->p:=by intro h0';rw[Bool.not_eq_true',Bool.and_eq_false_iff,beq_eq_false_iff_ne,beq_eq_false_iff_ne];exact h0'.o):p:=h ⟨hq⟩
theorem QrR(h:Hq q->p:=by intro h0';refine yb<|yq<|yr ?_;refine Q4 (X8 (v:=.bool false) rfl Q1 rfl (fun ρ w ha _=>by have h5:=ha.eval (x:=.tmp 5) rfl;have hc:ρ (.const .nilIface)=.nilIface:=ha.eval rfl;simp [execOp,h5,hc,heq,eqGuard,go_sem])) ?_;refine yl<|yn<|y0<|yq<|yr ?_;refine Q4 (X8 (v:=.tuple #[.agg #[.int .i64 c,.int .i64 x],.bool true]) rfl Q1 rfl (fun ρ w ha _=>by have h5:=ha.eval (x:=.tmp 5) rfl;simp [execOp,h5,hta,Sem.run_bind,go_sem])) ?_;refine yo zX<|yo zX<|yl<|yn<|y1<|yq<|yr ?_;exact h0'.o):p:=h ⟨hq⟩
theorem Q4o(h:Hq q->p:=by intro h0';refine Qe zA ?_;refine Z3 ?_;exact h0'.o):p:=h ⟨hq⟩
theorem QqZ(h:Hq q->p:=by intro h0';refine yo zF<|yo (zB 0) ?_;refine Q4 (Qg (f:=79) rfl rfl Q1 rfl rfl (fun w hw=>Jr Q3 w)) ?_;exact h0'.o):p:=h ⟨hq⟩
theorem QmY(h:Hq q->p:=by intro h0';(repeat(first|refine Q4 zM ?_|refine Q4 zF ?_|refine Q4 (zB 1) ?_|refine Qd ?_|refine Qa ?_|refine Q6 ?_|refine Q7 rfl ?_|refine XK ?_|refine Qh ?_|refine Q4 zL ?_|refine Q4 zlf ?_));exact h0'.o):p:=h ⟨hq⟩
theorem QqU(h:Hq q->p:=by intro h0';(refine VU ?_;repeat(first|refine XR rfl rfl Q1 rfl rfl ?_|refine XA rfl Q1 rfl Q1 rfl rfl ?_|refine Xj HV rfl rfl Q1 rfl rfl rfl ?_|refine KY HV rfl rfl Q1 rfl rfl rfl ?_|refine Q70 rfl Tryz.underlying27 rfl Q1 rfl rfl ?_|refine Jl rfl rfl Q1 rfl rfl rfl QS ?_|refine QR rfl rfl Q1 rfl rfl rfl ?_|refine X9 rfl rfl Q1 rfl rfl rfl ?_));exact h0'.o):p:=h ⟨hq⟩
theorem Qnc(h:Hq q->p:=by intro h0';refine yq<|yq<|yr<|yo zM<|yo zF<|yo (zB 0)<|yo zL<|yo zlt<|yl<|yn<|y1<|ys<|yn<|yq<|yb<|yq<|Xb Q5 Q5 ?_;exact h0'.o):p:=h ⟨hq⟩
theorem QkC(h:Hq q->p:=by intro h0';refine yq<|yr<|yo zlt<|yl<|yn<|yq<|y1<|ys<|yn<|yq<|yb<|yq<|yr<|yo zi1 ?_;refine Q4 (XJ rfl rfl Q1 rfl rfl (fun w hw=>hw.cell_old hcell (by simpa using hqg))) ?_;refine yo zA<|yl<|yn<|yq<|yq<|yr<|yo zM ?_;exact h0'.o):p:=h ⟨hq⟩
theorem Qst(h:Hq q->p:=by intro h0';refine yW 0 ?_;refine yo zA<|yo zA<|yl<|yn<|yq<|yq<|yr<|yo zM<|yo zhf<|yl<|yn<|y0<|ys<|yn<|yq<|yq<|yr<|yo zM<|yo zM<|yo zL<|yo zna<|yl<|yn<|y0<|ys<|yn<|yq<|yq<|yr<|yo (zD 0) ?_;refine Q4 (Qg rfl rfl Q1 rfl rfl (fun w hw=>(Q4c (HY2.out.vin fun x hx=>hw.onAll x (by simp [faG,hx])) HSZ.out).mono (fun _ _ h=>by rw[HVF.out] at h;exact h))) ?_;refine Q4 (Qm3 rfl rfl Q1 rfl rfl) ?_;exact h0'.o):p:=h ⟨hq⟩
theorem QsM(h:Hq q->p:=by intro h0';refine yW 0 ?_;refine yl<|yn<|yq<|yr<|yo zA<|yl<|yn<|yq<|yq<|yr<|yo zF<|yo (zB 0)<|yl<|yn<|yb<|yq<|yr<|yo zef<|yo zA<|yl<|yn<|y0<|yq<|yq<|yr<|yo zef<|yo zA<|yl<|yn<|y0<|yr<|yo zef<|yo zA<|yl<|yn<|y0<|yq<|yr<|yo zef<|yo zA<|yl<|yn<|y0<|yq<|yq<|yr<|yo zef<|yo zA<|yl<|yn<|y0<|yr<|yo zef<|yo zA<|yl<|yn<|y0<|yq<|yr<|yo zef<|yo zA<|yl<|yn<|y0<|yq<|yr<|yo zet<|yo zA<|yl<|yn<|y1<|yq<|yr<|yo zM<|yo zF<|yo (zB 0) ?_;exact h0'.o):p:=h ⟨hq⟩
theorem QhY(h:Hq q->p:=by intro h0';refine yq<|yq<|yr<|yo zM<|yo zF<|yo (zB 0)<|yo zL<|yo zlt<|yl<|yn<|y1<|ys<|yn<|yq<|yb<|yq<|yr<|yo zM<|yo zF<|yo (zB 0)<|yo zM<|yo zi1<|yo zC ?_;exact h0'.o):p:=h ⟨hq⟩
theorem QqA(h:Hq q->p:=by intro h0';(refine VU ?_;repeat(first|refine XR rfl rfl Q1 rfl rfl ?_|refine XA rfl Q1 rfl Q1 rfl rfl ?_|refine Xj HV rfl rfl Q1 rfl rfl rfl ?_|refine Q0L HV rfl rfl Q1 rfl rfl rfl ?_|refine Jl rfl rfl Q1 rfl rfl rfl QS ?_|refine QR rfl rfl Q1 rfl rfl rfl ?_|refine X9 rfl rfl Q1 rfl rfl rfl ?_|refine Qka rfl rfl Q1 rfl rfl ?_));exact h0'.o):p:=h ⟨hq⟩
theorem QtS(h:Hq q->p:=by intro h0';refine yq<|yq<|yr<|yo zM<|yo zF<|yo (zB 2)<|yo zL<|yo zlt<|yl<|yn<|y1<|ys<|yn<|yq<|yb<|yq<|yr<|yo zF<|yo (zB 2)<|yo zM<|yo (zi (hj:=hkn))<|yo zE<|yo zM ?_;refine Q4 (Qg (f:=40) rfl rfl Q1 rfl rfl (fun w hw=>(QbA (HLK.out.on hw.k.below) HOK.out (Qps rfl HLEN.out hw (fun a ha=>List.mem_cons_of_mem _ (List.mem_cons_of_mem _ ha)))).mono (fun _ _ h=>by rw[HCF.out] at h;exact h))) ?_;exact h0'.o):p:=h ⟨hq⟩
theorem QsP(h:Hq q->p:=by intro h0';refine yq<|yq<|Xb Q5 Q5 ?_;refine Qe zM ?_;refine Qe (Qg rfl rfl Q1 rfl rfl (fun w hw=>Q34 (H.out.next hw.k hpi (hw.own 1 _ rfl)) HC.out)) ?_;refine Qe Q2p ?_;refine Qe zF ?_;exact h0'.o):p:=h ⟨hq⟩
theorem QrP(h:Hq q->p:=by intro h0';refine yS 0 ?_;refine yl<|yn<|yq<|yr<|yo zF<|yo (zB 1)<|yo zu ?_;refine Q4 (Qg rfl rfl Q1 rfl rfl (fun w hw=>(Q7M (H.out.next hw.k hp (hw.own 4 _ rfl)) (hw.cell_blk 3 rfl rfl) (hw.cell_blkL 0 rfl rfl) ((HRP.out.below (hw.k.belowB H.out.hB H.out.lt)).more (by have:=H.out.hB;have:=H.out.lt;have:=hw.k.size;omega)) Q3 HPT.out).mono (fun e w' h=>by rw[HI.out] at h;exact h))) ?_;exact h0'.o):p:=h ⟨hq⟩
theorem Qsw(h:Hq q->p:=by intro h0';(repeat(first|((with_reducible show sE _ _ _ _ _ _ _ _);first|refine Qa ?_|refine Q6 ?_|refine Q7 rfl ?_|refine XK ?_)|((with_reducible show xE _ _ _ _ _ _ _);refine Qj ?_)));exact h0'.o):p:=h ⟨hq⟩
theorem QoF(h:Hq q->p:=by intro h0';refine yo zM<|yo zX<|yo zX<|yo zX<|yo zA<|yo zA<|yo zA<|yl<|yn<|yq<|yq<|yr<|yo zM<|yo zht<|yl<|yn<|y1<|yq<|yr<|yo zM ?_;refine QiW ?_;refine yW 1 ?_;refine yo zA<|yo zA<|yl<|yn<|yt<|yc<|yk<|yc ?_;exact h0'.o):p:=h ⟨hq⟩
theorem Qcc(h:Hq q->p:=by intro h0';refine Qe zM ?_;refine Qe zF ?_;exact h0'.o):p:=h ⟨hq⟩
theorem KA(h:Hq q->p:=by intro h0';(repeat(first|refine Qd ?_|refine QB ?_));exact h0'.o):p:=h ⟨hq⟩
theorem Qsr(h:Hq q->p:=by intro h0';(refine VU ?_;repeat(first|refine XR rfl rfl Q1 rfl rfl ?_|refine XA rfl Q1 rfl Q1 rfl rfl ?_|refine Xj HV rfl rfl Q1 rfl rfl rfl ?_|refine Q3c HV rfl rfl Q1 rfl rfl rfl ?_|refine Q70 rfl Tryz.underlying25 rfl Q1 rfl rfl ?_|refine Jl rfl rfl Q1 rfl rfl rfl QS ?_|refine X9 rfl rfl Q1 rfl rfl rfl ?_));exact h0'.o):p:=h ⟨hq⟩
theorem QkR(h:Hq q->p:=by intro h0';refine Q4 mc5 ?_;refine yo zF<|yo (zB 1)<|yo zP ?_;refine Q4 mc5 ?_;refine yo zF ?_;refine yS 1 ?_;exact h0'.o):p:=h ⟨hq⟩
theorem Qr8(h:Hq q->p:=by intro h0';refine yn<|yq<|yq<|yr<|yo zM ?_;refine Q4 (Qo5 rfl rfl Q1 rfl rfl) ?_;refine yo zF<|yo (zB 0)<|yo zM<|yo zL<|yo zlf<|yl<|yn<|y0<|ys<|yn<|yq<|yq<|yr<|yo (zD 3) ?_;refine Q4 (Qg rfl rfl Q1 rfl rfl (fun w hw=>(Q4t HSZ.out (HY2.out.vin fun x hx=>hw.onAll x (by simp [hx]))).mono (fun e w' h=>by rw[HVF.out] at h;exact h))) ?_;refine Q4 mc6 ?_;exact h0'.o):p:=h ⟨hq⟩
theorem Qrp(h:Hq q->p:=by intro h0';refine yq<|yq<|yr<|yo zM<|yo zF<|yo (zB 0)<|yo zL<|yo zlt<|yl<|yn<|y1<|ys<|yn<|yq<|yb<|yq<|yq<|yr<|yo zF<|yo (zB 0)<|yo zM<|yo zi1<|yo zC<|yo zsa<|yl<|yn<|y0<|ys<|yn<|yq<|yq<|yr<|yo zF<|yo (zB 0)<|yo zM<|yo zi1<|yo zC ?_;refine Q4 (Qg (f:=70) rfl rfl Q1 rfl rfl (fun w hw=>(Q4s nm hnl w).mono (fun _ _ h=>by rw[H1.out] at h;exact h))) ?_;exact h0'.o):p:=h ⟨hq⟩
theorem Q9d(h:Hq q->p:=by intro h0';refine Z3 ?_;refine yn<|y0<|ys<|yn<|yr<|yo zM<|yo zP<|yo zA<|yl ?_;exact h0'.o):p:=h ⟨hq⟩
theorem Qmf(h:Hq q->p:=by intro h0';refine yq<|yq<|yr<|yo zM<|yo zF<|yo (zB 0)<|yo zL<|yo zlt<|yl<|yn<|y1<|ys<|yn<|yq<|yb<|yq<|yr<|yo zM ?_;refine Q4 (X1 (r:=S10++Q++[32]) rfl rfl rfl Q1 rfl rfl rfl Q02) ?_;exact h0'.o):p:=h ⟨hq⟩
theorem QtA(h:Hq q->p:=by intro h0';refine Q4 (Qw7 (bs:=[dgc m]) rfl rfl Q1 rfl rfl QbG) ?_;refine yo zM ?_;refine Q4 (X1 (a:=[dgc m]) (b:=s) (r:=dgc m::s) rfl rfl rfl Q1 rfl rfl rfl (by simp only[List.length_cons,List.length_nil];omega)) ?_;refine yo zA<|yl<|yn<|yr<|yo zM ?_;refine Q4 (QkN hq Q3 Q1 rfl rfl Q1 rfl rfl rfl) ?_;refine yo zA<|yl<|yd ?_;exact h0'.o):p:=h ⟨hq⟩
theorem QqX(h:Hq q->p:=by intro h0';refine yq<|yq<|yr<|yo zM<|yo zM<|yo zL<|yo zlt<|yl<|yn<|y1<|ys<|yn<|yq<|yb<|yq<|Xb Q5 Q5 ?_;refine Qe zM ?_;exact h0'.o):p:=h ⟨hq⟩
theorem QtX(h:Hq q->p:=by intro h0';refine yo zA<|yl<|yn<|yq<|yq<|yr<|yo zF<|yo (zB 0)<|yo zef<|yl<|yn<|y0<|ys<|yn<|yq<|yq<|yr<|yo zF<|yo (zB 0)<|yo zet<|yo zM<|yo zF<|yo (zB 0)<|yo zY<|yl<|yn<|y0<|ys<|yn<|yq<|yq<|yr<|yo zF<|yo (zB 0)<|yo zet<|yl<|yn<|y1<|yq<|yr<|yo zF<|yo (zB 0)<|yo zF<|yo (zB 0) ?_;refine Q4 (Qfk (n:=256) hm1 Q1 rfl rfl Q1 rfl rfl rfl) ?_;exact h0'.o):p:=h ⟨hq⟩
theorem QsK(h:Hq q->p:=by intro h0';(refine VU ?_;repeat(first|refine XR rfl rfl Q1 rfl rfl ?_|refine XA rfl Q1 rfl Q1 rfl rfl ?_|refine Q0L HV rfl rfl Q1 rfl rfl rfl ?_|refine QR rfl rfl Q1 rfl rfl rfl ?_|refine X9 rfl rfl Q1 rfl rfl rfl ?_|refine Qka rfl rfl Q1 rfl rfl ?_|refine Q08 rfl Q1 rfl ?_));exact h0'.o):p:=h ⟨hq⟩
theorem Qsp(h:Hq q->p:=by intro h0';refine Jz [12] Q5 ?_;refine Qn 0 rfl Q5 Xi (XJ rfl rfl Q1 rfl rfl (by exact fun w hw=>hw.cell_blkL 2 rfl rfl)) ?_;refine Qn 1 rfl Q5 Xi YE ?_;refine Qn 2 rfl Q5 Xi (XJ rfl rfl Q1 rfl rfl (by exact fun w hw=>hw.cell_blkL 2 rfl rfl)) ?_;refine Qn 3 rfl Q5 Xi YE ?_;refine Qn 4 rfl Q5 Xi (Xz rfl rfl Q1 rfl rfl rfl hkn) ?_;refine Qn 5 rfl Q5 Xi (XJ rfl rfl Q1 rfl rfl (fun w hw=>hw.cell_row 3 rfl hcell)) ?_;refine Qn 6 rfl Q5 Xi YE ?_;exact h0'.o):p:=h ⟨hq⟩
theorem Qi0(h:Hq q->p:=by intro h0';(repeat(first|refine Q4 zM ?_|refine Q4 zA ?_|refine Q4 zF ?_|refine Q4 (zB 0) ?_|refine Q4 (Qg (f:=140) rfl rfl Q1 rfl rfl (fun w hw=>(Q5w (HE.out.on hw.k.below) hm).mono (fun _ _ h=>h))) ?_|refine Qd ?_|refine Qa ?_|refine Q6 ?_|refine Q4 zhr ?_));exact h0'.o):p:=h ⟨hq⟩
theorem Qoc(h:Hq q->p:=by intro h0';(repeat(first|refine Q4 zM ?_|refine Q4 zA ?_|refine Q4 zF ?_|refine Q4 (zB 0) ?_|refine Qd ?_|refine Qa ?_|refine Q6 ?_|refine Q7 rfl ?_|refine Q4 zL ?_|refine Q4 Q2P ?_|refine Q4 zgr ?_|refine Q4 zN ?_|refine Q4 zS ?_));exact h0'.o):p:=h ⟨hq⟩
theorem Qtd(h:Hq q->p:=by intro h0';refine yq<|yq<|yr<|yo zM<|yo zM<|yo zL<|yo zlt<|yl<|yn<|y1<|ys<|yn<|yq<|yb<|yq<|yq<|Xb Q5 Q5 ?_;refine Y7 ?_;refine Qe zi1 ?_;refine Qe (zG hcell) ?_;refine Qe Q2p ?_;refine Q2v ?_;refine Qe zea ?_;refine Z3 ?_;exact h0'.o):p:=h ⟨hq⟩
theorem QhT(h:Hq q->p:=by intro h0';(repeat(first|refine Q4 zM ?_|refine Q4 zA ?_|refine Q4 (zD 0) ?_|refine Q4 (Qg (f:=149) rfl rfl Q1 rfl rfl (fun w hw=>Qap (by simpa using h3) hn (HL.out.on hw.k.below).p HS.out.parts)) ?_|refine Qd ?_|refine Qa ?_|refine Q6 ?_|refine Q4 zO ?_));exact h0'.o):p:=h ⟨hq⟩
theorem Qgu(h:Hq q->p:=by intro h0';(repeat(first|refine Q4 zA ?_|refine Q4 zF ?_|refine Q4 (zB 0) ?_|refine Q4 Qp0 ?_|refine Qd ?_|refine Qa ?_|refine Q6 ?_|refine Q4 zO ?_));exact h0'.o):p:=h ⟨hq⟩
theorem QtY(h:Hq q->p:=by intro h0';refine yo zM<|yo zX<|yo zX<|yo zX<|yo zA<|yo zA<|yo zA<|yl<|yn<|yq<|yq<|yr<|yo zM<|yo zhf<|yl<|yn<|y0<|ys<|yn<|yq<|yr<|yo zM ?_;refine Q4 (Xt (xs:=[(0,.const (.int .i64 1)),(1,.tmp 108)]) (vs:=[(0,.int .i64 1),(1,.int .i64 n)]) (v:=.agg #[.int .i64 1,.int .i64 n,.slice none 0 0,.slice none 0 0,.slice none 0 0]) rfl rfl Q1 rfl rfl KW) ?_;refine yo zM ?_;refine yW 1 ?_;refine yo zA<|yo zA<|yl<|yn<|yt<|yk<|yc ?_;exact h0'.o):p:=h ⟨hq⟩
theorem Qu4(h:Hq q->p:=by intro h0';refine Qe (zi1 (hj:=hkn)) ?_;refine Qe (zG hc) ?_;refine Y7 ?_;refine Qe (zi1 (hj:=hkn)) ?_;refine Qe (zG hc2) ?_;refine Qe Qi3 ?_;exact h0'.o):p:=h ⟨hq⟩
theorem Qs3(h:Hq q->p:=by intro h0';refine yq<|yq<|yr<|yo zM<|yo zF<|yo (zB 1)<|yo zL<|yo zlt<|yl<|yn<|y1<|ys<|yn<|yq<|yb<|yq<|Xb Q5 Q5 ?_;refine Qe (zD 1) ?_;refine Q8B ?_;refine Qe zM ?_;refine Qe (zi (hj:=hkn)) ?_;refine Qe zE ?_;refine Qe (Qg (f:=36) rfl rfl Q1 rfl rfl (fun w hw=>(Qas KG (HLK.out.on hw.k.below) HOK.out HSM.out).mono QcQ)) ?_;refine Q4o ?_;exact h0'.o):p:=h ⟨hq⟩
theorem Qlt(h:Hq q->p:=by intro h0';refine Qn 3 rfl Q5 Xi zF ?_;refine Qn 4 rfl Q5 Xi (zB 2) ?_;refine Qn 5 rfl Q5 Xi (Qg (f:=114) rfl rfl Q1 rfl rfl (fun w hw=>Q5L Q05 Q3 Q3)) ?_;exact h0'.o):p:=h ⟨hq⟩
theorem Qoq(h:Hq q->p:=by intro h0';refine Qcc ?_;refine Qe (zB 1) ?_;refine Q2v ?_;refine Qe zM ?_;refine Qe zi1 ?_;refine Qe zC ?_;refine Qe (Qz rfl rfl Q1 rfl rfl rfl Q3) ?_;refine Qe zF ?_;exact h0'.o):p:=h ⟨hq⟩
theorem Qsk(h:Hq q->p:=by intro h0';refine yq<|yq<|yr<|yo zM<|yo zF<|yo (zB 0)<|yo zL<|yo zlt<|yl<|yn<|y1<|ys<|yn<|yq<|yb<|yq<|yq<|yr<|yo zF<|yo (zB 0)<|yo zM<|yo zi1<|yo zC<|yo zsa<|yl<|yn<|y1<|yq<|yq<|Xb Q5 Q5 ?_;refine Q8B ?_;refine Q2v ?_;refine Qe zM ?_;refine Qe zi1 ?_;refine Qe zC ?_;refine Qe (Qz rfl rfl Q1 rfl rfl rfl Q3) ?_;refine Qe zF ?_;exact h0'.o):p:=h ⟨hq⟩
theorem QrD(h:Hq q->p:=by intro h0';refine Q4 (Xt (xs:=[(0,.const (.int .i64 3)),(4,.tmp 386)]) (vs:=[(0,.int .i64 3),(4,.slice (some ⟨bn,0,none⟩) 2 2)]) (v:=.agg #[.int .i64 3,.int .i64 0,.slice none 0 0,.slice none 0 0,.slice (some ⟨bn,0,none⟩) 2 2]) rfl rfl Q1 rfl rfl KW) ?_;refine yo zM ?_;refine yW 3 ?_;refine yo zA<|yo zA<|yl<|yn<|yt<|yk<|yc<|yc<|yk<|yc<|yk<|yc ?_;exact h0'.o):p:=h ⟨hq⟩
theorem QgT(h:Hq q->p:=by intro h0';refine Q4 zM ?_;refine Q4 (Qg rfl rfl Q1 rfl rfl (fun w hw=>Q8R _ w)) ?_;refine Q4 zX ?_;refine Q4 zX ?_;refine Q4 zX ?_;exact h0'.o):p:=h ⟨hq⟩
theorem Q8r(h:Hq q->p:=by intro h0';refine yW 0 ?_;refine yl<|yn<|yq<|yq<|yr<|yo zF<|yo (zB 0)<|yl ?_;exact h0'.o):p:=h ⟨hq⟩
theorem QkD(h:Hq q->p:=by intro h0';refine yq<|yq<|yr<|yo zM<|yo zF<|yo (zB 0)<|yo zL<|yo zlt<|yl<|yn<|y1<|ys<|yn<|yq<|yb<|yq<|yq<|yr<|yo zM<|yo zF<|yo (zB 0)<|yo zM<|yo zi1<|yo zC ?_;refine Q4 Kq ?_;exact h0'.o):p:=h ⟨hq⟩
theorem QgK(h:Hq q->p:=by intro h0';(repeat(first|refine Q4 zA ?_|refine Qd ?_|refine Qa ?_|refine Q6 ?_|refine Qt ?_|refine QB ?_));exact h0'.o):p:=h ⟨hq⟩
theorem Q4k(h:Hq q->p:=by intro h0';rw[Q7s (by dsimp only;omega) (by dsimp only;omega)];exact h0'.o):p:=h ⟨hq⟩
theorem Qi6(h:Hq q->p:=by intro h0';refine yo zA<|yl<|yn<|yq<|yr<|yo zF<|yo (zB 0)<|yo zM ?_;exact h0'.o):p:=h ⟨hq⟩
theorem QgQ(h:Hq q->p:=by intro h0';refine yq<|yq<|yr<|yo zM<|yo zF<|yo (zB 1)<|yo zL<|yo zlt<|yl<|yn<|y1<|ys<|yn<|yq<|yb<|yq<|yr<|yo (zD 1)<|yo zM ?_;exact h0'.o):p:=h ⟨hq⟩
theorem QrI(h:Hq q->p:=by intro h0';(repeat(first|refine Q4 zM ?_|refine Q4 zA ?_|refine Q4 zF ?_|refine Q4 (zB 0) ?_|refine Qd ?_|refine Qa ?_|refine Q6 ?_|refine Q7 rfl ?_|refine Q4 zL ?_|refine Q4 zea ?_|refine Q4 (YM rfl rfl Q1 rfl rfl rfl (by first|assumption|rfl)) ?_|refine Q4 zN ?_|refine Q4 zS ?_));exact h0'.o):p:=h ⟨hq⟩
theorem Qm5(h:Hq q->p:=by intro h0';refine yo zF<|yo (zB 0) ?_;refine Q4 (YN rfl rfl Q1 rfl rfl rfl (by first|exact beq_iff_eq.2 Q3|exact beq_eq_false_iff_ne.2 Q3)) ?_;refine yo zM ?_;exact h0'.o):p:=h ⟨hq⟩
theorem Q6T(h:Hq q->p:=by intro h0';refine Q4 zM ?_;refine Q4 zM ?_;exact h0'.o):p:=h ⟨hq⟩
theorem Q6I(h:Hq q->p:=by intro h0';refine yo zM<|yo zX<|yo zX ?_;exact h0'.o):p:=h ⟨hq⟩
theorem Qri(h:Hq q->p:=by intro h0';refine yq<|yq<|yr<|yo zM<|yo zM<|yo zL<|yo zlt<|yl<|yn<|y1<|ys<|yn<|yq<|yb<|yq<|yr<|yo zM<|yo zM<|yo (zi1 (hj:=hin))<|yo (zK 0 hc2)<|yo zM<|yo zF<|yo (zB 1)<|yo zM<|yo (zi (hj:=hin)) ?_;refine Q4 (X7 rfl rfl Q1 rfl rfl (fun w hw=>hw.range_old hrg2 Qm) (by rfl)) ?_;refine yo zM ?_;exact h0'.o):p:=h ⟨hq⟩
theorem Qsa(h:Hq q->p:=by intro h0';refine yo zA<|yl<|yn<|yq<|yq<|yr<|yo zF<|yo (zB 0)<|yo zef<|yl<|yn<|y0<|ys<|yn<|yq<|yq<|yr<|yo zF<|yo (zB 0)<|yo zef<|yo zM<|yo zS<|yo zS<|yo zN<|yl<|yn<|y0<|ys<|yn<|yq<|yq<|yr<|yo zF<|yo (zB 0)<|yo zef<|yl<|yn<|y0<|ys<|yn<|yq<|yq<|yr<|yo zF<|yo (zB 0)<|yo zet<|yl<|yn<|y1<|yq<|yr<|yo zM ?_;exact h0'.o):p:=h ⟨hq⟩
theorem Qhs(h:Hq q->p:=by intro h0';refine yo zM<|yo zqf<|yo zM<|yo zS<|yo zS<|yo zS<|yo zS<|yo zS<|yo zS<|yo zN<|yo zA<|yl<|yn<|yt<|yc ?_;exact h0'.o):p:=h ⟨hq⟩
theorem QoG(h:Hq q->p:=by intro h0';(repeat(first|refine Q4 Q0n ?_|refine Qd ?_|refine Qa ?_|refine Q6 ?_|refine QB ?_|refine Qk ?_|refine Qs ?_));exact h0'.o):p:=h ⟨hq⟩
theorem QlX(h:Hq q->p:=by intro h0';rw[Nat.zero_add,Nat.mul_one,Q06];refine Q4 (X7 (cs:=QJ _) rfl rfl Q1 rfl rfl (fun w hw=>hw.range_blk 0 rfl) (X3 _)) ?_;exact h0'.o):p:=h ⟨hq⟩
theorem Qr3(h:Hq q->p:=by intro h0';(repeat(first|refine Q4 zM ?_|refine Q4 zA ?_|refine Q4 (Q2S (v:=.bool (st cc)) rfl rfl Q1 rfl rfl rfl hcn (ZF st hcn)) ?_|refine Qd ?_|refine Qa ?_|refine Q6 ?_|refine Qt ?_|refine Q9 rfl ?_|refine Qh ?_|refine Q4 zlt ?_));exact h0'.o):p:=h ⟨hq⟩
theorem QhS(h:Hq q->p:=by intro h0';rw[QE (by rfl)];refine Qn 15 rfl Q5 Q5E zA ?_;refine Qn 16 rfl Q5 Q5E zA ?_;exact h0'.o):p:=h ⟨hq⟩
theorem Qh6(h:Hq q->p:=by intro h0';rw[QE (by rfl)];refine Qn 15 rfl Q5 Q5I zA ?_;refine Qn 16 rfl Q5 Q5I zA ?_;exact h0'.o):p:=h ⟨hq⟩
theorem QrQ(h:Hq q->p:=by intro h0';refine yn<|yq<|yq<|yr<|yo zM<|yo zhf<|yl<|yn<|y0<|ys<|yn<|yq<|yr<|yo zM ?_;refine Q4 (Xt (xs:=[(0,.const (.int .i64 1)),(1,.tmp 383)]) (vs:=[(0,.int .i64 1),(1,.int .i64 (j:Int))]) (v:=.agg (Q3P j).toArray) rfl rfl Q1 rfl rfl KW) ?_;refine yo (zD 0) ?_;exact h0'.o):p:=h ⟨hq⟩
theorem Qhn(h:Hq q->p:=by intro h0';rw[List.getElem?_map,List.getD_eq_getElem?_getD,List.getElem?_eq_getElem h];exact h0'.o):p:=h ⟨hq⟩
theorem QkF(h:Hq q->p:=by intro h0';refine yq<|yq<|yr<|yo zM<|yo zM<|yo zlt<|yl<|yn<|y1<|ys<|yn<|yq<|yb<|yq<|Xb Q5 Q5 ?_;exact h0'.o):p:=h ⟨hq⟩
theorem Q6C(h:Hq q->p:=by intro h0';refine yo zA<|yl<|yn<|yq<|yq<|yr<|yo zA<|yl<|yn<|yb ?_;exact h0'.o):p:=h ⟨hq⟩
theorem Kd(h:Hq q->p:=by intro h0';refine Q4 zef ?_;refine Q3Y ?_;exact h0'.o):p:=h ⟨hq⟩
theorem QbO(h:Hq q->p:=by intro h0';refine Qn 0 rfl Q5 Xi zM ?_;refine Qn 1 rfl Q5 Xi (zD 2) ?_;exact h0'.o):p:=h ⟨hq⟩
theorem QsZ(h:Hq q->p:=by intro h0';refine yq<|yq<|yr<|yo zM<|yo zF<|yo (zB 2)<|yo zL<|yo zlf<|yl<|yn<|y0<|ye<|yn<|yq<|yq<|yr<|yo (zD 2) ?_;refine Q4 (Qg (f:=41) rfl rfl Q1 rfl rfl (fun w hw=>(Q7b KG HF.out hn40 hn0 HNM.out).mono (fun _ _ h=>by rw[HTX.out] at h;exact h))) ?_;exact h0'.o):p:=h ⟨hq⟩
theorem Qi5(h:Hq q->p:=by intro h0';simp only[List.length_append,List.length_cons,List.length_nil];exact h0'.o):p:=h ⟨hq⟩
theorem Qny(h:Hq q->p:=by intro h0';refine bodyPost_ret (v:=.tuple #[.int .i64 0,.agg #[.int .i64 2,.int .i64 (num:Int)]]) (by simp [results,Tryz.results101,go_sem]) rfl ?_;exact h0'.o):p:=h ⟨hq⟩
theorem Qs8(h:Hq q->p:=by intro h0';refine yo zA<|yl<|yn<|yq<|yq<|yr<|yo zF<|yo (zB 0)<|yo zM<|yo (zi (hj:=hk))<|yo zE<|yo zM ?_;refine Q4 (Qg (f:=76) rfl rfl Q1 rfl rfl (fun w hw=>(Yw (HLK.out.on hw.k.below) HOK.out hb).mono (fun _ _ h=>by rw[hv] at h;exact h))) ?_;exact h0'.o):p:=h ⟨hq⟩
theorem QsQ(h:Hq q->p:=by intro h0';refine Q4 zF ?_;refine Q4 (zB 2) ?_;refine Q4 zF ?_;refine Q4 (zB 0) ?_;refine Q4 (Qz rfl rfl Q1 rfl rfl rfl hcn2) ?_;refine Q4 (X7 rfl rfl Q1 rfl rfl (fun w hw=>hw.range_old HRG.out Qm) rfl) ?_;refine Q4 zM ?_;exact h0'.o):p:=h ⟨hq⟩
theorem QrV(h:Hq q->p:=by intro h0';refine yq<|yq<|yr<|yo zM<|yo zF<|yo (zB 0)<|yo zlf<|yl<|yn<|y0<|ye<|yn<|yq<|yq<|yr<|yo zM<|yo zF<|yo (zB 0)<|yo zF<|yo (zB 0) ?_;refine Q4 (Qg rfl rfl Q1 rfl rfl (fun w hw=>(QY _ _ _ w).mono (fun _ _ h=>by rw[hib] at h;exact h))) ?_;exact h0'.o):p:=h ⟨hq⟩
theorem Qsy(h:Hq q->p:=by intro h0';refine yq<|yq<|Xb Q5 Q5 ?_;refine Qe (zB 3) ?_;refine Qe (Qg rfl rfl Q1 rfl rfl (fun w hw=>Q34 (H.out.next hw.k hq (hw.own 4 _ rfl)) HC.out)) ?_;refine Qe Q2p ?_;refine Q8B ?_;refine Qe zna ?_;refine Z3 ?_;exact h0'.o):p:=h ⟨hq⟩
theorem Qso(h:Hq q->p:=by intro h0';refine yq<|yq<|yr<|yo zM<|yo zlt<|yl<|yn<|y1<|ys<|yn<|yq<|yb<|yq<|yq<|yr<|yo zF<|yo (zB 0)<|yo zet<|yo zM<|yo zM<|yo zF<|yo (zB 0)<|yo zet<|yo zY<|yo zM<|yo zM<|yo zF<|yo (zB 0) ?_;refine Q4 (J7 rfl rfl Q1 rfl rfl rfl he) ?_;exact h0'.o):p:=h ⟨hq⟩
theorem QlH(h:Hq q->p:=by intro h0';refine yW 0 ?_;refine yl<|yn<|yq<|yr<|yo zM<|yo zF<|yo (zB 1) ?_;refine Q4 Kq ?_;refine yo zC<|yo zht<|yo zM<|yo (zD 0) ?_;exact h0'.o):p:=h ⟨hq⟩
theorem Qlx(h:Hq q->p:=by intro h0';refine Q4 (Qg rfl rfl Q1 rfl rfl (fun w hw=>QeO _ _ w)) ?_;refine yW 2 ?_;refine yW 1 ?_;refine yl<|yn<|yt<|yc ?_;exact h0'.o):p:=h ⟨hq⟩
theorem Q1u(h:Hq q->p:=by intro h0';refine Qd2 _ Q5 Q5 ?_;exact h0'.o):p:=h ⟨hq⟩
theorem Qt9(h:Hq q->p:=by intro h0';refine Qe (Q7l (k:=.i64) rfl rfl Q1 rfl rfl rfl hw3) ?_;refine Qe (zi1 (hj:=hlt)) ?_;refine Qe (zG hcell) ?_;refine Q2v ?_;refine Qe zM ?_;refine Qe (zi1 (hj:=hin)) ?_;refine Qe (zG hcellb) ?_;refine Qe zna ?_;exact h0'.o):p:=h ⟨hq⟩
theorem QkO(h:Hq q->p:=by intro h0';(repeat(first|refine Q4 zM ?_|refine Qd ?_|refine Q6 ?_|refine Q4 zP ?_));exact h0'.o):p:=h ⟨hq⟩
theorem Qsq(h:Hq q->p:=by intro h0';refine yq<|yq<|yr<|yo zM<|yo zF<|yo (zB 0)<|yo zL<|yo zlt<|yl<|yn<|y1<|ys<|yn<|yq<|yb<|yq<|yr<|yo zM<|yo zF<|yo (zB 0)<|yo zM<|yo (zi1 (hj:=hjl))<|yo (zG hcx) ?_;refine Q4 (J7 rfl rfl Q1 rfl rfl rfl hxn) ?_;exact h0'.o):p:=h ⟨hq⟩
theorem Qt5(h:Hq q->p:=by intro h0';refine ih (listed.setIfInBounds j true) (a.put oj.dst u) G (hcl.set hj) hG hGC hfree' (ready_mono hr (Ne.symm hji)) (hy.put (fun cs b=>hsel i oi cs b hi) a3) ?_;rw[Array.setIfInBounds_comm _ _ hji,<- Act.put_comm a v u a2];exact h0'.o):p:=h ⟨hq⟩
theorem Q4f(h:Hq q->p:=by intro h0';refine yW 0 ?_;refine yl ?_;exact h0'.o):p:=h ⟨hq⟩
theorem KD(h:Hq q->p:=by intro h0';refine Q4 zA ?_;refine Q4 zA ?_;refine Qd ?_;exact h0'.o):p:=h ⟨hq⟩
theorem Qlr(h:Hq q->p:=by intro h0';refine yn<|yq<|yq<|yr<|yo zM<|yo zht<|yl<|yn<|y1<|yq<|yr<|yo zM ?_;refine QiW ?_;exact h0'.o):p:=h ⟨hq⟩
theorem QkX(h:Hq q->p:=by intro h0';refine Z3 ?_;refine yn<|y1<|yq<|yr<|yo zA<|yl<|yn<|yt<|yk<|yc<|yc<|yk<|yc ?_;exact h0'.o):p:=h ⟨hq⟩
theorem QnP(h:Hq q->p:=by intro h0';refine yq<|yq<|yr<|yo zM<|yo zF<|yo (zB 1)<|yo zL<|yo zlf<|yl<|yn<|y0<|ye<|yn<|yq<|yq<|yr<|yo zA<|yl<|yn<|yb ?_;exact h0'.o):p:=h ⟨hq⟩
theorem Q9o(h:Hq q->p:=by intro h0';refine Q4 zM ?_;refine Q4 zX ?_;refine Q4 zX ?_;refine Q4 zX ?_;exact h0'.o):p:=h ⟨hq⟩
theorem QsL(h:Hq q->p:=by intro h0';refine yo zF<|yo (zB 0)<|yo zM<|yo zi1<|yo zC<|yo zM ?_;refine Q4 (Qg (f:=71) rfl rfl Q1 rfl rfl (fun w hw=>(QY _ _ _ w).mono (fun _ _ h=>by rw[hq] at h;exact h))) ?_;refine yo zO<|yl ?_;exact h0'.o):p:=h ⟨hq⟩
theorem Qsz(h:Hq q->p:=by intro h0';refine yW 0 ?_;refine yl<|yn<|yq<|yq<|yr<|yo zF<|yo (zB 0) ?_;refine Q4 (Qg (f:=70) rfl rfl Q1 rfl rfl (fun w hw=>(Q4s name hnl w).mono (fun _ _ h=>by rw[H1.out] at h;exact h))) ?_;exact h0'.o):p:=h ⟨hq⟩
theorem QtO(h:Hq q->p:=by intro h0';refine Jz [2] Q5 ?_;refine Qn 0 rfl Q5 Xi (zD 0) ?_;refine Qn 1 rfl Q5 Xi zA ?_;exact h0'.o):p:=h ⟨hq⟩
theorem QrW(h:Hq q->p:=by intro h0';(repeat(first|refine Q4 zM ?_|refine Q4 zA ?_|refine Q4 zF ?_|refine Q4 (zB 0) ?_|refine Qd ?_|refine Qa ?_|refine Q6 ?_|refine Q4 zL ?_|refine Q4 Q2P ?_|refine Q4 zY ?_));exact h0'.o):p:=h ⟨hq⟩
theorem QqJ(h:Hq q->p:=by intro h0';(repeat(first|refine Q4 zM ?_|refine Q4 zA ?_|refine Qd ?_|refine Qa ?_|refine Q6 ?_|refine Q7 rfl ?_|refine XK ?_|refine QB ?_|refine Q4 zL ?_|refine Q4 zgf ?_));exact h0'.o):p:=h ⟨hq⟩
theorem Qt4(h:Hq q->p:=by intro h0';refine Q4 (Qfk Q3 Q1 rfl rfl Q1 rfl rfl rfl) ?_;refine yo zP ?_;refine Q4 (Yu rfl rfl Q1 rfl rfl (by rw[Tryz.underlying3];rfl) Tryz.underlying5 (Qml m _ rfl)) ?_;exact h0'.o):p:=h ⟨hq⟩
theorem Qe0(h:Hq q->p:=by intro h0';rw[List.getD_eq_getElem?_getD,List.getElem?_eq_getElem h];exact h0'.o):p:=h ⟨hq⟩
theorem Q91(h:Hq q->p:=by intro h0';refine yo zM<|yo zef<|yl ?_;refine Qnz ?_;exact h0'.o):p:=h ⟨hq⟩
theorem QqN(h:Hq q->p:=by intro h0';refine QsP ?_;refine Qe (zB 0) ?_;refine Qe zna ?_;refine Z3 ?_;refine yn<|y1<|ys<|yn<|yb<|yq<|yq<|Xb Q5 Q5 ?_;refine Q56 ?_;refine Qe (zB 1) ?_;refine Qe zM ?_;exact h0'.o):p:=h ⟨hq⟩
theorem Qsg(h:Hq q->p:=by intro h0';refine Qr (cc+1) [0,1,2] Q1 Q3 (by show 256 - (cc+1)<256 - cc;omega) (.cons rfl rfl (.cons rfl rfl (.cons rfl rfl (.cons rfl rfl (.cons rfl rfl (.cons rfl rfl Q0g)))))) ?_;exact h0'.o):p:=h ⟨hq⟩
theorem Qp9(h:Hq q->p:=by intro h0';refine yq<|yr<|yo zF<|yo (zB 0)<|yo zef<|yo zM<|yo zF<|yo (zB 0)<|yo zef<|yo zN<|yl<|yn<|y0<|ys ?_;exact h0'.o):p:=h ⟨hq⟩
theorem Qr2(h:Hq q->p:=by intro h0';refine Qnc ?_;refine Y7 ?_;refine Qe (Q7l (k:=.i64) rfl rfl Q1 rfl rfl rfl hw3) ?_;refine Qe zM ?_;refine Qe zL ?_;refine Qe zea ?_;refine Y7 ?_;refine Y7 ?_;exact h0'.o):p:=h ⟨hq⟩
theorem QqH(h:Hq q->p:=by intro h0';refine Qi7 ?_;refine yo zO<|yo zM<|yo zM<|yo zM<|yo zgt<|yo zM<|yo zM<|yo zM<|yo zi1<|yo (zG hcell0)<|yo zea<|yo zY<|yo zN<|yl<|yn<|y0<|ys<|yn<|yq<|yr<|yo zM ?_;refine Q4 Q3q ?_;exact h0'.o):p:=h ⟨hq⟩
theorem Qs7(h:Hq q->p:=by intro h0';refine yq<|yr<|yo zlt<|yl<|yn<|yq<|y1<|ys<|yn<|yq<|yb<|yq<|yr<|yo zM<|yo zi1 ?_;refine Q4 (XJ rfl rfl Q1 rfl rfl (fun w hw=>hw.cell_old hcell (by simpa using hqg))) ?_;exact h0'.o):p:=h ⟨hq⟩
theorem QcM(h:Hq q->p:=by intro h0';refine Q4 mc5 ?_;refine yo zF<|yo (zB 1) ?_;exact h0'.o):p:=h ⟨hq⟩
theorem QrA(h:Hq q->p:=by intro h0';refine Q4 Q3q ?_;refine yo zM<|yo zM<|yo (zi1 (hj:=hpi))<|yo (zG hcell) ?_;refine Q4 Q2p ?_;refine Q4 (Q7l (k:=.i64) rfl rfl Q1 rfl rfl rfl hw2) ?_;refine Kn ?_;exact h0'.o):p:=h ⟨hq⟩
theorem Qn4(h:Hq q->p:=by intro h0';refine QiW ?_;refine yW 1 ?_;refine yo zA<|yo zA<|yl<|yn<|yt<|yk<|yc<|yc<|yk<|yc<|yk<|yc ?_;exact h0'.o):p:=h ⟨hq⟩
theorem QrH(h:Hq q->p:=by intro h0';refine Qi7 ?_;refine yo zO<|yo zM<|yo zM<|yo zM<|yo zgf<|yo zM<|yo zS<|yo zS<|yo zS<|yo zS<|yo zS<|yo zN<|yo zN<|yl<|yn<|y0<|ys<|yn<|yq<|yr<|yo zM ?_;refine Q4 Q3q ?_;exact h0'.o):p:=h ⟨hq⟩
theorem Qgc(h:Hq q->p:=by intro h0';(repeat(first|refine Q4 zA ?_|refine Q4 (zD 0) ?_|refine Q4 Qng ?_|refine Qd ?_|refine Qa ?_|refine Q6 ?_|refine Qt ?_|refine Q7 rfl ?_));exact h0'.o):p:=h ⟨hq⟩
theorem QgL(h:Hq q->p:=by intro h0';(repeat(first|refine Q4 zA ?_|refine Q4 (zD 0) ?_|refine Q4 (Qg (f:=148) rfl rfl Q1 rfl rfl (fun w hw=>QaY w)) ?_|refine Qd ?_|refine Qa ?_|refine Q6 ?_|refine Q4 zO ?_));exact h0'.o):p:=h ⟨hq⟩
theorem Qrn(h:Hq q->p:=by intro h0';refine yq<|yq<|yr<|yo zM<|yo zF<|yo (zB 1)<|yo zL<|yo zlt<|yl<|yn<|y1<|ys<|yn<|yq<|yb<|yq<|Xb Q5 Q5 ?_;refine Q8B ?_;refine Qe zM ?_;refine Qe (zi (hj:=hilt)) ?_;refine Qe (X7 rfl rfl Q1 rfl rfl (fun w hw=>hw.range_old hg1 Qm) rfl) ?_;refine Q2v ?_;refine Qe zM ?_;refine Qe (zi (hj:=hilt)) ?_;refine Qe (X7 rfl rfl Q1 rfl rfl (fun w hw=>hw.range_old hg2 Qm) rfl) ?_;refine Qe (Qg rfl rfl Q1 rfl rfl (fun w hw=>(HAL.out.1 d2 p2 w _ _ HFL.out.1.2.2.1 HFL.out.2.1 HFL.out.2.2.1 (HV1.out.on hw.k.below) (HV2.out.on hw.k.below)).mono (fun e w' h=>by rw[HQ.out] at h;exact h))) ?_;refine Qe zO ?_;exact h0'.o):p:=h ⟨hq⟩
theorem Qs2(h:Hq q->p:=by intro h0';refine Q2u ?_;refine Q4 (Qg (f:=71) rfl rfl Q1 rfl rfl (fun w hw=>(QY 7 1 10 w).mono Q75)) ?_;refine Q2Z ?_;exact h0'.o):p:=h ⟨hq⟩
theorem Qr5(h:Hq q->p:=by intro h0';refine Q2u ?_;refine Q4 (Qg (f:=71) rfl rfl Q1 rfl rfl (fun w hw=>(QY 1 1 10 w).mono Q75)) ?_;refine Q2Z ?_;exact h0'.o):p:=h ⟨hq⟩
theorem Qsj(h:Hq q->p:=by intro h0';(repeat(first|refine Qe zM ?_|refine Qe zA ?_|refine Qe zF ?_|refine Qe (zB 2) ?_|refine Qe (zD 0) ?_|refine Qe (Q4b rfl rfl Q1 rfl rfl rfl hkc) ?_|refine Qe (Qg (f:=115) rfl rfl Q1 rfl rfl (fun w hw=>(Q5k ((HFM.out.on hw.k.below).take hk hc) (HLK.out.on hw.k.below) HSM.out Q3 hsz).mono (fun _ _ h=>h))) ?_|refine Z3 ?_|refine Xb Q5 Q5 ?_));exact h0'.o):p:=h ⟨hq⟩
theorem Qtv(h:Hq q->p:=by intro h0';refine Q2u ?_;refine Q4 (Qg (f:=71) rfl rfl Q1 rfl rfl (fun w hw=>(QY kind 1 10 w).mono Q75)) ?_;exact h0'.o):p:=h ⟨hq⟩
theorem Qtg(h:Hq q->p:=by intro h0';refine Qnc ?_;refine Qe (zD 2) ?_;refine Q2v ?_;refine Qe zM ?_;refine Qe (zi1 (hj:=hin)) ?_;refine Qe (zG hcx) ?_;refine Y7 ?_;refine Qe (zi1 (hj:=hlt)) ?_;refine Qe (zG hcell) ?_;refine Qe Q2p ?_;refine Qe (Qg rfl rfl Q1 rfl rfl (fun w hw=>(Q82 hv (HFA.out w hw.k.below).fm hxn).mono (fun _ _ h=>by rw[HB.out] at h;exact h))) ?_;exact h0'.o):p:=h ⟨hq⟩
theorem Qt8(h:Hq q->p:=by intro h0';refine yn<|yq<|yq<|yr<|yo zM<|yo zhf<|yl<|yn<|y0<|ys<|yn<|yq<|yq<|yr<|yo zF<|yo (zB 4)<|yo zM ?_;refine Q4 (Xz rfl rfl Q1 rfl rfl rfl (show i<names.length by omega)) ?_;refine yo (zG hcs) ?_;refine Q4 (Q0F rfl rfl Q1 rfl rfl rfl hst) ?_;refine yl<|yn<|y1<|yq ?_;refine ZR [.blk b36 (.cells ([.int .i64 4,.int .i64 0,.slice none 0 0,.slice Nr N.length cN,.slice Ar A.len c]:List Value).toArray 30 (0,0)),.blk b11 (.cells ([.string ⟨name.toArray⟩,.int .i64 7,.slice Ab bs.length cb,.int .i64 size,.bool big,.int .i64 mn,.int .i64 mx,.int .i64 stop,.int .i64 count,.int .i64 elem,.slice (some ⟨bm,om,none⟩) names.length cn,.slice (some ⟨bp,op,none⟩) parts.length cp]:List Value).toArray 65 (0,0))] [10] Q5 ?_;refine Qn 0 rfl Q5 (QA.sel [3,4] Q1 rfl) zF ?_;refine Qn 1 rfl Q5 (QA.sel [3,4] Q1 rfl) (zB 0) ?_;refine Qn 2 rfl Q5 Q9g zF ?_;refine Qn 3 rfl Q5 Q9g (zB 1) ?_;refine Qn 4 rfl Q5 Q9g zM ?_;refine Qn 5 rfl Q5 Q9g QhA ?_;refine Qn 6 rfl Q5 Q9g (zG hcs) ?_;exact h0'.o):p:=h ⟨hq⟩
theorem QqD(h:Hq q->p:=by intro h0';refine ZR [.blk g (.cells ([.slice Af nn cf,.slice Ai (xs++uy.take i).length ci,.int .i64 (n:Int)]:List Value).toArray 77 (0,0))] [13] Q5 ?_;refine Qn 0 rfl Q5 Qaw zM ?_;refine Qn 1 rfl Q5 Qaw zM ?_;refine Qn 2 rfl Q5 Qaw mc5 ?_;refine Qn 3 rfl Q5 Qaw zF ?_;refine Qn 4 rfl Q5 Qaw (zB 0) ?_;refine Qn 5 rfl Q5 Qaw zM ?_;refine Qn 6 rfl Q5 Qaw zM ?_;refine Qn 7 rfl Q5 Qaw (Qk8 rfl rfl Q1 rfl rfl rfl Q3 Q3) ?_;refine Qn 8 rfl Q5 Qaw (Yu rfl rfl Q1 rfl rfl (by rw[Tryz.underlying3];rfl) Tryz.underlying5 hcv) ?_;exact h0'.o):p:=h ⟨hq⟩
theorem Qgq(h:Hq q->p:=by intro h0';refine Q2v ?_;refine Qe zM ?_;refine Qe zi1 ?_;refine Qe zC ?_;exact h0'.o):p:=h ⟨hq⟩
theorem Qrh(h:Hq q->p:=by intro h0';refine Qpt ?_;refine Q4 (Qg (f:=104) rfl rfl Q1 rfl rfl (fun w hw=>Qwu w)) ?_;refine Qi6 ?_;refine Q4 (Kv (n:=16777216) hm1 Q1 rfl rfl Q1 rfl rfl rfl) ?_;exact h0'.o):p:=h ⟨hq⟩
theorem Qsm(h:Hq q->p:=by intro h0';refine Qpt ?_;refine Q4 (Qg (f:=104) rfl rfl Q1 rfl rfl (fun w hw=>Qwt w)) ?_;refine Qi6 ?_;refine Q4 (Kv (n:=65536) hm1 Q1 rfl rfl Q1 rfl rfl rfl) ?_;exact h0'.o):p:=h ⟨hq⟩
theorem Qtr(h:Hq q->p:=by intro h0';refine Qpt ?_;refine Q4 (Qg (f:=104) rfl rfl Q1 rfl rfl (fun w hw=>QwL w)) ?_;refine Qi6 ?_;refine Q4 (Kv (n:=256) hm1 Q1 rfl rfl Q1 rfl rfl rfl) ?_;exact h0'.o):p:=h ⟨hq⟩
theorem Qt6(h:Hq q->p:=by intro h0';refine Qpt ?_;refine Q4 (Qg (f:=104) rfl rfl Q1 rfl rfl (fun w hw=>Qwr w)) ?_;refine Qi6 ?_;refine Q4 (Kv (n:=1) hm1 Q1 rfl rfl Q1 rfl rfl rfl) ?_;exact h0'.o):p:=h ⟨hq⟩
theorem QsA(h:Hq q->p:=by intro h0';refine Jz [14] Q5 ?_;refine Qn 0 rfl Q5 Xi zM ?_;refine Qn 1 rfl Q5 Xi zM ?_;refine Qn 2 rfl Q5 Xi zM ?_;refine Qn 3 rfl Q5 Xi zM ?_;refine Qn 4 rfl Q5 Xi zM ?_;refine Qn 5 rfl Q5 Xi zM ?_;refine Qn 6 rfl Q5 Xi (zi (hj:=hkn)) ?_;refine Qn 7 rfl Q5 Xi (Jd rfl rfl Q1 rfl rfl rfl hcn) ?_;refine Qn 8 rfl Q5 Xi (zK 1 hcell) ?_;refine Qn 9 rfl Q5 Xi zM ?_;exact h0'.o):p:=h ⟨hq⟩
theorem Qre(h:Hq q->p:=by intro h0';refine yo zM<|yo zP<|yo zQ<|yo zA<|yl<|yn<|yq<|yr<|yo zM<|yo zF<|yo (zB 0)<|yo zgt<|yl<|yn<|y1<|yq<|yr<|yo zM<|yo zA<|yo zA<|yo zA<|yl<|yn<|yt<|yk<|yc<|yc<|yk<|yc ?_;exact h0'.o):p:=h ⟨hq⟩
theorem Qs4(h:Hq q->p:=by intro h0';refine yo zef<|yo zY<|yl<|yn<|y0<|yq<|yr<|yo zM<|yo zF<|yo (zB 1) ?_;refine Q4 Kq ?_;refine yo zC<|yo zht<|yo zM<|yo zM<|yo zF<|yo (zB 1) ?_;refine Q4 Kq ?_;exact h0'.o):p:=h ⟨hq⟩
theorem QhZ(h:Hq q->p:=by intro h0';refine yo zM<|yo zqt<|yo zM<|yo zM<|yo zF<|yo (zB 0)<|yo zM ?_;exact h0'.o):p:=h ⟨hq⟩
theorem Qrj(h:Hq q->p:=by intro h0';(repeat(first|refine Q4 zA ?_|refine Qd ?_|refine Qa ?_|refine Q6 ?_|refine Q7 rfl ?_|refine XK ?_|refine QB ?_|refine Q4 zlf ?_));exact h0'.o):p:=h ⟨hq⟩
theorem Qr9(h:Hq q->p:=by intro h0';(repeat(first|refine Q4 zA ?_|refine Q4 zF ?_|refine Q4 (zB 0) ?_|refine Qd ?_|refine Qa ?_|refine Q6 ?_|refine Q4 zL ?_|refine Q4 zgr ?_));exact h0'.o):p:=h ⟨hq⟩
theorem Qhj(h:Hq q->p:=by intro h0';refine yq<|yr<|yo zA<|yl<|yn<|yq<|yq<|Xb Q5 Q5 ?_;exact h0'.o):p:=h ⟨hq⟩
theorem QsU(h:Hq q->p:=by intro h0';unfold Oper.wp execOp;simp only[ho,resolve,invoke,builtin,Sem.run_bind,Sem.run_pure,Result.andThen_ok,List.map_toArray,List.map_cons,List.map_nil,hs,hx,hrun];exact h0'.o):p:=h ⟨hq⟩
theorem Qrz(h:Hq q->p:=by intro h0';refine yn<|yb<|yq<|yr<|yo zef<|yo zA<|yl<|yn<|y0<|yq<|yq<|yr<|yo zef<|yo zA<|yl<|yn<|y0<|yr<|yo zet<|yo zA<|yl<|yn<|y1<|yq<|yr<|yo (zD 0)<|yo zM<|yo zM ?_;exact h0'.o):p:=h ⟨hq⟩
theorem Qkq(h:Hq q->p:=by intro h0';refine yq<|yq<|yr<|yo zM<|yo zlf<|yl<|yn<|y0<|ye<|yn<|yq<|yr<|yo zA<|yl<|yn<|yt ?_;exact h0'.o):p:=h ⟨hq⟩
theorem Qss(h:Hq q->p:=by intro h0';refine yo zA<|yl<|yn<|yq<|yq<|yr<|yo zF<|yo (zB 0)<|yo zef<|yo zM<|yo zF<|yo (zB 0)<|yo zef<|yo zN<|yl<|yn<|y0<|ys<|yn<|yq<|yq<|yr<|yo zA<|yl<|yn<|yb ?_;exact h0'.o):p:=h ⟨hq⟩
theorem Qta(h:Hq q->p:=by intro h0';refine Qn 3 rfl Q5 Xi zF ?_;refine Qn 4 rfl Q5 Xi (zB 3) ?_;refine Qn 5 rfl Q5 Xi zF ?_;refine Qn 6 rfl Q5 Xi (zB 2) ?_;exact h0'.o):p:=h ⟨hq⟩
theorem QqF(h:Hq q->p:=by intro h0';refine Qn 9 rfl Q5 KP zM ?_;refine Qn 10 rfl Q5 KP zX ?_;refine Qn 11 rfl Q5 KP zX ?_;refine Qn 12 rfl Q5 KP zX ?_;exact h0'.o):p:=h ⟨hq⟩
theorem QqI(h:Hq q->p:=by intro h0';refine Qn 9 rfl Q5 Q5E zM ?_;refine Qn 10 rfl Q5 Q5E zX ?_;refine Qn 11 rfl Q5 Q5E zX ?_;refine Qn 12 rfl Q5 Q5E zX ?_;exact h0'.o):p:=h ⟨hq⟩
theorem Qsd(h:Hq q->p:=by intro h0';refine Qn 9 rfl Q5 Q5I zM ?_;refine Qn 10 rfl Q5 Q5I zX ?_;refine Qn 11 rfl Q5 Q5I zX ?_;refine Qn 12 rfl Q5 Q5I zX ?_;exact h0'.o):p:=h ⟨hq⟩
theorem QqE(h:Hq q->p:=by intro h0';refine yo zA<|yo zA<|yl<|yn<|yq<|yr<|yo zF<|yo (zB 1)<|yo zM ?_;refine Qn9 ?_;exact h0'.o):p:=h ⟨hq⟩
theorem Qsx(h:Hq q->p:=by intro h0';refine Qn 9 rfl Q5 Q5o zM ?_;refine Qn 10 rfl Q5 Q5o zX ?_;refine Qn 11 rfl Q5 Q5o zX ?_;refine Qn 12 rfl Q5 Q5o zX ?_;exact h0'.o):p:=h ⟨hq⟩
theorem QqV(h:Hq q->p:=by intro h0';refine Y7 ?_;refine Qe zL ?_;refine Qe zlt ?_;refine Y7 ?_;refine Qe zM ?_;refine Qe zi1 ?_;refine Qe (zG hcell) ?_;refine Qe Q2p ?_;refine Qe zF ?_;refine Qe (zB 2) ?_;refine Qe zna ?_;refine Qe zY ?_;exact h0'.o):p:=h ⟨hq⟩
theorem QmT(h:Hq q->p:=by intro h0';refine yo zA<|yl<|yn<|yq<|yr<|yo zA<|yl<|yn<|yq<|yq<|yr<|yo zA<|yl<|yn<|yb ?_;exact h0'.o):p:=h ⟨hq⟩
theorem QjB(h:Hq q->p:=by intro h0';refine QiW ?_;refine yW 1 ?_;refine yo zA<|yo zA<|yl<|yn<|yt<|yc<|yk<|yc ?_;exact h0'.o):p:=h ⟨hq⟩
theorem Qow(h:Hq q->p:=by intro h0';refine Q4 Q8K ?_;refine yW 1 ?_;refine yl<|yn<|yt<|yk<|yc<|yc<|yk<|yc ?_;exact h0'.o):p:=h ⟨hq⟩
theorem QtD(h:Hq q->p:=by intro h0';refine yq<|yr<|yo zF<|yo (zB 0)<|yo zef<|yo zM<|yo zF<|yo (zB 0)<|yo zef<|yo zN<|yo zM<|yo zF<|yo (zB 0)<|yo zef<|yo zN<|yl<|yn<|y0<|ys ?_;exact h0'.o):p:=h ⟨hq⟩
theorem Q67(h:Hq q->p:=by intro h0';refine Q56 ?_;refine Qe zC ?_;exact h0'.o):p:=h ⟨hq⟩
theorem QrN(h:Hq q->p:=by intro h0';refine QkF ?_;refine Q8B ?_;refine Qe zM ?_;refine Qe zi ?_;refine Qe zF ?_;refine Qe zR ?_;refine Q2v ?_;refine Qe zsa ?_;exact h0'.o):p:=h ⟨hq⟩
theorem QdQ(h:Hq q->p:=by intro h0';refine yW 1 ?_;refine yl<|yn<|yt<|yk<|yc ?_;exact h0'.o):p:=h ⟨hq⟩
theorem Qra(h:Hq q->p:=by intro h0';refine yn<|yb<|yq<|yr<|yo zef<|yo zA<|yl<|yn<|y0<|yq<|yq<|yr<|yo zet<|yo zA<|yl<|yn<|y1<|ys<|yn<|y1<|yq<|yr<|yo (zD 0)<|yo zM<|yo zM ?_;exact h0'.o):p:=h ⟨hq⟩
theorem Qt1(h:Hq q->p:=by intro h0';refine yo zM<|yo zP<|yo zQ<|yo zA<|yl<|yn<|yq<|yr<|yo zM<|yo zF<|yo (zB 0)<|yo zgf<|yl<|yn<|y0<|ys<|yn<|yr<|yo zM<|yo zP<|yo zA<|yl ?_;exact h0'.o):p:=h ⟨hq⟩
theorem QsB(h:Hq q->p:=by intro h0';refine yW 0 ?_;refine yl<|yn ?_;refine ZR [.blk b3 (.cells ([.int .i64 c,.int .i64 x]:List Value).toArray 32 (0,0))] [] Q5 ?_;exact h0'.o):p:=h ⟨hq⟩
theorem QsC(h:Hq q->p:=by intro h0';refine bodyPost_ret (v:=.tuple #[.slice A7 out.length c7,.slice A8 out.length c8]) (by simp [results,Tryz.results46,go_sem]) rfl ?_;exact h0'.o):p:=h ⟨hq⟩
theorem QrO(h:Hq q->p:=by intro h0';refine Qtd ?_;refine yn<|y0<|ys<|yn<|yq<|yr<|yo zM<|yo zM ?_;refine Q4 (Q4R (k:=.i64) rfl rfl Q1 rfl rfl rfl hw4) ?_;exact h0'.o):p:=h ⟨hq⟩
theorem Q99(h:Hq q->p:=by intro h0';refine yn<|yr<|yo zP<|yo zM<|yl ?_;exact h0'.o):p:=h ⟨hq⟩
theorem Qsh(h:Hq q->p:=by intro h0';refine yq<|yr<|yo zlt<|yl<|yn<|yq<|y1<|ys<|yn<|yq<|yb<|yq<|yr<|yo zM<|yo zA<|yl<|yn<|yq<|yr<|yo zM ?_;refine Q4 Q3q ?_;exact h0'.o):p:=h ⟨hq⟩
theorem QmR(h:Hq q->p:=by intro h0';refine yo zA<|yo zA<|yl<|yn<|yt<|yc<|yk<|yc<|yc<|yk<|yc<|yk<|yc ?_;exact h0'.o):p:=h ⟨hq⟩
theorem QhO(h:Hq q->p:=by intro h0';refine yl<|yn<|yq<|yq<|yr<|yo (zD 2) ?_;exact h0'.o):p:=h ⟨hq⟩
theorem QdC(h:Hq q->p:=by intro h0';refine Q4 zF ?_;refine Q4 (zB 0) ?_;exact h0'.o):p:=h ⟨hq⟩
theorem QrF(h:Hq q->p:=by intro h0';refine yq<|yb<|yq<|yr<|yo zM ?_;refine Q4 Q2p ?_;refine yo zF<|yo (zB 0)<|yo zea<|yo zM<|yo zM ?_;refine Q4 mc5 ?_;exact h0'.o):p:=h ⟨hq⟩
theorem QlC(h:Hq q->p:=by intro h0';refine Qe zP ?_;refine Qe (Qg (f:=106) rfl rfl Q1 rfl rfl (fun w hw=>Q5G _ w)) ?_;refine Q4o ?_;exact h0'.o):p:=h ⟨hq⟩
theorem Qg7(h:Hq q->p:=by intro h0';refine yo zF<|yo (zB 1)<|yo zF<|yo (zB 0) ?_;refine Q4 (Qz rfl rfl Q1 rfl rfl rfl Q3) ?_;refine yo zF<|yo zR<|yo zA<|yl ?_;refine QnB ?_;exact h0'.o):p:=h ⟨hq⟩
theorem Ql1(h:Hq q->p:=by intro h0';refine bodyPost_ret (v:=.agg #[.int .i64 cd,.int .i64 ix]) (by simp [results,Tryz.results34,go_sem,r0,r1,z4]) rfl ?_;exact h0'.o):p:=h ⟨hq⟩
theorem Qoh(h:Hq q->p:=by intro h0';refine QrZ ?_;refine Q4 (Qg rfl rfl Q1 rfl rfl (fun w hw=>Q34 Q4i HC.out)) ?_;refine Q4 Q2p ?_;exact h0'.o):p:=h ⟨hq⟩
theorem Qb6(h:Hq q->p:=by intro h0';refine yo zqr<|yo zY<|yo zA<|yl<|yn<|yt<|yc ?_;exact h0'.o):p:=h ⟨hq⟩
theorem Qlg(h:Hq q->p:=by intro h0';refine Qr (k+1) [1,2,3,4] Q1 hkn Q3 (.cons rfl rfl (.cons rfl rfl (.cons rfl (by go_num) Yj))) ?_;exact h0'.o):p:=h ⟨hq⟩
theorem QfO(h:Hq q->p:=by intro h0';refine yo zA<|yl<|yn<|yr<|yo zP<|yo zM<|yl ?_;exact h0'.o):p:=h ⟨hq⟩
theorem Qnm(h:Hq q->p:=by intro h0';refine yo zA<|yl<|yn<|yq<|yq<|yr<|yo zF<|yo (zB 0)<|yo zet<|yo zM<|yo zF<|yo (zB 0)<|yo zM<|yo zi1<|yo zC ?_;exact h0'.o):p:=h ⟨hq⟩
theorem Qf2(h:Hq q->p:=by intro h0';unfold Zn;rw[if_neg (by simp [h0]),if_neg h1,h];simp only;exact h0'.o):p:=h ⟨hq⟩
theorem QkV(h:Hq q->p:=by intro h0';rw[List.getElem?_map,List.getElem?_eq_getElem hj,List.getD_eq_getElem?_getD,List.getElem?_eq_getElem hj];exact h0'.o):p:=h ⟨hq⟩
theorem Qn0(h:Hq q->p:=by intro h0';refine Q4 Q3q ?_;refine yo zM ?_;refine Q4 (Q4R (k:=.u8) rfl rfl Q1 rfl rfl rfl hsub) ?_;refine Q4 (Yu rfl rfl Q1 rfl rfl rfl Tryz.underlying3 hcv2) ?_;refine yo zP<|yo zF<|yo (zB 0)<|yo zgt<|yo zA<|yl<|yn<|y1<|yr<|yo zM ?_;refine QcM ?_;exact h0'.o):p:=h ⟨hq⟩
theorem Qfg(h:Hq q->p:=by intro h0';refine yq<|yr<|yo zA<|yl<|yn<|yq<|Xb Q5 Q5 ?_;exact h0'.o):p:=h ⟨hq⟩
theorem Qon(h:Hq q->p:=by intro h0';refine yo zF ?_;refine yS 5 ?_;refine yl<|yn<|yr<|yo zM<|yo zA<|yl<|yn<|yr<|yo zM<|yo zP<|yo zA<|yl ?_;exact h0'.o):p:=h ⟨hq⟩
theorem QfG(h:Hq q->p:=by intro h0';refine yW 1 ?_;refine yo zA<|yo zA<|yl<|yn<|yt<|yk<|yc ?_;exact h0'.o):p:=h ⟨hq⟩
theorem Qg1(h:Hq q->p:=by intro h0';refine Q4o ?_;refine yn<|yr<|yo zM<|yo zP<|yo zA<|yl ?_;exact h0'.o):p:=h ⟨hq⟩
theorem Qef(h:Hq q->p:=by intro h0';refine yq<|yr<|yo zlf<|yl<|yn<|yq<|y0<|ye<|yx<|yx<|yu ?_;exact h0'.o):p:=h ⟨hq⟩
theorem Qae(h:Hq q->p:=by intro h0';refine yo zA<|yl ?_;refine QnB ?_;exact h0'.o):p:=h ⟨hq⟩
theorem Qof(h:Hq q->p:=by intro h0';refine yq<|yq<|yr<|yo zM<|yo zF<|yo (zB 0)<|yo zL<|yo zlf<|yl<|yn<|y0<|ye<|yn<|yr<|yo zM<|yo zM ?_;exact h0'.o):p:=h ⟨hq⟩
theorem QjL(h:Hq q->p:=by intro h0';refine yq<|yq<|yr<|yo zM<|yo zM<|yo zL<|yo zlf<|yl<|yn<|y0<|ye<|yn<|yq<|yr<|yo zA<|yl<|yn<|yt ?_;exact h0'.o):p:=h ⟨hq⟩
theorem QkB(h:Hq q->p:=by intro h0';refine bodyPost_ret (v:=.tuple #[.slice none 0 0,.agg #[.int .i64 c,.int .i64 ix]]) Qo6 rfl ?_;exact h0'.o):p:=h ⟨hq⟩
theorem QaR(h:Hq q->p:=by intro h0';refine Q4 zF ?_;refine Q4 (zB 2) ?_;exact h0'.o):p:=h ⟨hq⟩
theorem Qf8(h:Hq q->p:=by intro h0';refine yn<|yq<|yq<|yr<|yo zM ?_;refine Q4 QkS ?_;exact h0'.o):p:=h ⟨hq⟩
theorem Q7w(h:Hq q->p:=by intro h0';refine Q4o ?_;refine yn<|yt ?_;exact h0'.o):p:=h ⟨hq⟩
theorem QeQ(h:Hq q->p:=by intro h0';refine Q4 zM ?_;refine Q4 zht ?_;refine Qd ?_;exact h0'.o):p:=h ⟨hq⟩
theorem QfZ(h:Hq q->p:=by intro h0';refine Q4 zM ?_;refine Q4 zhf ?_;refine Qd ?_;exact h0'.o):p:=h ⟨hq⟩
theorem Qol(h:Hq q->p:=by intro h0';(repeat(first|refine Q4 YE ?_|refine Q4 Q0n ?_|refine Q4 (XJ rfl rfl Q1 rfl rfl (by exact fun w hw=>hw.cell_old QS Qm)) ?_|refine Q4 Qbt ?_|refine Qd ?_|refine Qa ?_|refine Q6 ?_|refine Qt ?_|refine Q9 rfl ?_|refine Qh ?_|refine Q4 QgX ?_));exact h0'.o):p:=h ⟨hq⟩
theorem QnM(h:Hq q->p:=by intro h0';refine Qn 12 rfl Q5 Xi (zi (hj:=hkn)) ?_;refine Qn 13 rfl Q5 Xi (Jd rfl rfl Q1 rfl rfl rfl hcn) ?_;exact h0'.o):p:=h ⟨hq⟩
theorem Ql4(h:Hq q->p:=by intro h0';(repeat(first|refine Q4 YE ?_|refine Qd ?_|refine Q6 ?_|refine Q4 Qh4 ?_));exact h0'.o):p:=h ⟨hq⟩
theorem QjM(h:Hq q->p:=by intro h0';refine Qlr ?_;refine yW 5 ?_;refine yo zA<|yo zA<|yl<|yn<|yt<|yc<|yk<|yc<|yc<|yk<|yc ?_;exact h0'.o):p:=h ⟨hq⟩
theorem Qld(h:Hq q->p:=by intro h0';rw[hl1,hb1];refine Qn 11 rfl Q5 YY mc5 ?_;refine Qn 12 rfl Q5 YY zF ?_;exact h0'.o):p:=h ⟨hq⟩
theorem Qmx(h:Hq q->p:=by intro h0';refine yq<|yq<|yr<|yo zM<|yo zF<|yo (zB 0)<|yo zL<|yo zlf<|yl<|yn<|y0<|ye<|yx<|yx<|yu ?_;exact h0'.o):p:=h ⟨hq⟩
theorem Qf0(h:Hq q->p:=by intro h0';refine Q8C 0 (n:=2) (s:=1) rfl rfl Q1 ?_;exact h0'.o):p:=h ⟨hq⟩
end
end
end Go.Proofs.YtphkhfdmlcnoeaaGreatDoor

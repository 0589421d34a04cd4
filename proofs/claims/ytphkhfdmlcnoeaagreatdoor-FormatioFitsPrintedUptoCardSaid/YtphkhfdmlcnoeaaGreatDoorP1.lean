import Derived.WalkKit
import Derived.Lib.Hide
import Derived.Deep.LoopGhost
import Derived.Deep.MidRow
import Derived.BigQuiet
import Derived.Laws.EntriesVeiled
import Derived.Deep.RegionLaw
namespace Go.Proofs.YtphkhfdmlcnoeaaGreatDoor
set_option linter.unusedVariables false
set_option linter.unusedSimpArgs false
set_option maxRecDepth 1000000
set_option maxHeartbeats 32000000
open Go.RowKit
section
theorem Q1 {p : Prop} (h : p := by decide) : p := h
theorem Q3 {p : Prop} (h : p := by omega) : p := h
theorem Q5 {p : Prop} (h : p := by kernel_rfl) : p := h
theorem Ql {p : Prop} (h : p := by simp) : p := h
theorem QR {p : Prop} (h : p := by assumption) : p := h
theorem Q2 {p : Prop} (h : p) : Hid p := Lib.hid h
structure Hq(q:Prop):Prop where
  o:q
universe u
variable{α:Sort u}
abbrev mc1(x:α:=by exact (.cons rfl rfl (.cons rfl rfl (.cons rfl rfl (.cons rfl rfl .nil))))):α:=x
abbrev mc2(x:α:=by exact (.cons rfl rfl (.cons rfl rfl (.cons rfl rfl (.cons rfl (by go_num) .nil))))):α:=x
abbrev mc3(x:α:=by exact (Ag.cons (Ag.cons (Ag.nil rfl rfl) rfl) rfl)):α:=x
abbrev mc4(x:α:=by exact .inr rfl):α:=x
abbrev mc5(x:α:=by exact (QtH rfl rfl Q1 rfl rfl)):α:=x
abbrev mc6(x:α:=by exact (ZW (xs:=[]) (vs:=[]) (v:=.agg #[.int .i64 0,.int .i64 0]) rfl rfl Q1 rfl rfl (fun w=>run_build w _ _ _ Q5))):α:=x
abbrev mc8(x:α:=by exact Ag.cons (Ag.cons (Ag.cons (Ag.nil ha.sz ha.df) (by exact ha.at_ rfl)) (by exact ha.at_ rfl)) (by exact ha.at_ rfl)):α:=x
abbrev Q7t(x:α:=by exact (QJ.sel [0] Q1 rfl)):α:=x
abbrev Q0S(x:α:=by (try simp only[List.length_append,List.length_cons,List.length_nil]);omega):α:=x
abbrev Zw(x:α:=by first|exact Nat.le_refl _|(simp only[Qx];omega)):α:=x
abbrev VA(x:α:=by exact (QJ.sel [0,1] Q1 rfl)):α:=x
abbrev V3(x:α:=by go_ret;exact⟨by rw[<- HF.out];simp [QC, *],X4 HB1.out (Up.b _)⟩):α:=x
abbrev Qw5(x:α:=by exact [.string ⟨name.toArray⟩,.int .i64 9,.slice Ab bs.length cb,.int .i64 size,.bool big,.int .i64 mn,.int .i64 mx,.int .i64 stop,.int .i64 count,.int .i64 elem,.slice An names.length cn,.slice Ap parts.length cp]):α:=x
abbrev Qvs(x:α:=by exact (.cells ([.string ⟨name.toArray⟩,.int .i64 8,.slice Ab bs.length cb,.int .i64 size,.bool big,.int .i64 mn,.int .i64 mx,.int .i64 stop,.int .i64 count,.int .i64 elem,.slice An names.length cn,.slice (some ⟨bp,op,none⟩) parts.length cp]:List Value).toArray 65 (0,0))):α:=x
abbrev Q3y(x:α:=by exact (Qj (f:=126) rfl rfl Q1 rfl rfl (fun w hw=>KA w))):α:=x
abbrev Qbd(x:α:=by exact fun(w:World) (Ab An Ap:Option Addr) (cb cn cp:Nat) (hw:XV w z B g F A c xs n) (hru:RuB w B (Qg F k) Ab cb An cn Ap cp) (hval:VIn w B v d p)=>Q22 hw hv hk hru hval hd1 hd2):α:=x
abbrev X6(x:α:=by simp only[Qx]):α:=x
abbrev Q7U(x:α:=by exact [.blk g (.cells ([.slice (some ⟨bf,of,none⟩) nn cf,.slice A xs.length c,.int .i64 (n:Int)]:List Value).toArray 77 (0,0)),.row A xs.length c 5 1 (bv xs)]):α:=x
abbrev Kc(x:α:=by exact (Ql3 rfl rfl Q1 rfl rfl)):α:=x
abbrev Qdl(x:α:=by exact (fun w hw=>hw.rd_blk 0 rfl rfl)):α:=x
abbrev QV(x:α:=by exact (Wd.start [] W)):α:=x
abbrev Q9I(x:α:=by exact [(0,.pointer (some ⟨g,0,none⟩)),(1,.int .i64 k),(2,.agg [.int .i64 dk,.int .i64 dn,.slice Abv dbs.length cbv,.slice Anv dns.length cnv,.slice Apv p.len cpv].toArray)]):α:=x
abbrev Q7E(x:α:=by exact (YH rfl rfl Q1 rfl rfl rfl Tryz.underlying3 hcv)):α:=x
abbrev Q6H(x:α:=by exact (QsV (k:=.i64) rfl rfl Q1 rfl rfl rfl (IntWalk.i64_in _ Q3))):α:=x
abbrev Q4a(x:α:=by exact (YZ 0 rfl rfl rfl rfl rfl rfl rfl Ql)):α:=x
abbrev Q2k(x:α:=by exact (2,.pointer (some ⟨b2,0,none⟩))):α:=x
abbrev Qi9(x:α:=by exact (1,.pointer (some ⟨b1,0,none⟩))):α:=x
abbrev Qon(x:α:=by exact [.blk b3 (.cells ([.string ⟨name.toArray⟩,.int .i64 kind,sb,.int .i64 size,.bool big,.int .i64 mn,.int .i64 mx,.int .i64 stop,.int .i64 count,.int .i64 elem,sn,sp]:List Value).toArray 65 (0,0)),.blk g (.cells ([.slice Af nn cf,.slice As nn cs,.slice Ad nd cd,.int .i64 ((p+i:Nat):Int)]:List Value).toArray 60 (0,0))]):α:=x
abbrev QuL(x:α:=by exact [.string ⟨name.toArray⟩,.int .i64 7,.slice Ab bs.length cb,.int .i64 size,.bool big,.int .i64 mn,.int .i64 mx,.int .i64 stop,.int .i64 count,.int .i64 elem,.slice An names.length cn,.slice Ap parts.length cp]):α:=x
abbrev Qvk(x:α:=by exact [.string ⟨name.toArray⟩,.int .i64 6,.slice Ab bs.length cb,.int .i64 size,.bool big,.int .i64 mn,.int .i64 mx,.int .i64 stop,.int .i64 count,.int .i64 elem,.slice An names.length cn,.slice Ap parts.length cp]):α:=x
abbrev Q76(x:α:=by exact (Qa5 (f:=122) (fun _:Option Addr×Nat=>.tuple #[]) (fun _=>True) _ rfl rfl rfl rfl (fun w hw=>QtV _ _ Q3 hw))):α:=x
abbrev Q0t(x:α:=by exact (QdV rfl rfl Q1 rfl rfl)):α:=x
abbrev VB(x:α:=by exact (fun w hw=>⟨by rw[HZ.out],hw.k.below⟩)):α:=x
abbrev Q7w(x:α:=by exact (.cells ([.slice (some ⟨b,o,none⟩) n c]:List Value).toArray 24 (0,0))):α:=x
abbrev Zj(x:α:=by exact (Ag.cons (Ag.nil rfl rfl) rfl)):α:=x
abbrev Qdu(x:α:=by exact (.cons rfl rfl (.cons rfl rfl mc1))):α:=x
abbrev Q7I(x:α:=by exact (fun w=>run_build w _ _ _ Q5)):α:=x
abbrev Q6Y(x:α:=by exact (.cons rfl rfl (.cons rfl rfl .nil))):α:=x
abbrev Xj(x:α:=by exact (QJ.rfl_)):α:=x
abbrev QaL(x:α:=by simp [Value.oneCell']):α:=x
abbrev Q54(x:α:=by exact (some ⟨g,0,none⟩)):α:=x
abbrev Q0P(x:α:=by exact (QJ.sel [1,2] Q1 rfl)):α:=x
abbrev Ko(x:α:=by exact (J7 rfl rfl Q1 rfl rfl rfl Q3)):α:=x
abbrev JY(x:α:=by exact (RsV.blk 1 rfl rfl rfl)):α:=x
abbrev QpU(x:α:=by exact [(0,.agg ([.string ⟨name.toArray⟩,.int .i64 2,.slice Ab bs.length cb,.int .i64 size,.bool big,.int .i64 mn,.int .i64 mx,.int .i64 stop,.int .i64 count,.int .i64 elem,.slice An names.length cn,.slice Ap parts.length cp]:List Value).toArray),(1,.int .i64 (b:Int))]):α:=x
abbrev KU(x:α:=by exact (HG.out.on hw.k.below)):α:=x
abbrev VT(x:α:=by exact (QJ.sel [0,1,2] Q1 rfl)):α:=x
abbrev QpS(x:α:=by exact (5,.pointer (some ⟨b5,0,none⟩))):α:=x
abbrev Qur(x:α:=by exact (0,.agg (ruC r (.slice Ab r.bs.length cb) (.slice An r.names.length cn) (.slice Ap r.parts.length cp)).toArray)):α:=x
abbrev Q6j(x:α:=by exact (QJ.sel [0,2] Q1 rfl)):α:=x
abbrev Q4f(x:α:=by exact (KK rfl rfl Q1 rfl rfl rfl (by first|exact decide_eq_true Q3|rfl))):α:=x
abbrev Qj6(x:α:=by exact Q2 (show RES=.ok (ZG F (Qg F k) d p,n+1) by rw[<- hres];exact Qbr hfit (by unfold Vs;rw[if_neg Q3,if_neg Q3,if_neg Q3]) (Q3Y Q3 Q3))):α:=x
abbrev Q2D(x:α:=by exact Q2 (show Rd W B 1 Ab bs.length (bv bs) from HRU.out.b)):α:=x
abbrev Q59(x:α:=by exact (.cons rfl rfl (.cons rfl rfl (.cons rfl (by go_num) .nil)))):α:=x
abbrev Vn(x:α:=by exact (QJ.sel [1] Q1 rfl)):α:=x
abbrev Qfg(x:α:=by exact Q7 mc4 rfl (.tmp rfl) VB):α:=x
abbrev Q5b(x:α:=by exact (YZ 1 rfl rfl rfl rfl (Qni _) (X3 _) rfl (by simp [X3]))):α:=x
abbrev Q7Q(x:α:=by exact (3,.pointer (some ⟨b3,0,none⟩))):α:=x
abbrev Q8j(x:α:=by exact (.cells [.slice (some ⟨b,o,none⟩) n c].toArray 24 (0,0))):α:=x
abbrev KH(x:α:=by exact (YZ 1 rfl rfl rfl rfl rfl rfl rfl Ql)):α:=x
abbrev Q3u(x:α:=by exact (Qj (f:=91) rfl rfl Q1 rfl rfl (fun w hw=>QcT _ _ w))):α:=x
abbrev Q3B(x:α:=by exact (.cons rfl rfl (.cons rfl rfl (.cons rfl rfl mc2)))):α:=x
abbrev Q4S(x:α:=by exact Q2 (QlY HN6.out HALL.out (by have:=HD.out;rwa [List.take_of_length_le (by rw[HL.out];omega)] at this))):α:=x
abbrev Q1P(x:α:=by exact Q7 mc4 rfl (.tmp rfl) (fun w hw=>⟨rfl,hw.k.below⟩)):α:=x
abbrev Q5I(x:α:=by exact ZP (Xp _ _ _ rfl rfl rfl (fun w hw=>Q0c hw (fun w' hw'=>⟨p+i,HE.out,rfl,hw'.k⟩))) rfl Q1 (fun i=>i.elim)):α:=x
abbrev Q8X(x:α:=by exact (some ⟨bf,of,none⟩)):α:=x
abbrev Qrg(x:α:=by exact (Qj (f:=125) rfl rfl Q1 rfl rfl (fun w hw=>Q1t w))):α:=x
abbrev Q5F(x:α:=by exact (some ⟨br,0,none⟩)):α:=x
abbrev ZV(x:α:=by exact (QJ.sel [2,0] Q1 rfl)):α:=x
abbrev Qhv(x:α:=by exact (QJ.sel [1,3] Q1 rfl)):α:=x
abbrev Q8q(x:α:=by exact (.cells (ruC r (.slice Ab r.bs.length cb) (.slice An r.names.length cn) (.slice Ap r.parts.length cp)).toArray 65 (0,0))):α:=x
abbrev Zp(x:α:=by simp only[Qx];omega):α:=x
abbrev Q4C(x:α:=by exact (Q4v rfl rfl Q1 rfl rfl)):α:=x
abbrev Y9(x:α:=by exact (Jb (size:=1) rfl rfl rfl rfl rfl Q1)):α:=x
abbrev QgI(x:α:=by exact (.cells ([.int .i64 0,.int .i64 0,.slice none 0 0,.slice none 0 0,.slice none 0 0]:List Value).toArray 30 (0,0))):α:=x
abbrev J6(x:α:=by exact ⟨h3,.inl ⟨x,h1,by rw[h2]⟩⟩):α:=x
abbrev QtJ(x:α:=by exact [.string ⟨name.toArray⟩,.int .i64 8,.slice Ab bs.length cb,.int .i64 size,.bool big,.int .i64 mn,.int .i64 mx,.int .i64 stop,.int .i64 count,.int .i64 elem,.slice An names.length cn,.slice Ap parts.length cp]):α:=x
abbrev Qss(x:α:=by exact [.string ⟨name.toArray⟩,.int .i64 5,.slice Ab bs.length cb,.int .i64 size,.bool big,.int .i64 mn,.int .i64 mx,.int .i64 stop,.int .i64 count,.int .i64 elem,.slice An names.length cn,.slice Ap parts.length cp]):α:=x
abbrev Q3r(x:α:=by exact (Ja rfl rfl Q1 rfl rfl rfl (by first|assumption|rfl))):α:=x
abbrev Qcw(x:α:=by exact (Qe9 rfl rfl Q1 rfl rfl rfl (by rw[VQ,VQ];simp only[Q7d,List.length_take,List.length_append,List.length_cons,List.length_nil]<;>omega))):α:=x
abbrev Q1V(x:α:=by exact Q2 (show Below w.heap.size w W1 by rw[<- hW1];exact Qw9 _ _ _ _)):α:=x
abbrev QgH(x:α:=by exact (QlI (k:=.i64) rfl rfl Q1 rfl rfl rfl (IntWalk.i64_in _ Q3))):α:=x
abbrev Q9e(x:α:=by exact (FC.new (w.alloc (.cells #[.int .i64 d.k,.int .i64 d.n,.slice Ab nb cb,.slice An nn cn,.slice Ap p.len cp] 30)) 0 0).on hb2):α:=x
abbrev Q09(x:α:=by exact (some ⟨b,0,none⟩)):α:=x
abbrev QtK(x:α:=by exact (YY rfl rfl Q1 rfl rfl rfl (by first|exact decide_eq_true Q3|rfl))):α:=x
abbrev VL(x:α:=by exact (some ⟨bs,0,none⟩)):α:=x
abbrev Xk(x:α:=by exact (Nat.le_refl _)):α:=x
abbrev VG(x:α:=by exact (Jb rfl rfl rfl rfl rfl Ql)):α:=x
abbrev Z0(x:α:=by exact (Ag.cons mc3 rfl)):α:=x
abbrev Ze(x:α:=by exact (Nat.zero_le _)):α:=x
abbrev Q0G(x:α:=by exact ⟨Nat.zero_le _,fun j hj=>absurd hj (Nat.not_lt_zero _)⟩):α:=x
abbrev Qtc(x:α:=by exact (.cells ([.string ⟨name.toArray⟩,.int .i64 2,sb,.int .i64 (sz:Int),.bool big,.int .i64 mn,.int .i64 mx,.int .i64 stop,.int .i64 count,.int .i64 elem,sn,sp]:List Value).toArray 65 (0,0))):α:=x
abbrev Vh(x:α:=by exact (0,.agg #[.slice A n c])):α:=x
abbrev QcQ(x:α:=by exact (.cells ([.int .i64 dk,.int .i64 dn,.slice Abv dbs.length cbv,.slice Anv dns.length cnv,.slice Apv p.len cpv]:List Value).toArray 30 (0,0))):α:=x
abbrev KJ(x:α:=by exact (HFM.out.on hw.k.below)):α:=x
abbrev Vl(x:α:=by go_ret;exact⟨by rw[HT.out];rfl,HB2.out⟩):α:=x
abbrev J0(x:α:=by exact (fun _=>.inl Q1)):α:=x
abbrev QnP(x:α:=by exact ⟨HF.out.snoc hy.2.1,HL.out.app hy.2.2,(hfar q y.r hq hy.1).2,by show i+1<=_;omega,by show (A.snoc _ _).len<=i+1;rw[VF.len_snoc];omega,by show (N++[s.data.toList]).length<=i+1;rw[List.length_append];show N.length+1<=i+1;omega,by rw[HR2.out,Qi8 hz hy.1]⟩):α:=x
abbrev QlN(x:α:=by exact (Xs rfl rfl Q1 rfl rfl (by first|exact fun w hw=>hw.range_blk 0 rfl|exact fun w hw=>hw.range_old QR Ql) (by rfl))):α:=x
abbrev Qda(x:α:=by exact (fun _ _ h=>by rw[HC.out] at h;exact h)):α:=x
abbrev VH(x:α:=by show n - (i+1)<n - i;omega):α:=x
abbrev Q8S(x:α:=by show Wd [] W [.row z.1 (i+1) z.2 3 1 (iv (ZH F old (i+1))),_] w;rw[<- HST.out,<- Q2S];exact hw.tl.tl):α:=x
abbrev Qtf(x:α:=by exact [.string ⟨name.toArray⟩,.int .i64 7,.slice Ab bs.length cb,.int .i64 size,.bool big,.int .i64 mn,.int .i64 mx,.int .i64 stop,.int .i64 count,.int .i64 elem,.slice (some ⟨bn,on,none⟩) names.length cn,.slice (some ⟨bp,op,none⟩) parts.length cp]):α:=x
abbrev Q1T(x:α:=by exact fun j u hu=>Up.cell (Q6l j u hu) ⟨_,Q3h _ _ _⟩):α:=x
abbrev Q5R(x:α:=by exact (0,.agg #[.slice (some ⟨b,o,none⟩) n c])):α:=x
abbrev Qh4(x:α:=by exact (1,.agg [.string ⟨name.toArray⟩,.int .i64 kind,sb,.int .i64 size,.bool big,.int .i64 mn,.int .i64 mx,.int .i64 stop,.int .i64 count,.int .i64 elem,sn,sp].toArray)):α:=x
abbrev Q9q(x:α:=by exact (Qj (f:=20) rfl rfl Q1 rfl rfl (fun w hw=>QuD _ _ w))):α:=x
abbrev Q7g(x:α:=by exact (Ja rfl rfl Q1 rfl rfl rfl (by first|exact beq_eq_false_iff_ne.2 Q3|rfl))):α:=x
abbrev Q4h(x:α:=by exact Q2 (show ns.length=nn by have:=hr.len;rw[XQ] at this;exact this)):α:=x
abbrev VD(x:α:=by exact (h _ (by rw[hd];exact ha.put _ hN))):α:=x
abbrev Q8y(x:α:=by exact (4,.pointer (some ⟨b4,0,none⟩))):α:=x
abbrev KQ(x:α:=by exact (RsV.blk 1 rfl rfl (by rw[JI,X3]))):α:=x
abbrev QbW(x:α:=by show parts.length - (i+1)<parts.length - i;omega):α:=x
abbrev QdG(x:α:=by exact [.blk g (.cells ([.slice Af nn cf,.slice As nn cs,.slice Ad nd cd,.int .i64 (p:Int)]:List Value).toArray 60 (0,0))]):α:=x
abbrev Qhy(x:α:=by exact (Xp _ _ _ rfl rfl rfl (fun w hw=>(HNC.out w (H.out.nextW hw 2 3 rfl rfl)).mono (fun e w' h=>Q9v 2 3 Q1 hw rfl rfl (fun x hx=>by cases hx) h)))):α:=x
abbrev QbF(x:α:=by exact (Qj (f:=105) rfl rfl Q1 rfl rfl (fun w hw=>by rw[<- HL.out];exact Q9L _ _ w) (v:=.int .i64 L))):α:=x
abbrev Qh7(x:α:=by exact (Q77 rfl rfl Q1 rfl rfl rfl QR)):α:=x
abbrev QcY(x:α:=by exact (Ja rfl rfl Q1 rfl rfl rfl (by first|exact beq_iff_eq.2 Q3|exact beq_eq_false_iff_ne.2 Q3|rfl))):α:=x
abbrev Kd(x:α:=by exact (QJ.sel [2] Q1 rfl)):α:=x
abbrev QsZ(x:α:=by exact [.string ⟨name.toArray⟩,.int .i64 kind,.slice Ab bs.length cb,.int .i64 size,.bool big,.int .i64 mn,.int .i64 mx,.int .i64 stop,.int .i64 count,.int .i64 elem,.slice An names.length cn,.slice Ap parts.length cp]):α:=x
abbrev Qov(x:α:=by exact [.string ⟨name.toArray⟩,.int .i64 10,.slice Ab bs.length cb,.int .i64 size,.bool big,.int .i64 mn,.int .i64 mx,.int .i64 stop,.int .i64 count,.int .i64 elem,.slice An names.length cn,.slice Ap parts.length cp]):α:=x
abbrev Zk(x:α:=by exact (fun w hw=>hw)):α:=x
abbrev Q5G(x:α:=by rw[Bool.and_eq_false_iff,decide_eq_false_iff_not,decide_eq_false_iff_not];omega):α:=x
abbrev Q4Y(x:α:=by show parts.length - (j+1)<parts.length - j;omega):α:=x
abbrev Qcr(x:α:=by exact (YH rfl rfl Q1 rfl rfl (by rw[Tryz.underlying3];rfl) Tryz.underlying5 hcv)):α:=x
abbrev Qp6(x:α:=by exact (Qj (f:=95) rfl rfl Q1 rfl rfl (fun w hw=>Calls.stay (Xl _ _ _ w)))):α:=x
abbrev Qgf(x:α:=by exact (KK rfl rfl Q1 rfl rfl rfl (by exact decide_eq_true Q3))):α:=x
abbrev Qr4(x:α:=by exact (.cells [.int .i64 0,.int .i64 0].toArray 32 (0,0))):α:=x
abbrev QgV(x:α:=by exact (Qa5 (fun _:Unit=>.tuple #[]) (fun _=>True) (fun _=>_) rfl rfl rfl rfl (fun w hw=>QgM (i:=0) rfl Q3 Q3 Q3 hw))):α:=x
abbrev Qkk(x:α:=by exact ⟨N++[s.data.toList],A.snoc y.r.1 y.r.2.1,cs'++y.cells,z2.1,z2.2,z1.1,z1.2,L++y.L,y.r.2.2,i+1⟩):α:=x
abbrev Qby(x:α:=by exact (1,.agg #[.int .i64 d.k,.int .i64 d.n,.slice Abv nb cbv,.slice Anv nnv cnv,.slice Apv l.len cpv])):α:=x
abbrev Q1s(x:α:=by exact Up.cell (QiR _ _ _ _) ⟨_,Jr _ _⟩):α:=x
abbrev Q6E(x:α:=by exact (HF.out.on hw.k.below)):α:=x
abbrev Q4l(x:α:=by exact Q7 mc4 rfl (.tmp rfl) (fun w hw=>QK rfl hw)):α:=x
abbrev Vf(x:α:=by exact (show 0<nn by omega)):α:=x
abbrev QcP(x:α:=by exact ⟨Qvd hu,by (try simp only[List.length_append,List.length_cons,List.length_nil]);omega⟩):α:=x
abbrev Qs4(x:α:=by exact #[.int .i64 0,.int .i64 0,.slice none 0 0,.slice none 0 0,.slice none 0 0]):α:=x
abbrev K4(x:α:=by exact (List.mem_of_getElem? hx)):α:=x
abbrev Q4o(x:α:=by exact Q2 (show ns.all Qv=false by simpa using hall)):α:=x
abbrev KF(x:α:=by exact (some ⟨bf,0,none⟩)):α:=x
abbrev Q3i(x:α:=by exact (RsV.blk 2 rfl rfl rfl)):α:=x
abbrev QgJ(x:α:=by exact ⟨by rw[HPC.out,List.append_nil],by (try simp only[List.length_append,List.length_cons,List.length_nil]);omega⟩):α:=x
abbrev Qhl(x:α:=by show Wd [] W [.row z.1 (i+1) z.2 3 1 (iv (ZH F old (i+1))),_] w;rw[<- HST.out,H6.out,<- Q2S];exact hw.tl.tl.tl):α:=x
abbrev QhB(x:α:=by exact (1,.agg (ruC r (.slice Ab r.bs.length cb) (.slice An r.names.length cn) (.slice Ap r.parts.length cp)).toArray)):α:=x
abbrev QqR(x:α:=by exact (JH (xs:=[(0,.const (.int .u8 2)),(1,.const (.int .u8 5)),(2,.const (.int .u8 0)),(3,.const (.int .u8 6)),(4,.const (.int .u8 0))]) (vs:=[(0,.int .u8 2),(1,.int .u8 5),(2,.int .u8 0),(3,.int .u8 6),(4,.int .u8 0)]) (cells:=bv exD) rfl rfl rfl (Qau Q1 (by rintro⟨l⟩ h;match l,h with|[z0,z1,z2,z3,z4],_=>rfl)))):α:=x
abbrev YK(x:α:=by exact (Qtr rfl rfl rfl rfl)):α:=x
abbrev Qhd(x:α:=by exact (Qj rfl rfl Q1 rfl rfl (fun w hw=>(Q1I _ _ w).mono (fun e w2 h=>⟨h.1,h.2▸Jr _ _⟩)))):α:=x
abbrev Qsx(x:α:=by exact (XB _ _ _ rfl rfl rfl (fun w hw=>(Q1r ((hy.2.1.below (hw.k.belowB H.out.hB H.out.lt)).more (by have:=H.out.hB;have:=H.out.lt;have:=hw.k.size;omega)) (by have:=congrArg (fun x=>x.1.length) (Vo hy.1).1;simp only[List.length_take,List.length_drop] at this;omega)).mono (fun e w' h=>QlF hw h)))):α:=x
abbrev QbY(x:α:=by exact (YZ 2 rfl rfl rfl rfl rfl rfl rfl Ql)):α:=x
abbrev Jx(x:α:=by simp only;omega):α:=x
abbrev Q4M(x:α:=by exact (H.out.next hw.k hp (hw.own 3 _ rfl))):α:=x
abbrev Q9f(x:α:=by exact Q2 (show Below w.heap.size w w2 from X4 (Q3h _ _ _) hb2)):α:=x
abbrev Q51(x:α:=by exact (fun _=>.inr (QJ.sel [5,6,2] Q1 rfl))):α:=x
abbrev KP(x:α:=by exact (fun _=>.inr Q7t)):α:=x
abbrev KT(x:α:=by exact (hw.own 0 _ rfl)):α:=x
abbrev Q1L(x:α:=by exact fun y:Up W1=>Up.cell (hc 11 _ rfl) y):α:=x
abbrev Q1E(x:α:=by exact fun y:Up W1=>Up.cell (hc 10 _ rfl) y):α:=x
abbrev Kz(x:α:=by exact (QJ.sel [3,1] Q1 rfl)):α:=x
abbrev Q0m(x:α:=by exact (Z8 3 rfl rfl rfl rfl rfl Qdl QaL Q3)):α:=x
abbrev KO(x:α:=by exact (Z8 2 rfl rfl rfl rfl rfl Qdl QaL Q3)):α:=x
abbrev Qi1(x:α:=by exact (some ⟨b,o,none⟩)):α:=x
abbrev Qdz(x:α:=by exact [.blk g (.cells ([.slice Q8X nn cf,.slice As nn cs,.slice Ad nd cd,.int .i64 (p:Int)]:List Value).toArray 60 (0,0))]):α:=x
abbrev QrB(x:α:=by exact (Qj (f:=54) rfl rfl Q1 rfl rfl (fun w hw=>(Q3E KJ HS.out hc KU).mono Qda))):α:=x
abbrev ZR(x:α:=by exact (0,.pointer Q54)):α:=x
abbrev Yc(x:α:=by exact (.cons rfl rfl mc2)):α:=x
abbrev J9(x:α:=by exact (.cons rfl rfl Q6Y)):α:=x
abbrev Qds(x:α:=by exact (.cells ([.slice Q8X nn cf,.slice A xs.length c,.int .i64 (n+1:Int)]:List Value).toArray 77 (0,0))):α:=x
abbrev QhP(x:α:=by exact (Qj rfl rfl Q1 rfl rfl (fun w hw=>(Vp Q6E HS.out hc KU).mono (fun e w' h=>by rw[HZ.out] at h;exact h)))):α:=x
abbrev Q8A(x:α:=by exact (.cells ([.pointer Q54]:List Value).toArray 56 (0,0))):α:=x
abbrev Q1X(x:α:=by exact IntWalk.i64_in _ Q3):α:=x
abbrev Q6V(x:α:=by exact (fun _ _ h=>by rw[H3.out] at h;exact h)):α:=x
abbrev Q1S(x:α:=by exact (.cons rfl rfl Qdu)):α:=x
abbrev Qdh(x:α:=by exact (KK rfl rfl Q1 rfl rfl rfl (by first|exact decide_eq_false Q3|rfl))):α:=x
abbrev Q52(x:α:=by exact (.cons rfl (by go_num) .nil)):α:=x
abbrev QcA(x:α:=by exact [Qur,(1,.pointer (some ⟨h,0,none⟩)),(2,.pointer (some ⟨gf,0,none⟩))]):α:=x
abbrev Q1H(x:α:=by exact fun y:Up W1=>Up.cell (hc 9 _ rfl) y):α:=x
abbrev Q1w(x:α:=by exact fun y:Up W1=>Up.cell (hc 8 _ rfl) y):α:=x
abbrev Q1z(x:α:=by exact fun y:Up W1=>Up.cell (hc 7 _ rfl) y):α:=x
abbrev Q1u(x:α:=by exact fun y:Up W1=>Up.cell (hc 6 _ rfl) y):α:=x
abbrev Q1J(x:α:=by exact fun y:Up W1=>Up.cell (hc 5 _ rfl) y):α:=x
abbrev Q1y(x:α:=by exact fun y:Up W1=>Up.cell (hc 4 _ rfl) y):α:=x
abbrev Q1F(x:α:=by exact fun y:Up W1=>Up.cell (hc 3 _ rfl) y):α:=x
abbrev Q1o(x:α:=by exact fun y:Up W1=>Up.cell (hc 2 _ rfl) y):α:=x
abbrev Q1q(x:α:=by exact fun y:Up W1=>Up.cell (hc 1 _ rfl) y):α:=x
abbrev Q1x(x:α:=by exact fun y:Up W1=>Up.cell (hc 0 _ rfl) y):α:=x
abbrev Q36(x:α:=by exact (V9 2 rfl rfl rfl rfl rfl rfl rfl)):α:=x
abbrev Qo9(x:α:=by exact (Qj rfl rfl Q1 rfl rfl (fun w hw=>Y7 w))):α:=x
abbrev JJ(x:α:=by go_ret;exact⟨rfl,rfl⟩):α:=x
abbrev Q0F(x:α:=by exact (RsV.blk 0 rfl rfl rfl)):α:=x
abbrev QjR(x:α:=by exact (XP rfl rfl Q1 rfl rfl rfl (show i<names.length by omega))):α:=x
abbrev QhR(x:α:=by exact (ZW (xs:=[]) (vs:=[]) (v:=.agg Qs4) rfl rfl Q1 rfl rfl Q7I)):α:=x
abbrev Yu(x:α:=by exact .inl rfl):α:=x
abbrev Qo0(x:α:=by simp only[Rows.uptoBulk];simp only[lits,List.length_map,List.length_take] at h1;simp only[lits];omega):α:=x
abbrev Q1O(x:α:=by exact (QJ.sel [3,4,0] Q1 rfl)):α:=x
abbrev Qk3(x:α:=by rw[if_neg Q3,if_neg Q3,if_neg Q3,if_neg Q3,if_neg Q3,if_neg Q3,if_pos h]):α:=x
abbrev Qte(x:α:=by exact [.blk b3 (.cells ([.int .i64 dk',.int .i64 dn',.slice Ab' nb' cb',.slice An' nn' cn',.slice Ap' L cp']:List Value).toArray 30 (0,0)),.blk b2 (.cells ([.int .i64 dk,.int .i64 dn,.slice Ab nb cb,.slice An nn cn,.slice Ap L cp]:List Value).toArray 30 (0,0))]):α:=x
abbrev Qmj(x:α:=by exact (Z8 3 rfl rfl rfl rfl rfl (fun w hw=>(HRB.out.below (H.out.below hw.k)).more (by have:=hw.k.size;omega)) (Jg _) Q3)):α:=x
abbrev Qhr(x:α:=by exact (Q71 rfl rfl Q1 rfl rfl rfl rfl)):α:=x
abbrev Qou(x:α:=by exact (Qj rfl rfl Q1 rfl rfl (fun w hw=>(Vp Q6E HS.out hc KU).mono (fun e w' h=>by rw[HAB.out] at h;exact h)))):α:=x
abbrev Q4y(x:α:=by exact (Q16 (t:=32) rfl rfl)):α:=x
abbrev Q1K(x:α:=by exact (List.mem_cons_of_mem _ hx)):α:=x
abbrev QhQ(x:α:=by exact (.cells (Qw5:List Value).toArray 65 (0,0))):α:=x
abbrev Qm8(x:α:=by exact (Xs rfl rfl Q1 rfl rfl (by exact fun w hw=>hw.range_blk 0 rfl) (by rfl))):α:=x
abbrev Q2U(x:α:=by exact (1,.int .i64 (k:Int))):α:=x
abbrev QjP(x:α:=by exact (QJ.sel [1,2,3] Q1 rfl)):α:=x
abbrev Qrv(x:α:=by exact [.string ⟨name.toArray⟩,.int .i64 kind,.slice Ab bs.length cb,.int .i64 size,.bool big,.int .i64 mn,.int .i64 mx,.int .i64 stop,.int .i64 count,.int .i64 elem,.slice An ([]:List (List UInt8)).length cn,.slice Ap parts.length cp]):α:=x
abbrev Qtg(x:α:=by exact (Qlc Tryz.underlying9 rfl rfl Q1 rfl rfl)):α:=x
abbrev QdE(x:α:=by exact (XP rfl rfl Q1 rfl rfl rfl QR)):α:=x
abbrev Yv(x:α:=by rw[hsz];omega):α:=x
abbrev QtA(x:α:=by exact (HL.out.new fun x hx=>hw.onAll x (by simp [hx]))):α:=x
abbrev Q0J(x:α:=by exact (.cons rfl rfl mc1)):α:=x
abbrev Q1n(x:α:=by exact fun y:Up W1=>Up.cell hc14 y):α:=x
abbrev Q1A(x:α:=by exact fun y:Up W1=>Up.cell hc13 y):α:=x
abbrev Q8R(x:α:=by exact (V9 5 rfl rfl rfl rfl rfl rfl rfl)):α:=x
abbrev QbR(x:α:=by exact (Q7k rfl rfl Q1 rfl rfl rfl)):α:=x
abbrev Qm4(x:α:=by exact (Xq rfl rfl Q1 rfl rfl (by exact fun w hw=>hw.cell_blkL 0 rfl rfl))):α:=x
abbrev Q1C(x:α:=by rw[HLEN.out];exact hkn):α:=x
abbrev QrE(x:α:=by exact (.cells ([.slice Q8X nn cf,.slice As nn cs,.slice Ad nd cd,.int .i64 (y.q:Int)]:List Value).toArray 60 (0,0))):α:=x
abbrev QsC(x:α:=by exact fun(w:World) (hw:XV w ⟨some ⟨bf,of,none⟩,nn,cf⟩ B g F A c xs (n+1))=>Q6A hw (sb:=.slice Ab2 r2.bs.length cb2) (sn:=.slice An2 r2.names.length cn2) (sp:=.slice Ap2 r2.parts.length cp2) hNO hcnt Q3):α:=x
abbrev Qox(x:α:=by rw[if_neg Q3,if_neg Q3,if_neg Q3,if_neg Q3,if_neg Q3,if_pos h]):α:=x
abbrev QsI(x:α:=by exact (.cells ([.slice Q8X nn cf,.slice As nn cs,.slice Ad nd cd,.int .i64 (q:Int)]:List Value).toArray 60 (0,0))):α:=x
abbrev Q0H(x:α:=by exact ⟨w.heap.size,0,none⟩):α:=x
abbrev QdD(x:α:=by exact (Q9j rfl rfl Q1 rfl rfl rfl)):α:=x
abbrev Q8l(x:α:=by exact (QG rfl rfl Q1 rfl rfl rfl hxn)):α:=x
abbrev Qsy(x:α:=by exact (VN rfl rfl Q1 rfl rfl rfl (fun w hw=>Qbs (HFM.out.below (hw.k.below.mono hBW)) (by have:=hw.k.size;omega) (hw.cell_blkL 2 rfl rfl) (hw.cell_blkL 1 rfl rfl) (hw.cell_old hcg Ql) HCT.out))):α:=x
abbrev Q8o(x:α:=by exact (fun _=>.inr (QJ.sel [2,3] Q1 rfl))):α:=x
abbrev Qgk(x:α:=by exact (Qj (f:=133) rfl rfl Q1 rfl rfl (fun w hw=>Q26 _ w hnm))):α:=x
abbrev Q4x(x:α:=by exact Q2 (Qfx HN6.out HALL.out)):α:=x
abbrev Q6N(x:α:=by exact (.cons rfl (by go_num) Qdu)):α:=x
abbrev QgR(x:α:=by exact (.cells (Qvk:List Value).toArray 65 (0,0))):α:=x
abbrev Qrf(x:α:=by exact fun(w:World) (hw:XV w ⟨some ⟨bf,of,none⟩,nn,cf⟩ B g F A c xs (n+1))=>Q6A hw (sb:=.slice Ab bs.length cb) (sn:=.slice An names.length cn) (sp:=.slice Ap parts.length cp) hNO hcnt Q3):α:=x
abbrev ZL(x:α:=by exact (ha.eval hx)):α:=x
abbrev Q8w(x:α:=by exact (fun x hx=>by rw[<- HE.out,hx];rfl)):α:=x
abbrev Qkm(x:α:=by simp [Builtin.append_,run_underlying hT.und,sizeOf,typeInfo,hi,Builtin.lenOf,Builtin.firstCells,hnc,storeCells]):α:=x
abbrev Qka(x:α:=by exact (Qj (f:=28) rfl rfl Q1 rfl rfl (fun w hw=>(Vp KJ HS.out hc KU).mono Qda))):α:=x
abbrev Y5(x:α:=by exact (fun _ hw=>hw.tl)):α:=x
abbrev Q9s(x:α:=by rw[<- QP hg];simp only;omega):α:=x
abbrev Qot(x:α:=by simp only[VF.len_snoc,List.length_append,QlR];exact h):α:=x
abbrev QmQ(x:α:=by exact (QqV rfl rfl Q1 rfl rfl)):α:=x
abbrev Q50(x:α:=by exact (hb1.cell Ql).trans Ql):α:=x
abbrev Qgl(x:α:=by exact #[.pointer (some ⟨b4,0,none⟩),.pointer (some ⟨b5,0,none⟩)]):α:=x
abbrev Qce(x:α:=by simp [results,Tryz.results16,go_sem,r0,r1,z4]):α:=x
abbrev Q6y(x:α:=by exact ⟨hjn,by omega,by omega,H2.out⟩):α:=x
abbrev Qsf(x:α:=by exact (Qj (f:=57) rfl rfl Q1 rfl rfl (fun w hw=>Qc7 w))):α:=x
abbrev Qrq(x:α:=by exact (fun w hw=>(Q5w (HO.out.on hw.k.below) hcn).mono fun e w' hq=>⟨by rw[hq.1,H1.out],hq.2⟩)):α:=x
abbrev Qli(x:α:=by exact (.cells ([.slice Af nn cf,.slice A xs.length c,.int .i64 (n:Int)]:List Value).toArray 77 (0,0))):α:=x
abbrev QsR(x:α:=by exact ⟨A.snoc y.r.1 y.r.2.1,cs'++y.cells,z.1,z.2,L++y.L,y.r.2.2,n⟩):α:=x
abbrev QhS(x:α:=by exact (Qj rfl rfl Q1 rfl rfl (fun w hw=>Qb5 _ _ _ w))):α:=x
abbrev Q4p(x:α:=by rw[HLEN.out] at hj;omega):α:=x
abbrev QkT(x:α:=by exact ⟨⟨by decide,by decide,by decide,by decide⟩,by decide,by decide,fun x hx=>by cases hx⟩):α:=x
abbrev Qgg(x:α:=by exact (Q71 rfl rfl Q1 rfl rfl rfl hne)):α:=x
abbrev J5(x:α:=by exact (ha.want hw)):α:=x
abbrev Jt(x:α:=by exact hb):α:=x
abbrev Qh8(x:α:=by exact (RsV.blk 3 rfl rfl rfl)):α:=x
abbrev Qh3(x:α:=by have:=hs.name;show r.name.toArray.size<=_;rw[List.size_toArray];omega):α:=x
abbrev Q4B(x:α:=by rw[HLEN.out];exact hn40):α:=x
abbrev Q7v(x:α:=by go_ret;exact⟨by rw[HK.out];rfl,rfl⟩):α:=x
abbrev Qnx(x:α:=by rw[if_neg Q3,if_neg Q3,if_neg Q3,if_neg Q3,if_pos h]):α:=x
abbrev Q0Q(x:α:=by exact (hw.own 1 _ rfl)):α:=x
abbrev Q8v(x:α:=by go_ret;exact⟨rfl,X4 (Q3h _ _ _) hb2⟩):α:=x
abbrev Q6W(x:α:=by exact List.mem_singleton.2 rfl):α:=x
abbrev Q4i(x:α:=by rw[HLEN.out];exact hn0):α:=x
abbrev QsB(x:α:=by exact XG () [0,1,2,3] Q1 trivial (.cons rfl rfl (.cons rfl rfl (.cons rfl rfl (.cons rfl rfl (.cons rfl rfl (.cons rfl rfl (.cons rfl (by rw[hb];rfl) .nil))))))) rfl):α:=x
abbrev QcR(x:α:=by exact .inr ⟨_,h2,x,hx x h1,rfl,hw.k.thenK hk⟩):α:=x
abbrev QtI(x:α:=by exact (XB _ _ _ (f:=55) rfl rfl rfl (fun w hw=>Qje HFM.out HF.out hn40 hn0 hw))):α:=x
abbrev Q7p(x:α:=by exact (QnW rfl Q1 rfl)):α:=x
abbrev Qd3(x:α:=by obtain⟨b,n,s⟩:=p;simp [execOp,ho,hx,hc,go_sem]):α:=x
abbrev Qnd(x:α:=by have h:=Nat.le_trans (Nat.le_mul_of_pos_right (n+m) hT.bpos) hbytes;simp only[maxLen];omega):α:=x
abbrev Q1G(x:α:=by exact (YE h).elim):α:=x
abbrev Q0w(x:α:=by have:=(h.far _ e).1;omega):α:=x
abbrev Qdr(x:α:=by exact ⟨rfl,Jr _ _⟩):α:=x
abbrev QrX(x:α:=by exact (QhO rfl rfl Q1 rfl rfl rfl (v:=true) Ql)):α:=x
abbrev QlK(x:α:=by exact (.cells ([.slice A n c]:List Value).toArray 24 (0,0))):α:=x
abbrev QqU(x:α:=by exact (fun _=>[Qb.blk g (.cells [.slice VL ws0.length 2].toArray 27 (0,0)),Qb.row VL ws0.length 2 9 1 (sv ws0),Qb.blk br Q8q,Qb.blk bf Q8j])):α:=x
abbrev Qof(x:α:=by exact (fun w hw=>⟨rfl,hw.k.below⟩)):α:=x
abbrev Q1B(x:α:=by exact Qii _ _ _ _ _):α:=x
abbrev Qns(x:α:=by exact (Xq rfl rfl Q1 rfl rfl (fun w hw=>hw.cell_old hcs (by simp;omega)))):α:=x
abbrev Q0e(x:α:=by exact (fun i=>i.elim)):α:=x
abbrev QnN(x:α:=by exact (List.mem_cons_of_mem _ hk)):α:=x
abbrev Q2Q(x:α:=by exact (1,.int .i64 (b:Int))):α:=x
abbrev Qsk(x:α:=by exact Q7 mc4 rfl JY (fun w hw=>⟨hw.k,.inr ⟨ndN y.1,.nil,y.2,_,[],by rw[<- HE.out,hy];rfl,rfl,hw.own 3 _ rfl,XA.num _,New.nil _ _⟩⟩)):α:=x
abbrev Qhq(x:α:=by exact Ag.cons (Ag.nil ha.sz ha.df) (by exact ha.at_ rfl)):α:=x
abbrev Qs9(x:α:=by exact (Qj (f:=116) rfl rfl Q1 rfl rfl (fun w hw=>(Q6u KJ (HLK.out.on hw.k.below) HSM.out (Quq HOK.out)).mono (fun _ _ h=>h)))):α:=x
abbrev QmU(x:α:=by simp [results,Tryz.results69,go_sem,r0,r1,z4]):α:=x
abbrev Q8n(x:α:=by exact (List.replicate F.length false)):α:=x
abbrev Qnu(x:α:=by rintro v w' ⟨i,rfl,hp,hW'⟩;rw[hd];exact hK _ _ (h i hp _ w' (ha.put _ hN) hW')):α:=x
abbrev Qtw(x:α:=by exact (XB _ _ _ (f:=121) rfl rfl rfl (fun w hw=>Qj7 HG.out hw KU))):α:=x
abbrev QhA(x:α:=by exact (Z8 4 rfl rfl rfl rfl rfl Qdl QaL Q3)):α:=x
abbrev Ql7(x:α:=by exact (Q3F (l:=1) rfl rfl Q1 rfl rfl rfl hlt)):α:=x
abbrev Q1W(x:α:=by exact (fun _=>.inr Q0P)):α:=x
abbrev QhM(x:α:=by rw[List.length_take,List.length_drop];omega):α:=x
abbrev Q9t(x:α:=by exact (beq_eq_false_iff_ne.2 Q3)):α:=x
abbrev Qmh(x:α:=by exact Q2 (show xs.length=n by have:=h.len;rw[Q0B] at this;exact this)):α:=x
abbrev Q4D(x:α:=by exact (fun b' hb'=>.inl hb')):α:=x
abbrev Qhg(x:α:=by exact (XB _ _ _ rfl rfl rfl (fun w hw=>QvN hw))):α:=x
abbrev Qt7(x:α:=by exact (KK rfl rfl Q1 rfl rfl rfl (by exact decide_eq_false Q3))):α:=x
abbrev Q5Q(x:α:=by exact (1,.int .i64 k)):α:=x
abbrev Qt6(x:α:=by exact (Qj (f:=120) rfl rfl Q1 rfl rfl (fun w hw=>(Q6w (HLK.out.on hw.k.below) HOK.out ((Q7r F).trans HLEN.out) Q0Q).mono (fun _ _ h=>h)))):α:=x
abbrev QnA(x:α:=by exact (QG rfl rfl Q1 rfl rfl rfl Q3)):α:=x
abbrev QgN(x:α:=by exact ⟨h.1,by rw[<- h.2];exact Below.refl _ _⟩):α:=x
abbrev QnF(x:α:=by exact Q2 (show Below w.heap.size w W1 by rw[<- hW1];exact Jr _ _)):α:=x
abbrev Qh0(x:α:=by exact [Qur,(1,.slice A m c),(2,.int .i64 (n:Int))]):α:=x
abbrev QsM(x:α:=by show l.length - (i+1)<l.length - i;omega):α:=x
abbrev KY(x:α:=by exact (.inl hkind)):α:=x
abbrev QrF(x:α:=by rw[QE];rw[if_neg Q3,if_neg Q3,if_neg Q3,if_neg Q3,if_neg Q3,if_neg Q3,if_neg Q3,if_pos h,hc];simp only;rw[hi]):α:=x
abbrev Qsl(x:α:=by exact (QvW rfl rfl Q1 rfl rfl rfl)):α:=x
abbrev Qlw(x:α:=by exact (Q5B rfl rfl Q1 rfl rfl rfl (by rfl))):α:=x
abbrev Qrk(x:α:=by exact (Xp _ _ _ rfl rfl rfl (fun w hw=>Q5v (H.out.next hw.k hpi Q0Q) HC.out hw (fun w' hw'=>⟨p+i,HE.out,rfl,hw'.k⟩)))):α:=x
abbrev QrU(x:α:=by exact (Qj (f:=118) rfl rfl Q1 rfl rfl (fun w hw=>(Qfh KT ((ZN F).trans HLEN.out) hsz).mono (fun _ _ h=>h)))):α:=x
abbrev QrJ(x:α:=by exact [(0,.agg #[a0,.int .i64 5,.slice Ab nb cb,.int .i64 size,.bool big,.int .i64 mn,.int .i64 mx,.int .i64 stop,a8,a9,a10,a11])]):α:=x
abbrev KM(x:α:=by exact (fun _ hw=>hw)):α:=x
abbrev Q2I(x:α:=by exact (.error (p+i))):α:=x
abbrev QgE(x:α:=by exact ⟨name.toArray⟩):α:=x
abbrev QkL(x:α:=by exact ⟨_,(Array.toArray_toList).symm,by simp⟩):α:=x
abbrev Qst(x:α:=by exact [.blk g (.cells ([.slice Af nn cf,.slice As nn cs,.slice Ad nd cd,.int .i64 ((p+i:Nat):Int)]:List Value).toArray 60 (0,0))]):α:=x
abbrev Qhk(x:α:=by exact (Ji rfl rfl Q1 rfl rfl rfl hqn)):α:=x
abbrev YS(x:α:=by exact hB):α:=x
abbrev Q4w(x:α:=by exact (H.out.below hw.k)):α:=x
abbrev Qhj(x:α:=by rw[<- HC.out];simp [Xr,hk1,hk7,hk8,h1,h2,h3,h4]):α:=x
abbrev Q0O(x:α:=by exact (X3 _)):α:=x
abbrev Qhf(x:α:=by exact (6,.func (.func 122) #[] #[.pointer Q54])):α:=x
abbrev QgB(x:α:=by go_ret;exact⟨by rw[HK.out];rfl,Below.refl _ _⟩):α:=x
abbrev Q96(x:α:=by have:=hw.k.size;omega):α:=x
abbrev Qsu(x:α:=by show Wd [] W [.row z.1 (i+1) z.2 3 1 (iv (ZH F old (i+1))),_] w;rw[<- HST.out,H6.out,<- HS2.out,<- Q2S];exact hw.tl.tl):α:=x
abbrev Qlx(x:α:=by exact decide_eq_false Q3):α:=x
abbrev QsL(x:α:=by exact (Q0A rfl rfl Q1 rfl rfl rfl QR)):α:=x
abbrev Q7x(x:α:=by rw[HNP.out];omega):α:=x
abbrev Q9b(x:α:=by exact (HV.out.on hw.k.below)):α:=x
abbrev Qkr(x:α:=by exact (Qkh rfl rfl Q1 rfl rfl)):α:=x
abbrev Qrz(x:α:=by exact (Qo4 rfl rfl Q1 rfl rfl)):α:=x
abbrev Qlp(x:α:=by exact (Qj rfl rfl Q1 rfl rfl (fun w hw=>QdP _ w))):α:=x
abbrev Q4j(x:α:=by exact (fun _=>.inr (QJ.sel [3,4] Q1 rfl))):α:=x
abbrev Qhe(x:α:=by rw[<- HC.out];simp [Xr,hk1,hk7,hk8,h1,h2,h3]):α:=x
abbrev Qo3(x:α:=by exact (hr.parts (.inl h7) k hk)):α:=x
abbrev Q4E(x:α:=by simp [hx]):α:=x
abbrev QqW(x:α:=by simp only[ho];exact .inr ⟨hw,Empty,fun i=>i.elim,fun i=>i.elim,fun w h=>absurd ⟨w,h⟩ hne,fun i=>i.elim,fun i=>i.elim⟩):α:=x
abbrev QrR(x:α:=by exact ⟨by rw[List.append_assoc];rfl,by (try simp only[List.length_append,List.length_cons,List.length_nil]);omega⟩):α:=x
abbrev Qts(x:α:=by exact ZP (Xp _ _ _ rfl rfl rfl (fun w hw=>Q0c hw (fun w' hw'=>⟨p,HE.out,rfl,hw'.k⟩))) rfl Q1 Q0e):α:=x
abbrev Qho(x:α:=by exact (V9 3 rfl rfl rfl rfl rfl rfl rfl)):α:=x
abbrev QgK(x:α:=by exact (V9 1 rfl rfl rfl rfl rfl rfl rfl)):α:=x
abbrev Q07(x:α:=by exact (.inr hkind)):α:=x
abbrev Qrj(x:α:=by exact (.cells ([.slice Qi1 i c]:List Value).toArray 24 (0,0))):α:=x
abbrev QsT(x:α:=by obtain⟨rfl,_,rfl⟩:=hv;simp [Builtin.append_,run_underlying hT.und,sizeOf,typeInfo,hi,Builtin.lenOf,Builtin.firstCells]):α:=x
abbrev Qtx(x:α:=by exact ZP (Xp _ _ _ rfl rfl rfl (fun w hw=>Q0c hw (fun w' hw'=>⟨rfl,hw'.k.below⟩))) rfl Q1 Q0e):α:=x
abbrev Qsv(x:α:=by exact (Qj (f:=117) rfl rfl Q1 rfl rfl (fun w hw=>(Q9W KJ HF.out hn40 hkn).mono (fun _ _ h=>h)))):α:=x
abbrev Qgs(x:α:=by exact ⟨hct.1,by rw[<- hFn];exact hct.2⟩):α:=x
abbrev Qt2(x:α:=by exact (Xp _ _ _ rfl rfl rfl (fun w hw=>(Q2u Q4M HNO.out).mono (fun e w' h=>Q9U 3 rfl hw Q8w h)))):α:=x
abbrev Q9h(x:α:=by exact (HV.out.on (Q3h _ _ _))):α:=x
abbrev Q4r(x:α:=by exact (2,.pointer KF)):α:=x
abbrev Qls(x:α:=by rw[<- Qbx,HTQ.out,HSQ.out,Nat.zero_add,Nat.mul_one];rfl):α:=x
abbrev Qtb(x:α:=by show Wd [] W [.row z.1 (i+1) z.2 3 1 (iv (ZH F old (i+1))),_] w;rw[<- HST.out,H6.out,<- Q2S];exact hw.tl.tl):α:=x
abbrev Qmo(x:α:=by exact (.cons rfl rfl (.cons rfl rfl Q1S))):α:=x
abbrev Qgt(x:α:=by rw[<- HC.out];simp [Xr,hk1,hk7,hk8,h1,h2]):α:=x
abbrev Qsz(x:α:=by exact (Qj rfl rfl Q1 rfl rfl (fun w hw=>(K3 _ _ w).mono (fun e w2 h=>⟨h.1,h.2▸Jr _ _⟩)))):α:=x
abbrev QdB(x:α:=by exact (fun _=>True)):α:=x
abbrev QcE(x:α:=by exact (QJ.sel [3] Q1 rfl)):α:=x
abbrev Qrr(x:α:=by rw[if_neg Q3,if_neg Q3,if_neg Q3,if_neg Q3,if_neg Q3,if_neg Q3,if_neg Q3,if_neg Q3]):α:=x
abbrev Qrm(x:α:=by obtain⟨j,h1,h2,h3,h4⟩:=hq;exact⟨m j,h2,j,h1,rfl,h3,h4⟩):α:=x
abbrev Qt8(x:α:=by exact ⟨by omega,by have:=hv.len;omega⟩):α:=x
abbrev Qgh(x:α:=by exact List.eq_nil_of_length_eq_zero Q3):α:=x
abbrev QkK(x:α:=by simp only[List.map_cons,List.sum_cons,List.length_cons];omega):α:=x
abbrev QsF(x:α:=by exact (Qj (f:=35) rfl rfl Q1 rfl rfl (fun w hw=>(QbM KJ HS.out hkn HK.out).mono Qda))):α:=x
abbrev QsY(x:α:=by exact Q2 (show RES=some Q2I by rw[HRES.out];exact Q30 HC.out (fun h=>hs h.2) (.inr (.inr hm)))):α:=x
abbrev QtB(x:α:=by exact Q2 (Qkq (VF.all_drop HALL.out i) hdr (XU.drop p i HFP.out) (Yw.drop p i HGP.out) hl')):α:=x
abbrev Q8Z(x:α:=by exact absurd h Q1):α:=x
abbrev QbQ(x:α:=by exact (hr.elem (.inl h6))):α:=x
abbrev Q4W(x:α:=by simp;omega):α:=x
abbrev Qtm(x:α:=by show 256 - (i+1)<256 - i;omega):α:=x
abbrev Qn3(x:α:=by exact (List.mem_cons_of_mem _ hy)):α:=x
abbrev Qs7(x:α:=by rw[if_neg Q3,if_neg Q3,if_neg Q3,if_neg Q3,if_neg Q3,if_neg Q3,if_neg Q3,if_pos h]):α:=x
abbrev Qpf(x:α:=by injection h with h;subst h;rw[Addr.add_mid];exact hc j u hu):α:=x
abbrev Qry(x:α:=by exact [Q2k,(5,.slice Q5F n n),(6,.slice VL 256 256),(7,.int .i64 (q:Int)),(8,.int .i64 (i:Int))]):α:=x
abbrev Qsq(x:α:=by exact (QrD rfl rfl Q1 rfl rfl rfl)):α:=x
abbrev QhN(x:α:=by exact (.inr ⟨by simpa using hw,rfl⟩)):α:=x
abbrev Qi5(x:α:=by rw[<- HC.out];simp [Xr,hk1,hk7,hk8,h1]):α:=x
abbrev QqX(x:α:=by exact (Z8 1 rfl rfl rfl rfl rfl Qdl QaL Q3)):α:=x
abbrev QsG(x:α:=by exact (Ja rfl rfl Q1 rfl rfl rfl (by first|assumption|exact beq_eq_false_iff_ne.2 Q3|rfl))):α:=x
abbrev Ql0(x:α:=by exact (Qj rfl rfl Q1 rfl rfl (fun w hw=>hcc w))):α:=x
abbrev Qbp(x:α:=by exact (fun w hC=>hr w hC i v hv)):α:=x
abbrev Qd0(x:α:=by rw[HNP.out];exact hlt):α:=x
abbrev Qdq(x:α:=by exact (List.mem_of_getElem? hrk)):α:=x
abbrev QoD(x:α:=by go_ret;exact⟨by rw[<- HF.out];simp [QC],HB2.out⟩):α:=x
abbrev Qrs(x:α:=by exact (fun h0=>by obtain⟨b,o,h1,h2,h3⟩:=HCH.out h0;exact⟨b,o,h1,h2,h3.below h2 Q4w Xk⟩)):α:=x
abbrev Q7z(x:α:=by exact (Nat.succ_pos _)):α:=x
abbrev QhE(x:α:=by exact ⟨hkn,YR HA.out HRK.out⟩):α:=x
abbrev Qtp(x:α:=by exact Zc Yu rfl (fun w hw=>Yd H.out 3 4 (b:=dbs++[sB]) hw rfl rfl HZ.out Q3 Q3)):α:=x
abbrev Qcq(x:α:=by exact (ndL,z.1,z.2)):α:=x
abbrev Q1Q(x:α:=by exact (hcl.set hr')):α:=x
abbrev Q63(x:α:=by exact (hB.symm.trans h0)):α:=x
abbrev Q2T(x:α:=by exact (h a w ha hw)):α:=x
abbrev Q8B(x:α:=by exact (3,.pointer Q5F)):α:=x
abbrev QbU(x:α:=by exact (.cons rfl rfl Yc)):α:=x
abbrev QtC(x:α:=by rintro e' u' w8 ⟨rfl,rfl,rfl⟩;exact⟨_,Qqy rfl (VW ha hw h4) (VW ha hw h5),hR _ hw⟩):α:=x
abbrev QrO(x:α:=by exact (XB _ _ _ rfl rfl rfl (fun w hw=>QbB hw Q6E HS.out hc KU Q9b HSZ.out HP.out))):α:=x
abbrev Qtd(x:α:=by exact (Qj (f:=89) rfl rfl Q1 rfl rfl (fun w hw=>(QbD KJ HS.out hc).mono Qda))):α:=x
abbrev Qmc(x:α:=by exact (Q16 (t:=65) rfl rfl)):α:=x
abbrev QoZ(x:α:=by rw[<- HSET.out,HST.out];rw[Nat.zero_add] at hw;exact hw):α:=x
abbrev Qs0(x:α:=by exact ⟨h1,h4,fun x hx=>⟨h5.rd x hx,fun b hb=>Nat.le_trans hw.k.size (h5.far x hx b hb)⟩⟩):α:=x
abbrev Qtk(x:α:=by exact [ZR,(1,.pointer (some ⟨k,0,none⟩)),(5,.iface 32 (.agg #[.int .i64 c,.int .i64 x]))]):α:=x
abbrev QrP(x:α:=by rw[<- HR.out];exact HS.out):α:=x
abbrev QhU(x:α:=by exact (QJ.sel [4,5,1] Q1 rfl)):α:=x
abbrev Qs1(x:α:=by exact ((Below.refl _ _).alloc Xk _)):α:=x
abbrev QnE(x:α:=by exact ⟨rfl,rfl,rfl,Nat.le_refl _,fun _ _ _=>rfl⟩):α:=x
abbrev Qn0(x:α:=by exact (ZT 1 rfl rfl rfl rfl rfl rfl Q3)):α:=x
abbrev Qr0(x:α:=by exact (XB _ _ _ (f:=97) rfl rfl rfl (fun w hw=>Q8V (n:=F.length) HLK.out HOK.out hw))):α:=x
abbrev QsW(x:α:=by exact (Qj rfl rfl Q1 rfl rfl (fun w hw=>Q38 (H.out.next hw.k hpi hw.blkH) HC.out))):α:=x
abbrev QqY(x:α:=by exact (fun b' hb'=>by simp only[Qb.foot] at hb';rw[if_neg Q3] at hb';cases hb';exact h1)):α:=x
abbrev Q8m(x:α:=by exact (5,.slice VL n n)):α:=x
abbrev Qro(x:α:=by unfold ZG;rw[if_neg Q3,if_neg Q3,if_neg Q3,if_neg Q3,if_neg Q3,if_neg Q3]):α:=x
abbrev QtD(x:α:=by exact ⟨rfl,by (try simp only[List.length_append,List.length_cons,List.length_nil]);omega⟩):α:=x
abbrev Qoh(x:α:=by exact Q2 ((hp.below HB1.out).more HB1.out.size)):α:=x
abbrev QmK(x:α:=by exact (Qnm rfl rfl rfl rfl Q3)):α:=x
abbrev QsH(x:α:=by exact (Xs rfl rfl Q1 rfl rfl (fun w hw=>hw.range_old hrg2 (by simpa using hbg)) rfl)):α:=x
abbrev Qml(x:α:=by exact (J7 rfl rfl Q1 rfl rfl rfl hx)):α:=x
abbrev QmT(x:α:=by exact (QG rfl rfl Q1 rfl rfl rfl hcn)):α:=x
abbrev Q9y(x:α:=by exact (hw.own i _ hO)):α:=x
abbrev Qoy(x:α:=by rw[<- HC.out];simp [Xr,hk1,hk7,hk8,h1,h2,h3,h4,h6]):α:=x
abbrev QqS(x:α:=by rw[if_neg Q3,if_neg Q3,if_neg Q3,if_pos h]):α:=x
abbrev QsQ(x:α:=by exact Qr (i+1,z2.1,z2.2) hlt (by show sz - (i+1)<sz - i;omega) Yc (fun w hw=>hw.tl)):α:=x
abbrev QsP(x:α:=by exact Zc Yu rfl (fun w hw=>Yd H.out 2 3 (b:=uy) hw rfl rfl HZ.out Q3 Q3)):α:=x
abbrev Qrh(x:α:=by exact [ZR,(6,.slice Ab bs.length cb),(7,.int .i64 (bs.length:Int)),(8,.int .i64 (i:Int))]):α:=x
abbrev Qsg(x:α:=by exact ⟨by rw[Qkp (fun j y hj=>HF.out j y (by rw[HL.out] at hj;omega))];rfl,HB.out⟩):α:=x
abbrev Qk5(x:α:=by exact ⟨Qw9 _ _ _ _,.inl ⟨_,_,HC.out,rfl⟩⟩):α:=x
abbrev Qs5(x:α:=by exact [.blk b2 (.cells cur2.toArray 3 (0,0)),.row VL n n 4 1 (XM seen),.blk bf Q8j]):α:=x
abbrev QtE(x:α:=by exact .inr ⟨hw,ι,V,G,hr1,hG,fun x=>go _ _ (hG x).1 ((hG x).2.resolve_left hjT) (hk x)⟩):α:=x
abbrev QoK(x:α:=by exact (ZQ rfl rfl Q1 rfl rfl rfl hkn)):α:=x
abbrev Qso(x:α:=by exact (Jb (size:=1) (cs:=[.int .u8 ((dgc m).toNat:Int)]) rfl rfl rfl rfl rfl Q1)):α:=x
abbrev QrI(x:α:=by exact (XB _ _ _ (f:=37) rfl rfl rfl (fun w hw=>Q7i HFM.out HF.out hn40 hkn hw))):α:=x
abbrev Qsj(x:α:=by exact (XB _ _ _ (f:=119) rfl rfl rfl (fun w hw=>QjB HFM.out HF.out hn40 hn0 hw))):α:=x
abbrev Qsi(x:α:=by exact (QG rfl rfl Q1 rfl rfl rfl (show 0<=count/\count<(nn:Int) by omega))):α:=x
abbrev QnH(x:α:=by exact ⟨rfl,fun h=>absurd h (Nat.lt_irrefl _)⟩):α:=x
abbrev QsJ(x:α:=by exact ⟨by rw[HLE.out,HR.out],Kf (Z3 (X4 HB2.out HBR.out) Q3 _ _) _⟩):α:=x
abbrev Qsh(x:α:=by exact ⟨by rw[HLE.out,HR.out],Kf (Z3 (X4 HB2.out HB3.out) Q3 _ _) _⟩):α:=x
abbrev Qp2(x:α:=by exact (ZT 0 rfl rfl rfl rfl rfl rfl hst)):α:=x
abbrev QdI(x:α:=by exact (hr.elem (.inr h9))):α:=x
abbrev Qtv(x:α:=by exact (fun n hn=>hwz n (List.mem_of_mem_take hn))):α:=x
abbrev Q9i(x:α:=by simpa using hy):α:=x
abbrev Qs6(x:α:=by exact ⟨by rw[HT.out];rfl,HBW.out.trans ⟨rfl,rfl,rfl,Nat.le_refl _,fun _ _=>rfl⟩⟩):α:=x
abbrev Q6M(x:α:=by exact (hw.own 4 _ rfl)):α:=x
abbrev QoV(x:α:=by rw[<- HI.out,Q66 hlt (by rw[hv];decide),hv]):α:=x
abbrev Qoq(x:α:=by rw[<- HI.out,Q66 hin (by rw[hv];decide),hv]):α:=x
abbrev Qtt(x:α:=by exact Ke (A:=[]) (R:=[]) B A (Z.drop A.length) (by rw[List.length_drop];omega)):α:=x
abbrev QmA(x:α:=by exact (inferInstance:Sl Tryz.prog 28 30 5 88).h):α:=x
abbrev QoC(x:α:=by exact (fun w hw=>hw.row _ _)):α:=x
abbrev QmR(x:α:=by have h:=Nat.le_trans (Nat.le_mul_of_pos_right (n+1) hT.bpos) hbytes;simp only[maxLen];omega):α:=x
abbrev QfB(x:α:=by exact (QE F D f elem)):α:=x
abbrev QeQ(x:α:=by exact (1,.slice A2 m c2)):α:=x
abbrev Qom(x:α:=by exact ⟨none,0,rfl,by rw[HX.out];exact World.ownsRow_nil _ _ _ _,Below.refl _ _⟩):α:=x
abbrev QnG(x:α:=by exact QbA (lits (H:=H) .u8 (zs.take len))):α:=x
abbrev Qfk(x:α:=by exact (QhO rfl rfl Q1 rfl rfl rfl rfl)):α:=x
abbrev Qg2(x:α:=by simp only[List.length_cons,List.length_nil];omega):α:=x
abbrev Qfo(x:α:=by rw[List.length_replicate] at this;exact this.symm):α:=x
abbrev Qoc(x:α:=by exact (fun _=>[.blk b3 (.cells (Qtf:List Value).toArray 65 (0,0)),.blk b2 Q7w])):α:=x
abbrev Qmz(x:α:=by exact ⟨(Z3 HPB.out Q3 _ _).drew,.inl ⟨c,ix,HC.out,HF.out,rfl⟩⟩):α:=x
abbrev Qel(x:α:=by exact XG () [0,1] Q1 trivial Qdu rfl):α:=x
abbrev QkQ(x:α:=by exact (V9 0 rfl rfl rfl rfl rfl rfl rfl)):α:=x
abbrev Qfu(x:α:=by exact (V9 0 rfl rfl rfl rfl rfl rfl hc0)):α:=x
abbrev QkU(x:α:=by exact [Q2k,(5,.slice Q5F n n),(6,.slice VL 256 256),(7,.int .i64 (q:Int))]):α:=x
abbrev Vu(x:α:=by have:=h.hB;omega):α:=x
abbrev QkA(x:α:=by exact (V9 0 rfl rfl rfl rfl rfl rfl (ZD _ (show 0+n*1<256 by omega)))):α:=x
abbrev QkV(x:α:=by exact (fun x hx=>by rw[List.mem_singleton] at hx;subst hx;exact hw.own 0 _ rfl)):α:=x
abbrev Qb6(x:α:=by exact (QkE rfl rfl rfl rfl)):α:=x
abbrev QfW(x:α:=by rw[HLEN.out];exact hk):α:=x
abbrev QmZ(x:α:=by rw[Qft,HOUT.out,Nat.zero_add,Q0V];unfold Zb;rw[HRK.out,HK.out];rfl):α:=x
abbrev Qgc(x:α:=by exact Q2 (X4 (X4 HB1.out y.b) hb)):α:=x
abbrev Qpe(x:α:=by rw[beq_eq_false_iff_ne];intro e;rw[e,hs2] at hs;exact hss (Option.some.inj hs).symm):α:=x
abbrev QnU(x:α:=by exact Q2 (show xs.length=n by have:=h.len;rw[XQ] at this;exact this)):α:=x
abbrev Qkl(x:α:=by exact (fun e=>by rw[Q75 hG.1 (by simpa using e)];exact Nat.le_refl _)):α:=x
abbrev QaX(x:α:=by exact ZY hown1 hb2 Xk):α:=x
abbrev Qa4(x:α:=by exact (Q16 (t:=27) rfl rfl)):α:=x
abbrev Qk2(x:α:=by exact (Qj (f:=71) rfl rfl Q1 rfl rfl (fun w hw=>X9 _ _ _ w))):α:=x
abbrev QeU(x:α:=by exact (fun w hw=>QuJ HZ.out hw.k.below)):α:=x
abbrev Q9O(x:α:=by rw[h] at hr;cases hr):α:=x
abbrev Q9J(x:α:=by exact (Region.noSelect_spec hs)):α:=x
abbrev Q2e(x:α:=by simp [Qb.w] at this):α:=x
abbrev QjQ(x:α:=by exact (VN (v:=.bool true) (f:=152) rfl rfl Q1 rfl rfl rfl Qrq)):α:=x
abbrev Q74(x:α:=by exact (fun i=>.inr ZV)):α:=x
abbrev Q7m(x:α:=by exact (fun _=>.inr QjP)):α:=x
abbrev Qba(x:α:=by exact (fun _=>.inr Kd)):α:=x
abbrev Q6p(x:α:=by simpa using hx):α:=x
abbrev QfT(x:α:=by show 256 - (q+1)<256 - q;omega):α:=x
abbrev Q3W(x:α:=by simp only at this;omega):α:=x
abbrev Qlu(x:α:=by rw[List.take_add_one,h,Option.toList_some,List.map_append,List.sum_append];simp):α:=x
abbrev Qbm(x:α:=by exact (Region.free_spec ho hf)):α:=x
abbrev QlS(x:α:=by go_ret;rw[HE.out];exact JV.intro (Jy hown3 Q3) (by rw[Q0j]) hb3):α:=x
abbrev Q73(x:α:=by rw[List.length_cons];omega):α:=x
abbrev Qf0(x:α:=by exact ⟨Nat.zero_le _,rfl⟩):α:=x
abbrev Qny(x:α:=by exact ⟨-1,rfl,by rw[Qu1 (by rw[HL.out];omega) HF.out];rfl,rfl⟩):α:=x
abbrev Q9E(x:α:=by exact absurd h Ql):α:=x
abbrev QaI(x:α:=by exact Nat.mod_eq_of_lt Q3):α:=x
abbrev Q4c(x:α:=by exact (zi1 (hj:=hq2))):α:=x
abbrev Qae(x:α:=by exact (zi1 (hj:=hin))):α:=x
abbrev Q9z(x:α:=by exact (HLK.out.on hw.k.below)):α:=x
abbrev QkZ(x:α:=by exact Q2 (show Below w.heap.size w w1 from X4 (Jr _ _) hb1)):α:=x
abbrev QnO(x:α:=by exact Q2 (X4 HB.out (show Below wr.heap.size wr w2 from hb2))):α:=x
abbrev QeA(x:α:=by exact Q2 ⟨sb',sn',sp',rfl,hd'⟩):α:=x
abbrev QkC(x:α:=by exact (Q2J (v:=.bool false) rfl rfl Q1 rfl rfl rfl hqn htc)):α:=x
abbrev Qly(x:α:=by rw[Nat.pow_succ] at h;omega):α:=x
abbrev QjZ(x:α:=by rintro w' ⟨x,rfl⟩;exact Calls.up (Q5d _)):α:=x
abbrev Qkg(x:α:=by rintro w' ⟨x,rfl⟩;exact Calls.up (KA _)):α:=x
abbrev QlV(x:α:=by show Leaves P fn a.tmps R a.defers .returning w;rw[hd];exact⟨v,h1,h2⟩):α:=x
abbrev Qbg(x:α:=by exact ⟨⟨i,h2⟩,h1,h3⟩):α:=x
abbrev Qnq(x:α:=by exact ⟨none,0,0,[],hcs,Rd.nil_,Nat.le_refl _,rfl,Xy x.1⟩):α:=x
abbrev Qfl(x:α:=by exact ⟨n.toNat,by omega⟩):α:=x
abbrev Qg4(x:α:=by exact (zi1 (j:=0) (hj:=hlt))):α:=x
abbrev Qnh(x:α:=by exact (Q2J (v:=.bool true) rfl rfl Q1 rfl rfl rfl hqn htc)):α:=x
abbrev Qa1(x:α:=by exact (fun q hq=>hb.cell hq)):α:=x
abbrev Qe1(x:α:=by exact (fun k hk=>h1 k QnN)):α:=x
abbrev Qpd(x:α:=by rintro w' ⟨x,rfl⟩;exact Calls.up (Y7 _)):α:=x
abbrev Qp5(x:α:=by rintro w' ⟨x,rfl⟩;exact Calls.up (Q0n _)):α:=x
abbrev Ql6(x:α:=by exact ⟨by rw[HF.out],Kf (Z3 HB2.out Q3 _ _) _⟩):α:=x
abbrev Qo8(x:α:=by exact ⟨Nat.zero_le _,fun q hq=>absurd hq (Nat.not_lt_zero q)⟩):α:=x
abbrev Qmd(x:α:=by exact Zc mc4 rfl (fun w hw=>Qrt 2 3 H.out hw rfl rfl hlen)):α:=x
abbrev Qk6(x:α:=by exact Q2 (show Below w.heap.size w wr from X4 HWB.out hbw)):α:=x
abbrev Q67(x:α:=by exact absurd h.1 Q1):α:=x
abbrev Qku(x:α:=by rintro w' ⟨x,rfl⟩;exact Calls.up (Q1t _)):α:=x
abbrev Qff(x:α:=by exact (Nat.lt_irrefl 0)):α:=x
abbrev Q7c(x:α:=by exact (5,.pointer Q54)):α:=x
abbrev Qez(x:α:=by simp only[Value.slice.injEq] at hv;omega):α:=x
abbrev Qf6(x:α:=by simp [sizeOf,typeInfo,hi,hs,sliced,ZX]):α:=x
abbrev QmW(x:α:=by rw[<- QjF S k st cc hkS hcn,Nat.zero_add,Nat.mul_one,HB.out];rfl):α:=x
abbrev QnV(x:α:=by rw[Bool.eq_iff_iff];simp only[Bool.and_eq_true,decide_eq_true_eq];omega):α:=x
abbrev QoW(x:α:=by exact (Qj rfl rfl Q1 rfl rfl (fun w hw=>Q5V 6 w))):α:=x
abbrev QmE(x:α:=by exact (Qj rfl rfl Q1 rfl rfl (fun w hw=>Q5V 5 w))):α:=x
abbrev Qms(x:α:=by rintro w' ⟨x,rfl⟩;exact Calls.up (Q3c _)):α:=x
abbrev QnQ(x:α:=by rw[<- QP hg];exact Q9R b.1 (by show z.1.len<=1048576;omega)):α:=x
abbrev Qay(x:α:=by exact List.length_append ..):α:=x
abbrev Q2t(x:α:=by exact (ha.eval hc)):α:=x
abbrev QeE(x:α:=by simpa [Addr.add] using h0):α:=x
abbrev Qbn(x:α:=by exact (Q1f F elem p (n+1))):α:=x
abbrev QeS(x:α:=by exact (QJ.sel [4,2] Q1 rfl)):α:=x
abbrev QaC(x:α:=by exact (6,.int .i64 (t:Int))):α:=x
abbrev Qke(x:α:=by obtain⟨b',o'',e',hlt,_⟩:=hl.p.2 h0;rw[h] at e';cases e';exact hlt):α:=x
abbrev Q9B(x:α:=by have:=(H.out.far _ e).1;omega):α:=x
abbrev QoH(x:α:=by exact ⟨by rw[HS.out,HQ.out];simp,X4 (Jr _ _) HB2.out⟩):α:=x
abbrev Qn4(x:α:=by exact (Qm3 Tryz.underlying4 rfl rfl Q1 rfl rfl rfl rfl)):α:=x
abbrev Qmp(x:α:=by rw[<- HC.out];simp [Xr,hk1,hk7,hk8,h1,h2,h3,h4,h6,h7,h8,h10,h11]):α:=x
abbrev Qnv(x:α:=by exact ⟨by rw[Qj2 HX.out HP.out HF.out];rfl,HB2.out⟩):α:=x
abbrev Qeq(x:α:=by rw[hd];exact ha.put _ hN):α:=x
abbrev QfY(x:α:=by subst hb;simp [execOp,ho,hx,hy,go_sem]):α:=x
abbrev Qas(x:α:=by exact ⟨_,_,_,_,_,he,h⟩):α:=x
abbrev QaZ(x:α:=by exact fun _=>by kernel_rfl):α:=x
abbrev Qn1(x:α:=by exact Kf HB2.out (.cells #[.int .i64 c,.int .i64 ix] 32)):α:=x
abbrev Qf2(x:α:=by exact (heap_alloc_new _ _)):α:=x
abbrev Qax(x:α:=by exact (fun _ hw=>hw.tl.tl)):α:=x
abbrev Qaa(x:α:=by exact (decide_eq_false hb)):α:=x
abbrev QkD(x:α:=by exact ⟨Ab,cb,An,cn,Ap,cp,rfl,rfl,rfl,h1,h2,h3,h4,h5,h6⟩):α:=x
abbrev Q6e(x:α:=by exact [ZR,Q5Q]):α:=x
abbrev Qnw(x:α:=by exact [(0,.agg (Q5e i).toArray),(1,.agg (Q5e j).toArray)]):α:=x
abbrev Qoz(x:α:=by exact List.eq_nil_of_length_eq_zero (by simpa using hown.1)):α:=x
abbrev Q6q(x:α:=by exact Int.le_refl _):α:=x
abbrev Qlz(x:α:=by exact HF1.out.alloc (.cells #[.int .i64 c,.int .i64 ix] 32)):α:=x
abbrev Qnc(x:α:=by exact (QmY rfl rfl rfl (fun w hw=>hw.cell_rd 0 rfl hkw))):α:=x
abbrev Qme(x:α:=by exact (Ji (j:=n) rfl rfl Q1 rfl rfl rfl Q3)):α:=x
abbrev QfN(x:α:=by exact (H.out.nextW hw 2 3 rfl rfl)):α:=x
abbrev QkM(x:α:=by rw[<- HC.out];simp [Xr,hk1,hk7,hk8,h1,h2,h3,h4,h6,h9,h10,h11]):α:=x
abbrev Qp7(x:α:=by rw[<- HC.out];simp [Xr,hk1,hk7,hk8,h1,h2,h3,h4,h5,h6,h10,h11]):α:=x
abbrev Qmy(x:α:=by exact (XB _ _ _ rfl rfl rfl (fun w hw=>Qu2 5 6 hw))):α:=x
abbrev Qlf(x:α:=by exact (Qud hr Q3 Q1 rfl rfl Q1 rfl rfl rfl)):α:=x
abbrev Qnn(x:α:=by exact (QnJ hq Q3 Q1 rfl rfl Q1 rfl rfl rfl)):α:=x
abbrev Qos(x:α:=by exact (fun k hk=>XJ hv.toUsd f Qo3)):α:=x
abbrev Qp9(x:α:=by exact (ZQ (j:=0) rfl rfl Q1 rfl rfl rfl Q7z)):α:=x
abbrev Qfs(x:α:=by exact (List.length_append ..).symm):α:=x
abbrev Q64(x:α:=by exact (hW.own i _ hO)):α:=x
abbrev Qp3(x:α:=by exact (fun e w' ⟨i,h1,h2,h3⟩=>⟨i,h1,h2,hw.on h3⟩)):α:=x
abbrev QaO(x:α:=by exact (decide_eq_true hb)):α:=x
abbrev QfQ(x:α:=by simpa using hl):α:=x
abbrev QfG(x:α:=by simpa using h1):α:=x
abbrev QoB(x:α:=by simp [results,Tryz.results101,go_sem,r0,r1,z4]):α:=x
abbrev Q9K(x:α:=by exact (XM (K2 F k))):α:=x
abbrev QfF(x:α:=by exact (Nat.mul_le_mul_right _ h2)):α:=x
abbrev Qn2(x:α:=by exact (.agg #[.int .i64 d2.k,.int .i64 d2.n,sb2,sn2,sp2])):α:=x
abbrev Q25(x:α:=by go_ret;exact Qdr):α:=x
abbrev Qnr(x:α:=by exact (RsV.cell1 rfl (fun w hw=>hw.cell_blkL 5 rfl rfl))):α:=x
abbrev QmV(x:α:=by simp [execOp,ho,ha.eval hx,ha.eval hy,Qev h1 hcell hfr]):α:=x
abbrev Qp0(x:α:=by rw[<- HC.out];simp [Xr,hk1,hk7,hk8,h1,h2,h3,h4,h6,h10,h11]):α:=x
abbrev Qp4(x:α:=by rw[hrun] at hre;injection hre with e1 e2;rw[e1] at hb;exact hb):α:=x
section
variable{p q:Prop}(hq:q)
include hq
theorem mc7(h:Hq q->p:=by intro h0';(repeat(first|refine Q4 zA ?_|refine Qe ?_|refine Qa ?_|refine Q6 ?_|refine QB ?_|refine Qm ?_|refine Qu ?_));exact h0'.o):p:=h ⟨hq⟩
theorem mc9(h:Hq q->p:=by intro h0';refine Qd zS ?_;refine Qd zS ?_;refine Qd zS ?_;refine Qd zS ?_;refine Qd zS ?_;exact h0'.o):p:=h ⟨hq⟩
theorem Yf(h:Hq q->p:=by intro h0';simp only[List.append_eq,List.cons_append,List.nil_append,List.take_succ_cons,List.take_zero];exact h0'.o):p:=h ⟨hq⟩
theorem Qvh(h:Hq q->p:=by intro h0';refine yW 0 ?_;refine yl<|yn<|yq<|yq<|yr<|yo zM<|yo (zD 0)<|yo (zD 1) ?_;refine Q4 (Qj rfl rfl Q1 rfl rfl (fun w hw=>HFC.out w (H.out.nextW hw 2 3 rfl rfl) (HRU.out.below (H.out.below hw.k)) (HVAL.out.below (H.out.below hw.k) (Nat.le_refl _)))) ?_;exact h0'.o):p:=h ⟨hq⟩
theorem Q3p(h:Hq q->p:=by intro h0';refine yo zO<|yl<|yn<|y0<|ys<|yn<|yq<|yq<|yr<|yo (zD 0) ?_;refine Q4 (Qj (f:=72) rfl rfl Q1 rfl rfl (fun w hw=>HU2.out w)) ?_;exact h0'.o):p:=h ⟨hq⟩
theorem Quk(h:Hq q->p:=by intro h0';refine yn<|yb<|yq<|yr<|yo zef<|yo zA<|yl<|yn<|y0<|yq<|yq<|yr<|yo zef<|yo zA<|yl<|yn<|y0<|yr<|yo zef<|yo zA<|yl<|yn<|y0<|yq<|yr<|yo zef<|yo zA<|yl<|yn<|y0<|yq<|yr<|yo zef<|yo zA<|yl<|yn<|y0<|yq<|yr<|yo zef<|yo zA<|yl<|yn<|y0<|yq<|yr<|yo zef<|yo zA<|yl<|yn<|y0<|yq<|yr<|yo zef<|yo zA<|yl<|yn<|y0<|yq<|yr<|yo zet<|yo zA<|yl<|yn<|y1<|yq<|Xt Q5 Q5 ?_;refine Qd zF ?_;refine Qd (zB 0) ?_;exact h0'.o):p:=h ⟨hq⟩
theorem QuY(h:Hq q->p:=by intro h0';(repeat(first|((with_reducible show sE _ _ _ _ _ _ _ _);first|refine Qa ?_|refine Q6 ?_|refine Qq ?_|refine Q8 rfl ?_)|((with_reducible show xE _ _ _ _ _ _ _);refine Qk ?_)));exact h0'.o):p:=h ⟨hq⟩
theorem Q34(h:Hq q->p:=by intro h0';refine yq<|yq<|yr<|yo zM<|yo zF<|yo (zB 1)<|yo zL<|yo zlt<|yl<|yn<|y1<|ys<|yn<|yq<|yb<|yq<|yr<|yo zF<|yo (zB 1)<|yo zM<|yo zi<|yo zE ?_;exact h0'.o):p:=h ⟨hq⟩
theorem Q2j(h:Hq q->p:=by intro h0';refine yq<|yq<|yr<|yo zM<|yo zM<|yo zlf<|yl<|yn<|y0<|ye<|yn<|yq<|yq<|yr<|yo zF<|yo (zB 0) ?_;exact h0'.o):p:=h ⟨hq⟩
theorem Q65(h:Hq q->p:=by intro h0';(repeat(first|((with_reducible show sE _ _ _ _ _ _ _ _);first|refine Qa ?_|refine Q6 ?_)));exact h0'.o):p:=h ⟨hq⟩
theorem QpL(h:Hq q->p:=by intro h0';refine yW 0 ?_;refine yl<|yn<|yq<|yr<|yo zA<|yl<|yn<|yq<|yq<|yr<|yo zF<|yo (zB 0)<|yl<|yn<|yb<|yq<|yr<|yo zef<|yo zA<|yl<|yn<|y0<|yq<|yq<|yr<|yo zef<|yo zA<|yl<|yn<|y0<|yr<|yo zef<|yo zA<|yl<|yn<|y0<|yq<|yr<|yo zef<|yo zA<|yl<|yn<|y0<|yq<|yq<|yr<|yo zef<|yo zA<|yl<|yn<|y0<|yr<|yo zef<|yo zA<|yl<|yn<|y0<|yq<|yr<|yo zet<|yo zA<|yl<|yn<|y1<|yq<|yr<|yo zF<|yo (zB 2)<|yo zF<|yo (zB 0) ?_;refine Q4 (QG rfl rfl Q1 rfl rfl rfl Q3) ?_;refine yo zE ?_;exact h0'.o):p:=h ⟨hq⟩
theorem Qpj(h:Hq q->p:=by intro h0';refine yo zA<|yl<|yn<|yq<|yq<|yr<|yo zF<|yo (zB 0)<|yo zef<|yl<|yn<|y0<|ys<|yn<|yq<|yq<|yr<|yo zF<|yo (zB 0)<|yo zef<|yo zM<|yo zS<|yo zS<|yo zN<|yl<|yn<|y0<|ys<|yn<|yq<|yq<|yr<|yo zF<|yo (zB 0)<|yo zef<|yl<|yn<|y0<|ys<|yn<|yq<|yq<|yr<|yo zF<|yo (zB 0)<|yo zef<|yl<|yn<|y0<|ys<|yn<|yq<|yq<|yr<|yo zF<|yo (zB 0)<|yo zef<|yl<|yn<|y0<|ys<|yn<|yq<|yq<|yr<|yo zF<|yo (zB 0)<|yo zef<|yl<|yn<|y0<|ys<|yn<|yq<|yr<|yo zF<|yo (zB 0)<|yo zef<|yo zA<|yl<|yn<|yt ?_;exact h0'.o):p:=h ⟨hq⟩
theorem Qpp(h:Hq q->p:=by intro h0';(repeat(first|((with_reducible show sE _ _ _ _ _ _ _ _);first|refine Qa ?_|refine Q6 ?_)|((with_reducible show xE _ _ _ _ _ _ _);refine Qk ?_)));exact h0'.o):p:=h ⟨hq⟩
theorem Qq0(h:Hq q->p:=by intro h0';refine yo zA<|yl<|yn<|yq<|yq<|yr<|yo zF<|yo (zB 0)<|yo zef<|yl<|yn<|y0<|ys<|yn<|yq<|yq<|yr<|yo zF<|yo (zB 0)<|yo zet<|yo zM<|yo zF<|yo (zB 0)<|yo zY<|yl<|yn<|y1<|yq<|yr<|yo zF<|yo (zB 0)<|yo zQ ?_;exact h0'.o):p:=h ⟨hq⟩
theorem QqJ(h:Hq q->p:=by intro h0';refine Qd zY ?_;refine Qd zM ?_;refine Qd zF ?_;refine Qd (zB 0) ?_;refine Qd (ZQ (j:=0) rfl rfl Q1 rfl rfl rfl Q3) ?_;refine Qd zF ?_;exact h0'.o):p:=h ⟨hq⟩
theorem Qwa(h:Hq q->p:=by intro h0';refine Q2j ?_;refine Q4 (Qj (f:=71) rfl rfl Q1 rfl rfl (fun w hw=>(X9 8 1 10 w).mono (fun _ _ h=>by rw[H3.out] at h;exact h))) ?_;refine Q3p ?_;refine yl<|yn<|y0<|ys<|yn<|yq<|yq<|yr<|yo zF<|yo (zB 0)<|yo zef<|yo zM<|yo zS<|yo zS<|yo zS<|yo zS<|yo zN<|yl<|yn<|y0<|ys<|yn<|yq<|yq<|yr<|yo zF<|yo (zB 0)<|yo zef<|yo zM<|yo zS<|yo zS<|yo zS<|yo zS<|yo zN<|yl<|yn<|y0<|ys<|yn<|yq<|yq<|yr<|yo zF<|yo (zB 0)<|yo zef<|yo zM<|yo zS<|yo zS<|yo zS<|yo zS<|yo zS<|yo zS<|yo zS<|yo zN<|yl<|yn<|y0<|ys<|yn<|yq<|yq<|yr<|yo zF<|yo (zB 0)<|yo zef<|yo zM<|yo zS<|yo zS<|yo zS<|yo zS<|yo zN<|yo zM<|yo zF<|yo (zB 0)<|yo zea<|yo zM<|yo zF<|yo (zB 0)<|yo zL ?_;refine Q4 (KK rfl rfl Q1 rfl rfl rfl QR) ?_;exact h0'.o):p:=h ⟨hq⟩
theorem QlP(h:Hq q->p:=by intro h0';refine yl<|yn<|yq<|yr<|yo (zB 1) ?_;refine Q4 mc5 ?_;refine yo zF<|yo zF<|yo (zB 2)<|yo zM ?_;refine Q4 (QG rfl rfl Q1 rfl rfl rfl hkn) ?_;refine Q4 (Xs rfl rfl Q1 rfl rfl (fun w hw=>hw.range_old hrg (by simpa using hbg)) rfl) ?_;exact h0'.o):p:=h ⟨hq⟩
theorem Q85(h:Hq q->p:=by intro h0';refine yn<|y0<|ys<|yn<|yq<|yr<|yo zM ?_;refine Q4 mc5 ?_;refine yo zF<|yo (zB 2)<|yo zP ?_;refine Q4 mc5 ?_;refine yo zF ?_;refine yS 2 ?_;exact h0'.o):p:=h ⟨hq⟩
theorem Ql8(h:Hq q->p:=by intro h0';(refine Yf ?_;repeat(first|refine Z2 rfl rfl Q1 rfl rfl ?_|refine XE rfl Q1 rfl Q1 rfl rfl ?_|refine Xi HV rfl rfl Q1 rfl rfl rfl ?_|refine Jl rfl rfl Q1 rfl rfl rfl QR ?_|refine QT rfl rfl Q1 rfl rfl rfl ?_|refine Q0L rfl Q1 rfl ?_));exact h0'.o):p:=h ⟨hq⟩
theorem Q1g(h:Hq q->p:=by intro h0';refine Q4 zA ?_;refine Qe ?_;exact h0'.o):p:=h ⟨hq⟩
theorem Q7P(h:Hq q->p:=by intro h0';refine Qd zF ?_;refine Qd (zB 0) ?_;exact h0'.o):p:=h ⟨hq⟩
theorem QuS(h:Hq q->p:=by intro h0';refine yq<|yb<|yq<|yr<|yo zM ?_;refine Q4 Q7E ?_;refine yo zF<|yo (zB 0)<|yo zea<|yo zM<|yo zS<|yo zS<|yo zS<|yo zS<|yo zS<|yo zS<|yo zN<|yo zA<|yl<|yn<|y0<|yq<|yq<|yr<|yo zM<|yo zO<|yo zA<|yl<|yn<|y0<|yq<|yr<|yo zM ?_;refine Q4 mc5 ?_;exact h0'.o):p:=h ⟨hq⟩
theorem KV(h:Hq q->p:=by intro h0';refine yo zA<|yl<|yn<|yr<|yo zM<|yo zP<|yo zA<|yl ?_;exact h0'.o):p:=h ⟨hq⟩
theorem JD(h:Hq q->p:=by intro h0';rw[Q21 (by dsimp only;omega) (by dsimp only;omega)];exact h0'.o):p:=h ⟨hq⟩
theorem Q6t(h:Hq q->p:=by intro h0';(refine Yf ?_;repeat(first|refine Z2 rfl rfl Q1 rfl rfl ?_|refine Xc rfl rfl Q1 rfl rfl rfl ?_|refine Q0L rfl Q1 rfl ?_));exact h0'.o):p:=h ⟨hq⟩
theorem Q92(h:Hq q->p:=by intro h0';refine Qd zM ?_;refine Qd zM ?_;exact h0'.o):p:=h ⟨hq⟩
theorem QmX(h:Hq q->p:=by intro h0';refine yn<|yq<|yq<|yr<|yo zF<|yo (zB 1)<|yo zF<|yo (zB 0)<|yo znf<|yo zM<|yo zF<|yo (zB 1)<|yo zF<|yo (zB 0)<|yo znf<|yo zN<|yo zM<|yo zF<|yo (zB 1)<|yo zF<|yo (zB 0) ?_;refine Q4 (Qj rfl rfl Q1 rfl rfl (fun w hw=>hby w hw)) ?_;refine yo zO<|yo zN<|yo zM<|yo zF<|yo (zB 1)<|yo zF<|yo (zB 0) ?_;refine Q4 (Qj rfl rfl Q1 rfl rfl (fun w hw=>hst w hw)) ?_;exact h0'.o):p:=h ⟨hq⟩
theorem Q4X(h:Hq q->p:=by intro h0';refine Qd zM ?_;refine Qd mc5 ?_;refine Qd zF ?_;exact h0'.o):p:=h ⟨hq⟩
theorem QgQ(h:Hq q->p:=by intro h0';(repeat(first|refine Q4 zM ?_|refine Qe ?_|refine Qa ?_|refine Q6 ?_|refine Q8 rfl ?_|refine XS ?_|refine Q4 (KK rfl rfl Q1 rfl rfl rfl (by first|exact decide_eq_false Q3|rfl)) ?_|refine Q4 zP ?_));exact h0'.o):p:=h ⟨hq⟩
theorem Qr2(h:Hq q->p:=by intro h0';refine yn<|yb<|yq<|yr<|yo zef<|yo zA<|yl<|yn<|y0<|yq<|yq<|yr<|yo zef<|yo zA<|yl<|yn<|y0<|yr<|yo zef<|yo zA<|yl<|yn<|y0<|yq<|yr<|yo zef<|yo zA<|yl<|yn<|y0<|yq<|yr<|yo zef<|yo zA<|yl<|yn<|y0<|yq<|yr<|yo zef<|yo zA<|yl<|yn<|y0<|yq<|yr<|yo zef<|yo zA<|yl<|yn<|y0<|yq<|yr<|yo zef<|yo zA<|yl<|yn<|y0<|yq<|yr<|yo zet<|yo zA<|yl<|yn<|y1<|yq<|yr<|yo (zB 2) ?_;exact h0'.o):p:=h ⟨hq⟩
theorem Q5H(h:Hq q->p:=by intro h0';refine yn<|yq<|yr<|yo (zD 0) ?_;refine Q4 mc6 ?_;refine Q4 (Q71 rfl rfl Q1 rfl rfl rfl hne) ?_;exact h0'.o):p:=h ⟨hq⟩
theorem Q2M(h:Hq q->p:=by intro h0';simp only[List.append_eq,List.cons_append,List.nil_append,List.drop_succ_cons,List.drop_zero];exact h0'.o):p:=h ⟨hq⟩
theorem QgY(h:Hq q->p:=by intro h0';(repeat(first|((with_reducible show sE _ _ _ _ _ _ _ _);first|refine Qa ?_|refine Q6 ?_|refine Qq ?_|refine Q9 rfl ?_|refine Qh ?_)|((with_reducible show xE _ _ _ _ _ _ _);refine Qk ?_)));exact h0'.o):p:=h ⟨hq⟩
theorem QgW(h:Hq q->p:=by intro h0';refine wpS_of_wp ?_;simp only[Array.replicate_succ,Array.replicate_zero,List.push_toArray,List.append_toArray,List.nil_append,List.cons_append,List.setIfInBounds_toArray,List.set_cons_zero,List.set_cons_succ];exact h0'.o):p:=h ⟨hq⟩
theorem Q6T(h:Hq q->p:=by intro h0';refine Qd zF ?_;refine Qd (zB 1) ?_;exact h0'.o):p:=h ⟨hq⟩
theorem QdU(h:Hq q->p:=by intro h0';refine yo zF<|yo (zB 0) ?_;refine Q4 (Ja rfl rfl Q1 rfl rfl rfl (by first|assumption|exact beq_eq_false_iff_ne.2 Q3)) ?_;refine yo zM ?_;exact h0'.o):p:=h ⟨hq⟩
theorem Q0y(h:Hq q->p:=by intro h0';refine yl<|yn<|yq<|yr<|yo zM ?_;refine Q4 mc5 ?_;refine yo zF<|yo zF<|yo (zB 1)<|yo zM ?_;refine Q4 (QG rfl rfl Q1 rfl rfl rfl hkn) ?_;refine Q4 (Xs rfl rfl Q1 rfl rfl (fun w hw=>hw.range_old hrg hbM) rfl) ?_;exact h0'.o):p:=h ⟨hq⟩
theorem Q99(h:Hq q->p:=by intro h0';rw[Bool.not_eq_true',Bool.and_eq_false_iff,beq_eq_false_iff_ne,beq_eq_false_iff_ne];exact h0'.o):p:=h ⟨hq⟩
theorem QsO(h:Hq q->p:=by intro h0';refine yb<|yq<|yr ?_;refine Q4 (Xd (v:=.bool false) rfl Q1 rfl (fun ρ w ha _=>by have h5:=ha.eval (x:=.tmp 5) rfl;have hc:ρ (.const .nilIface)=.nilIface:=ha.eval rfl;simp [execOp,h5,hc,heq,eqGuard,go_sem])) ?_;refine yl<|yn<|y0<|yq<|yr ?_;refine Q4 (Xd (v:=.tuple #[.agg #[.int .i64 c,.int .i64 x],.bool true]) rfl Q1 rfl (fun ρ w ha _=>by have h5:=ha.eval (x:=.tmp 5) rfl;simp [execOp,h5,hta,Sem.run_bind,go_sem])) ?_;refine yo zX<|yo zX<|yl<|yn<|y1<|yq<|yr ?_;exact h0'.o):p:=h ⟨hq⟩
theorem Qtn(h:Hq q->p:=by intro h0';refine yq<|yr<|yo zlt<|yl<|yn<|yq<|y1<|ys<|yn<|yq<|yb<|yq<|yr<|yo zM<|yo (zi1 (hj:=hlt)) ?_;refine Q4 (Xq rfl rfl Q1 rfl rfl (fun w hw=>hw.cell_old hcx hbpM)) ?_;refine yo zA<|yo zA<|yl<|yn<|yq<|yq<|yr<|yo zF<|yo (zB 0)<|yo zM ?_;refine Q4 (XP rfl rfl Q1 rfl rfl rfl (show i<names.length by omega)) ?_;refine Q4 (Xq rfl rfl Q1 rfl rfl (fun w hw=>hw.cell_old hcs hbmM)) ?_;refine Q4 (Q5B rfl rfl Q1 rfl rfl rfl hst) ?_;exact h0'.o):p:=h ⟨hq⟩
theorem Q0i(h:Hq q->p:=by intro h0';refine Qd zA ?_;refine ZJ ?_;exact h0'.o):p:=h ⟨hq⟩
theorem Qru(h:Hq q->p:=by intro h0';refine yo zF<|yo (zB 0) ?_;refine Q4 (Qj (f:=79) rfl rfl Q1 rfl rfl (fun w hw=>JF Q3 w)) ?_;exact h0'.o):p:=h ⟨hq⟩
theorem Qm1(h:Hq q->p:=by intro h0';refine Qd zM ?_;refine mc9 ?_;refine Qd zS ?_;refine Qd zN ?_;refine Qd zM ?_;refine mc9 ?_;refine Qd zS ?_;exact h0'.o):p:=h ⟨hq⟩
theorem Qla(h:Hq q->p:=by intro h0';(repeat(first|refine Q4 zM ?_|refine Q4 zF ?_|refine Q4 (zB 1) ?_|refine Qe ?_|refine Qa ?_|refine Q6 ?_|refine Q8 rfl ?_|refine XS ?_|refine Qh ?_|refine Q4 zL ?_|refine Q4 zlf ?_));exact h0'.o):p:=h ⟨hq⟩
theorem Qr5(h:Hq q->p:=by intro h0';(refine Yf ?_;repeat(first|refine Z2 rfl rfl Q1 rfl rfl ?_|refine XE rfl Q1 rfl Q1 rfl rfl ?_|refine Xi HV rfl rfl Q1 rfl rfl rfl ?_|refine Q0D HV rfl rfl Q1 rfl rfl rfl ?_|refine Q5K rfl Tryz.underlying27 rfl Q1 rfl rfl ?_|refine Jl rfl rfl Q1 rfl rfl rfl QR ?_|refine QT rfl rfl Q1 rfl rfl rfl ?_|refine Xc rfl rfl Q1 rfl rfl rfl ?_));exact h0'.o):p:=h ⟨hq⟩
theorem Qng(h:Hq q->p:=by intro h0';refine Qd zS ?_;refine Qd zS ?_;refine Qd zS ?_;exact h0'.o):p:=h ⟨hq⟩
theorem Qkn(h:Hq q->p:=by intro h0';refine yq<|yr<|yo zlt<|yl<|yn<|yq<|y1<|ys<|yn<|yq<|yb<|yq<|yr<|yo zi1 ?_;refine Q4 (Xq rfl rfl Q1 rfl rfl (fun w hw=>hw.cell_old hcell (by simpa using hqg))) ?_;refine yo zA<|yl<|yn<|yq<|yq<|yr<|yo zM ?_;exact h0'.o):p:=h ⟨hq⟩
theorem QrH(h:Hq q->p:=by intro h0';refine yW 0 ?_;refine yl<|yn<|yq<|yr<|yo zA<|yl<|yn<|yq<|yq<|yr<|yo zF<|yo (zB 0)<|yl<|yn<|yb<|yq<|yr<|yo zef<|yo zA<|yl<|yn<|y0<|yq<|yq<|yr<|yo zef<|yo zA<|yl<|yn<|y0<|yr<|yo zef<|yo zA<|yl<|yn<|y0<|yq<|yr<|yo zef<|yo zA<|yl<|yn<|y0<|yq<|yq<|yr<|yo zef<|yo zA<|yl<|yn<|y0<|yr<|yo zef<|yo zA<|yl<|yn<|y0<|yq<|yr<|yo zef<|yo zA<|yl<|yn<|y0<|yq<|yr<|yo zet<|yo zA<|yl<|yn<|y1<|yq<|yr<|yo zM<|yo zF<|yo (zB 0) ?_;exact h0'.o):p:=h ⟨hq⟩
theorem QhW(h:Hq q->p:=by intro h0';refine yq<|yq<|yr<|yo zM<|yo zF<|yo (zB 0)<|yo zL<|yo zlt<|yl<|yn<|y1<|ys<|yn<|yq<|yb<|yq<|yr<|yo zM<|yo zF<|yo (zB 0)<|yo zM<|yo zi1<|yo zC ?_;exact h0'.o):p:=h ⟨hq⟩
theorem Qrx(h:Hq q->p:=by intro h0';(refine Yf ?_;repeat(first|refine Z2 rfl rfl Q1 rfl rfl ?_|refine XE rfl Q1 rfl Q1 rfl rfl ?_|refine Xi HV rfl rfl Q1 rfl rfl rfl ?_|refine Q02 HV rfl rfl Q1 rfl rfl rfl ?_|refine Jl rfl rfl Q1 rfl rfl rfl QR ?_|refine QT rfl rfl Q1 rfl rfl rfl ?_|refine Xc rfl rfl Q1 rfl rfl rfl ?_|refine Qm6 rfl rfl Q1 rfl rfl ?_));exact h0'.o):p:=h ⟨hq⟩
theorem Qr1(h:Hq q->p:=by intro h0';refine yq<|yq<|yr<|yo zM<|yo zF<|yo (zB 2)<|yo zL<|yo zlt<|yl<|yn<|y1<|ys<|yn<|yq<|yb<|yq<|yr<|yo zF<|yo (zB 2)<|yo zM<|yo (zi (hj:=hkn))<|yo zE<|yo zM ?_;refine Q4 (Qj (f:=40) rfl rfl Q1 rfl rfl (fun w hw=>(Qcj (HLK.out.on hw.k.below) HOK.out (Qpv rfl HLEN.out hw (fun a ha=>List.mem_cons_of_mem _ (List.mem_cons_of_mem _ ha)))).mono (fun _ _ h=>by rw[HCF.out] at h;exact h))) ?_;exact h0'.o):p:=h ⟨hq⟩
theorem QtF(h:Hq q->p:=by intro h0';refine yq<|yq<|Xt Q5 Q5 ?_;refine Qd zM ?_;refine Qd (Qj rfl rfl Q1 rfl rfl (fun w hw=>Q38 (H.out.next hw.k hpi (hw.own 1 _ rfl)) HC.out)) ?_;refine Qd Q7E ?_;refine Qd zF ?_;exact h0'.o):p:=h ⟨hq⟩
theorem Qt1(h:Hq q->p:=by intro h0';refine yS 0 ?_;refine yl<|yn<|yq<|yr<|yo zF<|yo (zB 1)<|yo zu ?_;refine Q4 (Qj rfl rfl Q1 rfl rfl (fun w hw=>(Q87 (H.out.next hw.k hp (hw.own 4 _ rfl)) (hw.cell_blk 3 rfl rfl) (hw.cell_blkL 0 rfl rfl) ((HRP.out.below (hw.k.belowB H.out.hB H.out.lt)).more (by have:=H.out.hB;have:=H.out.lt;have:=hw.k.size;omega)) Q3 HPT.out).mono (fun e w' h=>by rw[HI.out] at h;exact h))) ?_;exact h0'.o):p:=h ⟨hq⟩
theorem Q6k(h:Hq q->p:=by intro h0';refine Qd zM ?_;refine Qd zF ?_;exact h0'.o):p:=h ⟨hq⟩
theorem KC(h:Hq q->p:=by intro h0';(repeat(first|refine Qe ?_|refine QB ?_));exact h0'.o):p:=h ⟨hq⟩
theorem QsS(h:Hq q->p:=by intro h0';(refine Yf ?_;repeat(first|refine Z2 rfl rfl Q1 rfl rfl ?_|refine XE rfl Q1 rfl Q1 rfl rfl ?_|refine Xi HV rfl rfl Q1 rfl rfl rfl ?_|refine Q3w HV rfl rfl Q1 rfl rfl rfl ?_|refine Q5K rfl Tryz.underlying25 rfl Q1 rfl rfl ?_|refine Jl rfl rfl Q1 rfl rfl rfl QR ?_|refine Xc rfl rfl Q1 rfl rfl rfl ?_));exact h0'.o):p:=h ⟨hq⟩
theorem Qn8(h:Hq q->p:=by intro h0';refine Q4 mc5 ?_;refine yo zF<|yo (zB 1)<|yo zP ?_;refine Q4 mc5 ?_;refine yo zF ?_;refine yS 1 ?_;exact h0'.o):p:=h ⟨hq⟩
theorem QrW(h:Hq q->p:=by intro h0';refine yn<|yq<|yq<|yr<|yo zM ?_;refine Q4 (Qkh rfl rfl Q1 rfl rfl) ?_;refine yo zF<|yo (zB 0)<|yo zM<|yo zL<|yo zlf<|yl<|yn<|y0<|ys<|yn<|yq<|yq<|yr<|yo (zD 3) ?_;refine Q4 (Qj rfl rfl Q1 rfl rfl (fun w hw=>(Yy HSZ.out (HY2.out.vin fun x hx=>hw.onAll x (by simp [hx]))).mono (fun e w' h=>by rw[HVF.out] at h;exact h))) ?_;refine Q4 mc6 ?_;exact h0'.o):p:=h ⟨hq⟩
theorem Qrd(h:Hq q->p:=by intro h0';refine yq<|yq<|yr<|yo zM<|yo zM<|yo zL<|yo zlt<|yl<|yn<|y1<|ys<|yn<|yq<|yb<|yq<|yr<|yo zM<|yo zM<|yo (zi1 (hj:=hjlt)) ?_;refine Q4 (Xq rfl rfl Q1 rfl rfl (fun w hw=>hw.cell_row 0 rfl (by rw[Nat.zero_add];exact hcell))) ?_;refine yo zA<|yl<|yn<|yq<|yr<|yo zM<|yo zM ?_;refine Q4 (VN rfl rfl Q1 rfl rfl rfl (fun w hw=>Q3f _ w)) ?_;rw[he];exact h0'.o):p:=h ⟨hq⟩
theorem Qsa(h:Hq q->p:=by intro h0';refine yq<|yq<|yr<|yo zM<|yo zF<|yo (zB 0)<|yo zL<|yo zlt<|yl<|yn<|y1<|ys<|yn<|yq<|yb<|yq<|yq<|yr<|yo zF<|yo (zB 0)<|yo zM<|yo zi1<|yo zC<|yo zsa<|yl<|yn<|y0<|ys<|yn<|yq<|yq<|yr<|yo zF<|yo (zB 0)<|yo zM<|yo zi1<|yo zC ?_;refine Q4 (Qj (f:=70) rfl rfl Q1 rfl rfl (fun w hw=>(Q4K nm hnl w).mono (fun _ _ h=>by rw[H1.out] at h;exact h))) ?_;exact h0'.o):p:=h ⟨hq⟩
theorem QhT(h:Hq q->p:=by intro h0';refine ZJ ?_;refine yn<|y0<|ys<|yn<|yr<|yo zM<|yo zP<|yo zA<|yl ?_;exact h0'.o):p:=h ⟨hq⟩
theorem QnY(h:Hq q->p:=by intro h0';refine yq<|yq<|yr<|yo zM<|yo zF<|yo (zB 0)<|yo zL<|yo zlt<|yl<|yn<|y1<|ys<|yn<|yq<|yb<|yq<|yr<|yo zM ?_;refine Q4 (X2 (r:=S10++Q++[32]) rfl rfl rfl Q1 rfl rfl rfl Q0S) ?_;exact h0'.o):p:=h ⟨hq⟩
theorem QrV(h:Hq q->p:=by intro h0';refine Q4 (Qv6 (bs:=[dgc m]) rfl rfl Q1 rfl rfl Qdl) ?_;refine yo zM ?_;refine Q4 (X2 (a:=[dgc m]) (b:=s) (r:=dgc m::s) rfl rfl rfl Q1 rfl rfl rfl (by simp only[List.length_cons,List.length_nil];omega)) ?_;refine yo zA<|yl<|yn<|yr<|yo zM ?_;refine Q4 (QnJ hq Q3 Q1 rfl rfl Q1 rfl rfl rfl) ?_;refine yo zA<|yl<|yd ?_;exact h0'.o):p:=h ⟨hq⟩
theorem QrL(h:Hq q->p:=by intro h0';refine yq<|yq<|yr<|yo zM<|yo zM<|yo zL<|yo zlt<|yl<|yn<|y1<|ys<|yn<|yq<|yb<|yq<|Xt Q5 Q5 ?_;refine Qd zM ?_;exact h0'.o):p:=h ⟨hq⟩
theorem Qs3(h:Hq q->p:=by intro h0';refine yo zA<|yl<|yn<|yq<|yq<|yr<|yo zF<|yo (zB 0)<|yo zef<|yl<|yn<|y0<|ys<|yn<|yq<|yq<|yr<|yo zF<|yo (zB 0)<|yo zet<|yo zM<|yo zF<|yo (zB 0)<|yo zY<|yl<|yn<|y0<|ys<|yn<|yq<|yq<|yr<|yo zF<|yo (zB 0)<|yo zet<|yl<|yn<|y1<|yq<|yr<|yo zF<|yo (zB 0)<|yo zF<|yo (zB 0) ?_;refine Q4 (Qe2 (n:=256) hm1 Q1 rfl rfl Q1 rfl rfl rfl) ?_;exact h0'.o):p:=h ⟨hq⟩
theorem Qtu(h:Hq q->p:=by intro h0';(refine Yf ?_;repeat(first|refine Z2 rfl rfl Q1 rfl rfl ?_|refine XE rfl Q1 rfl Q1 rfl rfl ?_|refine Q02 HV rfl rfl Q1 rfl rfl rfl ?_|refine QT rfl rfl Q1 rfl rfl rfl ?_|refine Xc rfl rfl Q1 rfl rfl rfl ?_|refine Qm6 rfl rfl Q1 rfl rfl ?_|refine Q0L rfl Q1 rfl ?_));exact h0'.o):p:=h ⟨hq⟩
theorem QrA(h:Hq q->p:=by intro h0';refine JL [12] Q5 ?_;refine Qn 0 rfl Q5 Xj (Xq rfl rfl Q1 rfl rfl (by exact fun w hw=>hw.cell_blkL 2 rfl rfl)) ?_;refine Qn 1 rfl Q5 Xj Kc ?_;refine Qn 2 rfl Q5 Xj (Xq rfl rfl Q1 rfl rfl (by exact fun w hw=>hw.cell_blkL 2 rfl rfl)) ?_;refine Qn 3 rfl Q5 Xj Kc ?_;refine Qn 4 rfl Q5 Xj (XP rfl rfl Q1 rfl rfl rfl hkn) ?_;refine Qn 5 rfl Q5 Xj (Xq rfl rfl Q1 rfl rfl (fun w hw=>hw.cell_row 3 rfl hcell)) ?_;refine Qn 6 rfl Q5 Xj Kc ?_;exact h0'.o):p:=h ⟨hq⟩
theorem Qhb(h:Hq q->p:=by intro h0';(repeat(first|refine Q4 zM ?_|refine Q4 zA ?_|refine Q4 zF ?_|refine Q4 (zB 0) ?_|refine Q4 (Qj (f:=140) rfl rfl Q1 rfl rfl (fun w hw=>(Q5f (HE.out.on hw.k.below) hm).mono (fun _ _ h=>h))) ?_|refine Qe ?_|refine Qa ?_|refine Q6 ?_|refine Q4 zhr ?_));exact h0'.o):p:=h ⟨hq⟩
theorem QkW(h:Hq q->p:=by intro h0';(repeat(first|refine Q4 zM ?_|refine Q4 zA ?_|refine Q4 zF ?_|refine Q4 (zB 0) ?_|refine Qe ?_|refine Qa ?_|refine Q6 ?_|refine Q8 rfl ?_|refine Q4 zL ?_|refine Q4 Q3r ?_|refine Q4 zgr ?_|refine Q4 zN ?_|refine Q4 zS ?_));exact h0'.o):p:=h ⟨hq⟩
theorem Qhx(h:Hq q->p:=by intro h0';(repeat(first|refine Q4 zM ?_|refine Q4 zA ?_|refine Q4 (zD 0) ?_|refine Q4 (Qj (f:=149) rfl rfl Q1 rfl rfl (fun w hw=>Qb2 (by simpa using h3) hn (HL.out.on hw.k.below).p HS.out.parts)) ?_|refine Qe ?_|refine Qa ?_|refine Q6 ?_|refine Q4 zO ?_));exact h0'.o):p:=h ⟨hq⟩
theorem QgA(h:Hq q->p:=by intro h0';(repeat(first|refine Q4 zA ?_|refine Q4 zF ?_|refine Q4 (zB 0) ?_|refine Q4 Qp6 ?_|refine Qe ?_|refine Qa ?_|refine Q6 ?_|refine Q4 zO ?_));exact h0'.o):p:=h ⟨hq⟩
theorem Qo6(h:Hq q->p:=by intro h0';refine Quk ?_;refine Qd zet ?_;refine Q6k ?_;refine Qd (zB 0) ?_;refine Qd zL ?_;refine Qd zet ?_;refine QqJ ?_;refine Qd (zG c0) ?_;exact h0'.o):p:=h ⟨hq⟩
theorem Qgx(h:Hq q->p:=by intro h0';refine Qd (zi1 (hj:=hkn)) ?_;refine Qd (zG hc) ?_;refine Q92 ?_;refine Qd (zi1 (hj:=hkn)) ?_;refine Qd (zG hc2) ?_;refine Qd Qh7 ?_;exact h0'.o):p:=h ⟨hq⟩
theorem Qsc(h:Hq q->p:=by intro h0';refine yq<|yq<|yr<|yo zM<|yo zF<|yo (zB 1)<|yo zL<|yo zlt<|yl<|yn<|y1<|ys<|yn<|yq<|yb<|yq<|Xt Q5 Q5 ?_;refine Qd (zD 1) ?_;refine Q6T ?_;refine Qd zM ?_;refine Qd (zi (hj:=hkn)) ?_;refine Qd zE ?_;refine Qd (Qj (f:=36) rfl rfl Q1 rfl rfl (fun w hw=>(Qat KJ (HLK.out.on hw.k.below) HOK.out HSM.out).mono Qda)) ?_;refine Q0i ?_;exact h0'.o):p:=h ⟨hq⟩
theorem Ql9(h:Hq q->p:=by intro h0';refine Qn 3 rfl Q5 Xj zF ?_;refine Qn 4 rfl Q5 Xj (zB 2) ?_;refine Qn 5 rfl Q5 Xj (Qj (f:=114) rfl rfl Q1 rfl rfl (fun w hw=>Q2i KU Q3 Q3)) ?_;exact h0'.o):p:=h ⟨hq⟩
theorem QkH(h:Hq q->p:=by intro h0';refine Q6k ?_;refine Qd (zB 1) ?_;refine Q7P ?_;refine Qd zM ?_;refine Qd zi1 ?_;refine Qd zC ?_;refine Qd (QG rfl rfl Q1 rfl rfl rfl Q3) ?_;refine Qd zF ?_;exact h0'.o):p:=h ⟨hq⟩
theorem Qr8(h:Hq q->p:=by intro h0';refine yq<|yq<|yr<|yo zM<|yo zF<|yo (zB 0)<|yo zL<|yo zlt<|yl<|yn<|y1<|ys<|yn<|yq<|yb<|yq<|yq<|yr<|yo zF<|yo (zB 0)<|yo zM<|yo zi1<|yo zC<|yo zsa<|yl<|yn<|y1<|yq<|yq<|Xt Q5 Q5 ?_;refine Q6T ?_;refine Q7P ?_;refine Qd zM ?_;refine Qd zi1 ?_;refine Qd zC ?_;refine Qd (QG rfl rfl Q1 rfl rfl rfl Q3) ?_;refine Qd zF ?_;exact h0'.o):p:=h ⟨hq⟩
theorem QcG(h:Hq q->p:=by intro h0';refine yW 0 ?_;refine yl<|yn<|yq<|yq<|yr<|yo zF<|yo (zB 0)<|yl ?_;exact h0'.o):p:=h ⟨hq⟩
theorem QoE(h:Hq q->p:=by intro h0';refine yq<|yq<|yr<|yo zM<|yo zF<|yo (zB 0)<|yo zL<|yo zlt<|yl<|yn<|y1<|ys<|yn<|yq<|yb<|yq<|yq<|yr<|yo zM<|yo zF<|yo (zB 0)<|yo zM<|yo zi1<|yo zC ?_;refine Q4 Ko ?_;exact h0'.o):p:=h ⟨hq⟩
theorem Qht(h:Hq q->p:=by intro h0';(repeat(first|refine Q4 zA ?_|refine Qe ?_|refine Qa ?_|refine Q6 ?_|refine Qq ?_|refine QB ?_));exact h0'.o):p:=h ⟨hq⟩
theorem Q4k(h:Hq q->p:=by intro h0';rw[Q62 (by dsimp only;omega) (by dsimp only;omega)];exact h0'.o):p:=h ⟨hq⟩
theorem Qgd(h:Hq q->p:=by intro h0';refine yo zA<|yl<|yn<|yq<|yr<|yo zF<|yo (zB 0)<|yo zM ?_;exact h0'.o):p:=h ⟨hq⟩
theorem QhY(h:Hq q->p:=by intro h0';refine yq<|yq<|yr<|yo zM<|yo zF<|yo (zB 1)<|yo zL<|yo zlt<|yl<|yn<|y1<|ys<|yn<|yq<|yb<|yq<|yr<|yo (zD 1)<|yo zM ?_;exact h0'.o):p:=h ⟨hq⟩
theorem Qt4(h:Hq q->p:=by intro h0';(repeat(first|refine Q4 zM ?_|refine Q4 zA ?_|refine Q4 zF ?_|refine Q4 (zB 0) ?_|refine Qe ?_|refine Qa ?_|refine Q6 ?_|refine Q8 rfl ?_|refine Q4 zL ?_|refine Q4 zea ?_|refine Q4 (YY rfl rfl Q1 rfl rfl rfl (by first|assumption|rfl)) ?_|refine Q4 zN ?_|refine Q4 zS ?_));exact h0'.o):p:=h ⟨hq⟩
theorem Q4P(h:Hq q->p:=by intro h0';refine yo zM<|yo zX<|yo zX ?_;exact h0'.o):p:=h ⟨hq⟩
theorem Qs2(h:Hq q->p:=by intro h0';refine yo zA<|yl<|yn<|yq<|yq<|yr<|yo zF<|yo (zB 0)<|yo zef<|yl<|yn<|y0<|ys<|yn<|yq<|yq<|yr<|yo zF<|yo (zB 0)<|yo zef<|yo zM<|yo zS<|yo zS<|yo zN<|yl<|yn<|y0<|ys<|yn<|yq<|yq<|yr<|yo zF<|yo (zB 0)<|yo zef<|yl<|yn<|y0<|ys<|yn<|yq<|yq<|yr<|yo zF<|yo (zB 0)<|yo zet<|yl<|yn<|y1<|yq<|yr<|yo zM ?_;exact h0'.o):p:=h ⟨hq⟩
theorem QhG(h:Hq q->p:=by intro h0';refine yo zM<|yo zqf<|yo zM<|yo zS<|yo zS<|yo zS<|yo zS<|yo zS<|yo zS<|yo zN<|yo zA<|yl<|yn<|yt<|yc ?_;exact h0'.o):p:=h ⟨hq⟩
theorem Qnl(h:Hq q->p:=by intro h0';(repeat(first|refine Q4 Q0t ?_|refine Qe ?_|refine Qa ?_|refine Q6 ?_|refine QB ?_|refine Qm ?_|refine Qu ?_));exact h0'.o):p:=h ⟨hq⟩
theorem Qk7(h:Hq q->p:=by intro h0';rw[Nat.zero_add,Nat.mul_one,Q0k];refine Q4 (Xs (cs:=QM _) rfl rfl Q1 rfl rfl (fun w hw=>hw.range_blk 0 rfl) (X3 _)) ?_;exact h0'.o):p:=h ⟨hq⟩
theorem QsD(h:Hq q->p:=by intro h0';(repeat(first|refine Q4 zM ?_|refine Q4 zA ?_|refine Q4 (Q2J (v:=.bool (st cc)) rfl rfl Q1 rfl rfl rfl hcn (ZD st hcn)) ?_|refine Qe ?_|refine Qa ?_|refine Q6 ?_|refine Qq ?_|refine Q9 rfl ?_|refine Qh ?_|refine Q4 zlt ?_));exact h0'.o):p:=h ⟨hq⟩
theorem QhC(h:Hq q->p:=by intro h0';rw[List.getElem?_map,List.getD_eq_getElem?_getD,List.getElem?_eq_getElem h];exact h0'.o):p:=h ⟨hq⟩
theorem Qlv(h:Hq q->p:=by intro h0';refine yq<|yq<|yr<|yo zM<|yo zM<|yo zlt<|yl<|yn<|y1<|ys<|yn<|yq<|yb<|yq<|Xt Q5 Q5 ?_;exact h0'.o):p:=h ⟨hq⟩
theorem Q8T(h:Hq q->p:=by intro h0';refine yo zA<|yl<|yn<|yq<|yq<|yr<|yo zA<|yl<|yn<|yb ?_;exact h0'.o):p:=h ⟨hq⟩
theorem QcV(h:Hq q->p:=by intro h0';refine Qn 0 rfl Q5 Xj zM ?_;refine Qn 1 rfl Q5 Xj (zD 2) ?_;exact h0'.o):p:=h ⟨hq⟩
theorem QrM(h:Hq q->p:=by intro h0';refine yq<|yq<|yr<|yo zM<|yo zF<|yo (zB 2)<|yo zL<|yo zlf<|yl<|yn<|y0<|ye<|yn<|yq<|yq<|yr<|yo (zD 2) ?_;refine Q4 (Qj (f:=41) rfl rfl Q1 rfl rfl (fun w hw=>(Q7h KJ HF.out hn40 hn0 HNM.out).mono (fun _ _ h=>by rw[HTX.out] at h;exact h))) ?_;exact h0'.o):p:=h ⟨hq⟩
theorem QhX(h:Hq q->p:=by intro h0';simp only[List.length_append,List.length_cons,List.length_nil];exact h0'.o):p:=h ⟨hq⟩
theorem QrN(h:Hq q->p:=by intro h0';refine Qn 0 rfl Q5 Q6j zM ?_;refine Qn 1 rfl Q5 Q6j zM ?_;refine Qn 2 rfl Q5 Q6j mc5 ?_;refine Qn 3 rfl Q5 Q6j zF ?_;refine Qn 4 rfl Q5 Q6j (zB 1) ?_;refine Qn 5 rfl Q5 Q6j zF ?_;refine Qn 6 rfl Q5 Q6j (zB 0) ?_;exact h0'.o):p:=h ⟨hq⟩
theorem Qti(h:Hq q->p:=by intro h0';refine Qn 0 rfl Q5 Q0P zM ?_;refine Qn 1 rfl Q5 Q0P zM ?_;refine Qn 2 rfl Q5 Q0P mc5 ?_;refine Qn 3 rfl Q5 Q0P zF ?_;refine Qn 4 rfl Q5 Q0P (zB 1) ?_;refine Qn 5 rfl Q5 Q0P zF ?_;refine Qn 6 rfl Q5 Q0P (zB 0) ?_;exact h0'.o):p:=h ⟨hq⟩
theorem QmN(h:Hq q->p:=by intro h0';refine bodyPost_ret (v:=.tuple #[.int .i64 0,.agg #[.int .i64 2,.int .i64 (num:Int)]]) (by simp [results,Tryz.results101,go_sem]) rfl ?_;exact h0'.o):p:=h ⟨hq⟩
theorem QsK(h:Hq q->p:=by intro h0';refine yq<|yq<|Xt Q5 Q5 ?_;refine Qd (zB 3) ?_;refine Qd (Qj rfl rfl Q1 rfl rfl (fun w hw=>Q38 (H.out.next hw.k hq (hw.own 4 _ rfl)) HC.out)) ?_;refine Qd Q7E ?_;refine Q6T ?_;refine Qd zna ?_;refine ZJ ?_;exact h0'.o):p:=h ⟨hq⟩
theorem Qsn(h:Hq q->p:=by intro h0';refine Q4 mc6 ?_;refine Q4 (Q71 rfl rfl Q1 rfl rfl rfl hne2) ?_;refine yl<|yn<|y1<|yq ?_;refine Z7 [.blk b7 (.cells ([.int .i64 a,.int .i64 b]:List Value).toArray 32 (0,0))] [] Q5 ?_;refine Qn 0 rfl Q5 Q7t (zD 0) ?_;exact h0'.o):p:=h ⟨hq⟩
theorem Qrn(h:Hq q->p:=by intro h0';refine yq<|yq<|yr<|yo zM<|yo zlt<|yl<|yn<|y1<|ys<|yn<|yq<|yb<|yq<|yq<|yr<|yo zF<|yo (zB 0)<|yo zet<|yo zM<|yo zM<|yo zF<|yo (zB 0)<|yo zet<|yo zY<|yo zM<|yo zM<|yo zF<|yo (zB 0) ?_;refine Q4 (J7 rfl rfl Q1 rfl rfl rfl he) ?_;exact h0'.o):p:=h ⟨hq⟩
theorem Qmg(h:Hq q->p:=by intro h0';refine yW 0 ?_;refine yl<|yn<|yq<|yr<|yo zM<|yo zF<|yo (zB 1) ?_;refine Q4 Ko ?_;refine yo zC<|yo zht<|yo zM<|yo (zD 0) ?_;exact h0'.o):p:=h ⟨hq⟩
theorem Q1D(h:Hq q->p:=by intro h0';refine Qcp _ Q5 Q5 ?_;exact h0'.o):p:=h ⟨hq⟩
theorem QnD(h:Hq q->p:=by intro h0';refine Qd zM ?_;refine mc9 ?_;refine Qng ?_;refine Qd zS ?_;refine Qd zN ?_;refine Q0i ?_;refine yn<|yt<|yk<|yc ?_;exact h0'.o):p:=h ⟨hq⟩
theorem QrG(h:Hq q->p:=by intro h0';refine yq<|yr<|yo zlt<|yl<|yn<|yq<|y1<|ys<|yn<|yq<|yb<|yq<|yr<|yo zM<|yo zA<|yl<|yn<|yq<|yr<|yo zM<|yo zM<|yo zM<|yo (zi1 (hj:=hkn))<|yo (zG hc) ?_;refine Q4 (VN rfl rfl Q1 rfl rfl rfl (fun w hw=>Q3f _ w)) ?_;rw[he];exact h0'.o):p:=h ⟨hq⟩
theorem QkI(h:Hq q->p:=by intro h0';(repeat(first|refine Q4 zM ?_|refine Qe ?_|refine Q6 ?_|refine Q4 zP ?_));exact h0'.o):p:=h ⟨hq⟩
theorem Qtz(h:Hq q->p:=by intro h0';refine yq<|yq<|yr<|yo zM<|yo zF<|yo (zB 0)<|yo zL<|yo zlt<|yl<|yn<|y1<|ys<|yn<|yq<|yb<|yq<|yr<|yo zM<|yo zF<|yo (zB 0)<|yo zM<|yo (zi1 (hj:=hjl))<|yo (zG hcx) ?_;refine Q4 (J7 rfl rfl Q1 rfl rfl rfl hxn) ?_;exact h0'.o):p:=h ⟨hq⟩
theorem Qsb(h:Hq q->p:=by intro h0';refine ih (listed.setIfInBounds j true) (a.put oj.dst u) G (hcl.set hj) hG hGC hfree' (ready_mono hr (Ne.symm hji)) (hy.put (fun cs b=>hsel i oi cs b hi) a3) ?_;rw[Array.setIfInBounds_comm _ _ hji,<- Act.put_comm a v u a2];exact h0'.o):p:=h ⟨hq⟩
theorem KG(h:Hq q->p:=by intro h0';refine yW 0 ?_;refine yl ?_;exact h0'.o):p:=h ⟨hq⟩
theorem QmB(h:Hq q->p:=by intro h0';refine ZJ ?_;refine yn<|y1<|yq<|yr<|yo zA<|yl<|yn<|yt<|yk<|yc<|yc<|yk<|yc ?_;exact h0'.o):p:=h ⟨hq⟩
theorem QkN(h:Hq q->p:=by intro h0';refine yq<|yq<|yr<|yo zM<|yo zF<|yo (zB 1)<|yo zL<|yo zlf<|yl<|yn<|y0<|ye<|yn<|yq<|yq<|yr<|yo zA<|yl<|yn<|yb ?_;exact h0'.o):p:=h ⟨hq⟩
theorem Q1M(h:Hq q->p:=by intro h0';refine Qvh ?_;refine yo zO<|yl ?_;exact h0'.o):p:=h ⟨hq⟩
theorem Qsp(h:Hq q->p:=by intro h0';refine yo zF<|yo (zB 0)<|yo zM<|yo zi1<|yo zC<|yo zM ?_;refine Q4 (Qj (f:=71) rfl rfl Q1 rfl rfl (fun w hw=>(X9 _ _ _ w).mono (fun _ _ h=>by rw[hq] at h;exact h))) ?_;refine yo zO<|yl ?_;exact h0'.o):p:=h ⟨hq⟩
theorem QsA(h:Hq q->p:=by intro h0';refine yW 0 ?_;refine yl<|yn<|yq<|yq<|yr<|yo zF<|yo (zB 0) ?_;refine Q4 (Qj (f:=70) rfl rfl Q1 rfl rfl (fun w hw=>(Q4K name hnl w).mono (fun _ _ h=>by rw[H1.out] at h;exact h))) ?_;exact h0'.o):p:=h ⟨hq⟩
theorem Qty(h:Hq q->p:=by intro h0';refine JL [2] Q5 ?_;refine Qn 0 rfl Q5 Xj (zD 0) ?_;refine Qn 1 rfl Q5 Xj zA ?_;exact h0'.o):p:=h ⟨hq⟩
theorem Qsw(h:Hq q->p:=by intro h0';(repeat(first|refine Q4 zM ?_|refine Q4 zA ?_|refine Q4 zF ?_|refine Q4 (zB 0) ?_|refine Qe ?_|refine Qa ?_|refine Q6 ?_|refine Q4 zL ?_|refine Q4 Q3r ?_|refine Q4 zY ?_));exact h0'.o):p:=h ⟨hq⟩
theorem Qtl(h:Hq q->p:=by intro h0';(repeat(first|refine Q4 zM ?_|refine Q4 zA ?_|refine Qe ?_|refine Qa ?_|refine Q6 ?_|refine Q8 rfl ?_|refine XS ?_|refine QB ?_|refine Q4 zL ?_|refine Q4 zgf ?_));exact h0'.o):p:=h ⟨hq⟩
theorem Qtj(h:Hq q->p:=by intro h0';refine Q4 (Qe2 Q3 Q1 rfl rfl Q1 rfl rfl rfl) ?_;refine yo zP ?_;refine Q4 (YH rfl rfl Q1 rfl rfl (by rw[Tryz.underlying3];rfl) Tryz.underlying5 (Qok m _ rfl)) ?_;exact h0'.o):p:=h ⟨hq⟩
theorem Qdj(h:Hq q->p:=by intro h0';rw[List.getD_eq_getElem?_getD,List.getElem?_eq_getElem h];exact h0'.o):p:=h ⟨hq⟩
theorem Q8Q(h:Hq q->p:=by intro h0';refine yo zM<|yo zef<|yl ?_;refine QuY ?_;exact h0'.o):p:=h ⟨hq⟩
theorem Qr7(h:Hq q->p:=by intro h0';refine QtF ?_;refine Qd (zB 0) ?_;refine Qd zna ?_;refine ZJ ?_;refine yn<|y1<|ys<|yn<|yb<|yq<|yq<|Xt Q5 Q5 ?_;refine Q4X ?_;refine Qd (zB 1) ?_;refine Qd zM ?_;exact h0'.o):p:=h ⟨hq⟩
theorem QqT(h:Hq q->p:=by intro h0';refine Qt (cc+1) [0,1,2] Q1 Q3 (by show 256 - (cc+1)<256 - cc;omega) (.cons rfl rfl (.cons rfl rfl (.cons rfl rfl (.cons rfl rfl (.cons rfl rfl (.cons rfl rfl Q3B)))))) ?_;exact h0'.o):p:=h ⟨hq⟩
theorem QlO(h:Hq q->p:=by intro h0';refine yq<|yr<|yo zF<|yo (zB 0)<|yo zef<|yo zM<|yo zF<|yo (zB 0)<|yo zef<|yo zN<|yl<|yn<|y0<|ys ?_;exact h0'.o):p:=h ⟨hq⟩
theorem Qt3(h:Hq q->p:=by intro h0';refine yq<|yr<|yo zlt<|yl<|yn<|yq<|y1<|ys<|yn<|yq<|yb<|yq<|yr<|yo zM<|yo zi1 ?_;refine Q4 (Xq rfl rfl Q1 rfl rfl (fun w hw=>hw.cell_old hcell (by simpa using hqg))) ?_;exact h0'.o):p:=h ⟨hq⟩
theorem QdT(h:Hq q->p:=by intro h0';refine Q4 mc5 ?_;refine yo zF<|yo (zB 1) ?_;exact h0'.o):p:=h ⟨hq⟩
theorem Qdy(h:Hq q->p:=by intro h0';refine yo zA ?_;refine yW 0 ?_;exact h0'.o):p:=h ⟨hq⟩
theorem Q9w(h:Hq q->p:=by intro h0';refine Q4 zM ?_;refine Q4 zL ?_;exact h0'.o):p:=h ⟨hq⟩
theorem QhF(h:Hq q->p:=by intro h0';(repeat(first|refine Q4 zA ?_|refine Q4 (zD 0) ?_|refine Q4 Qo9 ?_|refine Qe ?_|refine Qa ?_|refine Q6 ?_|refine Qq ?_|refine Q8 rfl ?_));exact h0'.o):p:=h ⟨hq⟩
theorem QhJ(h:Hq q->p:=by intro h0';(repeat(first|refine Q4 zA ?_|refine Q4 (zD 0) ?_|refine Q4 (Qj (f:=148) rfl rfl Q1 rfl rfl (fun w hw=>Q9N w)) ?_|refine Qe ?_|refine Qa ?_|refine Q6 ?_|refine Q4 zO ?_));exact h0'.o):p:=h ⟨hq⟩
theorem QrQ(h:Hq q->p:=by intro h0';refine yq<|yq<|yr<|yo zM<|yo zF<|yo (zB 1)<|yo zL<|yo zlt<|yl<|yn<|y1<|ys<|yn<|yq<|yb<|yq<|Xt Q5 Q5 ?_;refine Q6T ?_;refine Qd zM ?_;refine Qd (zi (hj:=hilt)) ?_;refine Qd (Xs rfl rfl Q1 rfl rfl (fun w hw=>hw.range_old hg1 Ql) rfl) ?_;refine Q7P ?_;refine Qd zM ?_;refine Qd (zi (hj:=hilt)) ?_;refine Qd (Xs rfl rfl Q1 rfl rfl (fun w hw=>hw.range_old hg2 Ql) rfl) ?_;refine Qd (Qj rfl rfl Q1 rfl rfl (fun w hw=>(HAL.out.1 d2 p2 w _ _ HFL.out.1.2.2.1 HFL.out.2.1 HFL.out.2.2.1 (HV1.out.on hw.k.below) (HV2.out.on hw.k.below)).mono (fun e w' h=>by rw[HQ.out] at h;exact h))) ?_;refine Qd zO ?_;exact h0'.o):p:=h ⟨hq⟩
theorem Qt9(h:Hq q->p:=by intro h0';refine XC 0 rfl Q5 VT zM ?_;refine XC 1 rfl Q5 VT zM ?_;refine XC 2 rfl Q5 VT mc5 ?_;refine XC 3 rfl Q5 VT zF ?_;refine XC 4 rfl Q5 VT zF ?_;refine XC 5 rfl Q5 VT (zB 2) ?_;refine XC 6 rfl Q5 VT zF ?_;refine XC 7 rfl Q5 VT (zB 0) ?_;refine XC 8 rfl Q5 VT (QG rfl rfl Q1 rfl rfl rfl hct2) ?_;refine XC 9 rfl Q5 VT (Xs rfl rfl Q1 rfl rfl (fun w hw=>hw.range_old hrg2 hbM) rfl) ?_;refine XC 10 rfl Q5 VT zF ?_;refine XC 11 rfl Q5 VT (zB 1) ?_;refine XC 12 rfl Q5 VT zL ?_;exact h0'.o):p:=h ⟨hq⟩
theorem Qtq(h:Hq q->p:=by intro h0';refine Q2j ?_;refine Q4 (Qj (f:=71) rfl rfl Q1 rfl rfl (fun w hw=>(X9 7 1 10 w).mono Q6V)) ?_;refine Q3p ?_;exact h0'.o):p:=h ⟨hq⟩
theorem QqZ(h:Hq q->p:=by intro h0';refine Q2j ?_;refine Q4 (Qj (f:=71) rfl rfl Q1 rfl rfl (fun w hw=>(X9 1 1 10 w).mono Q6V)) ?_;refine Q3p ?_;exact h0'.o):p:=h ⟨hq⟩
theorem Qr6(h:Hq q->p:=by intro h0';(repeat(first|refine Qd zM ?_|refine Qd zA ?_|refine Qd zF ?_|refine Qd (zB 2) ?_|refine Qd (zD 0) ?_|refine Qd (Q15 rfl rfl Q1 rfl rfl rfl hkc) ?_|refine Qd (Qj (f:=115) rfl rfl Q1 rfl rfl (fun w hw=>(Q5k ((HFM.out.on hw.k.below).take hk hc) (HLK.out.on hw.k.below) HSM.out Q3 hsz).mono (fun _ _ h=>h))) ?_|refine ZJ ?_|refine Xt Q5 Q5 ?_));exact h0'.o):p:=h ⟨hq⟩
theorem Qrp(h:Hq q->p:=by intro h0';refine Q2j ?_;refine Q4 (Qj (f:=71) rfl rfl Q1 rfl rfl (fun w hw=>(X9 kind 1 10 w).mono Q6V)) ?_;exact h0'.o):p:=h ⟨hq⟩
theorem Qse(h:Hq q->p:=by intro h0';refine Z7 [.blk g (.cells ([.slice Af nn cf,.slice Ai (xs++uy.take i).length ci,.int .i64 (n:Int)]:List Value).toArray 77 (0,0))] [13] Q5 ?_;refine Qn 0 rfl Q5 Vn zM ?_;refine Qn 1 rfl Q5 Vn zM ?_;refine Qn 2 rfl Q5 Vn mc5 ?_;refine Qn 3 rfl Q5 Vn zF ?_;refine Qn 4 rfl Q5 Vn (zB 0) ?_;refine Qn 5 rfl Q5 Vn zM ?_;refine Qn 6 rfl Q5 Vn zM ?_;refine Qn 7 rfl Q5 Vn (QoI rfl rfl Q1 rfl rfl rfl Q3 Q3) ?_;refine Qn 8 rfl Q5 Vn Qcr ?_;exact h0'.o):p:=h ⟨hq⟩
theorem Qgy(h:Hq q->p:=by intro h0';refine Q7P ?_;refine Qd zM ?_;refine Qd zi1 ?_;refine Qd zC ?_;exact h0'.o):p:=h ⟨hq⟩
theorem Qre(h:Hq q->p:=by intro h0';refine Qq0 ?_;refine Q4 (Qj (f:=104) rfl rfl Q1 rfl rfl (fun w hw=>Qwb w)) ?_;refine Qgd ?_;refine Q4 (Kr (n:=16777216) hm1 Q1 rfl rfl Q1 rfl rfl rfl) ?_;exact h0'.o):p:=h ⟨hq⟩
theorem QrZ(h:Hq q->p:=by intro h0';refine Qq0 ?_;refine Q4 (Qj (f:=104) rfl rfl Q1 rfl rfl (fun w hw=>Qwx w)) ?_;refine Qgd ?_;refine Q4 (Kr (n:=65536) hm1 Q1 rfl rfl Q1 rfl rfl rfl) ?_;exact h0'.o):p:=h ⟨hq⟩
theorem QrC(h:Hq q->p:=by intro h0';refine Qq0 ?_;refine Q4 (Qj (f:=104) rfl rfl Q1 rfl rfl (fun w hw=>Qwk w)) ?_;refine Qgd ?_;refine Q4 (Kr (n:=256) hm1 Q1 rfl rfl Q1 rfl rfl rfl) ?_;exact h0'.o):p:=h ⟨hq⟩
theorem QsN(h:Hq q->p:=by intro h0';refine Qq0 ?_;refine Q4 (Qj (f:=104) rfl rfl Q1 rfl rfl (fun w hw=>Qwu w)) ?_;refine Qgd ?_;refine Q4 (Kr (n:=1) hm1 Q1 rfl rfl Q1 rfl rfl rfl) ?_;exact h0'.o):p:=h ⟨hq⟩
theorem QsX(h:Hq q->p:=by intro h0';refine JL [14] Q5 ?_;refine Qn 0 rfl Q5 Xj zM ?_;refine Qn 1 rfl Q5 Xj zM ?_;refine Qn 2 rfl Q5 Xj zM ?_;refine Qn 3 rfl Q5 Xj zM ?_;refine Qn 4 rfl Q5 Xj zM ?_;refine Qn 5 rfl Q5 Xj zM ?_;refine Qn 6 rfl Q5 Xj (zi (hj:=hkn)) ?_;refine Qn 7 rfl Q5 Xj (Ji rfl rfl Q1 rfl rfl rfl hcn) ?_;refine Qn 8 rfl Q5 Xj (zK 1 hcell) ?_;refine Qn 9 rfl Q5 Xj zM ?_;exact h0'.o):p:=h ⟨hq⟩
theorem QtL(h:Hq q->p:=by intro h0';refine yo zef<|yo zY<|yl<|yn<|y0<|yq<|yr<|yo zM<|yo zF<|yo (zB 1) ?_;refine Q4 Ko ?_;refine yo zC<|yo zht<|yo zM<|yo zM<|yo zF<|yo (zB 1) ?_;refine Q4 Ko ?_;exact h0'.o):p:=h ⟨hq⟩
theorem Qh2(h:Hq q->p:=by intro h0';refine yo zM<|yo zqt<|yo zM<|yo zM<|yo zF<|yo (zB 0)<|yo zM ?_;exact h0'.o):p:=h ⟨hq⟩
theorem Qsd(h:Hq q->p:=by intro h0';(repeat(first|refine Q4 zA ?_|refine Qe ?_|refine Qa ?_|refine Q6 ?_|refine Q8 rfl ?_|refine XS ?_|refine QB ?_|refine Q4 zlf ?_));exact h0'.o):p:=h ⟨hq⟩
theorem QsE(h:Hq q->p:=by intro h0';(repeat(first|refine Q4 zA ?_|refine Q4 zF ?_|refine Q4 (zB 0) ?_|refine Qe ?_|refine Qa ?_|refine Q6 ?_|refine Q4 zL ?_|refine Q4 zgr ?_));exact h0'.o):p:=h ⟨hq⟩
theorem Qha(h:Hq q->p:=by intro h0';refine yq<|yr<|yo zA<|yl<|yn<|yq<|yq<|Xt Q5 Q5 ?_;exact h0'.o):p:=h ⟨hq⟩
theorem Qt0(h:Hq q->p:=by intro h0';unfold Oper.wp execOp;simp only[ho,resolve,invoke,builtin,Sem.run_bind,Sem.run_pure,Result.andThen_ok,List.map_toArray,List.map_cons,List.map_nil,hs,hx,hrun];exact h0'.o):p:=h ⟨hq⟩
theorem Qle(h:Hq q->p:=by intro h0';refine yq<|yq<|yr<|yo zM<|yo zlf<|yl<|yn<|y0<|ye<|yn<|yq<|yr<|yo zA<|yl<|yn<|yt ?_;exact h0'.o):p:=h ⟨hq⟩
theorem Qto(h:Hq q->p:=by intro h0';refine yo zA<|yl<|yn<|yq<|yq<|yr<|yo zF<|yo (zB 0)<|yo zef<|yo zM<|yo zF<|yo (zB 0)<|yo zef<|yo zN<|yl<|yn<|y0<|ys<|yn<|yq<|yq<|yr<|yo zA<|yl<|yn<|yb ?_;exact h0'.o):p:=h ⟨hq⟩
theorem Qr9(h:Hq q->p:=by intro h0';refine Qn 3 rfl Q5 Xj zF ?_;refine Qn 4 rfl Q5 Xj (zB 3) ?_;refine Qn 5 rfl Q5 Xj zF ?_;refine Qn 6 rfl Q5 Xj (zB 2) ?_;exact h0'.o):p:=h ⟨hq⟩
theorem Qrc(h:Hq q->p:=by intro h0';refine Qo6 ?_;refine Qd zet ?_;refine QqJ ?_;refine Qd (zG c1) ?_;refine Qd zht ?_;refine QqJ ?_;refine Qd (zG c1) ?_;refine Q6T ?_;exact h0'.o):p:=h ⟨hq⟩
theorem Qr3(h:Hq q->p:=by intro h0';refine Q5H ?_;refine yl<|yn<|y1<|yq ?_;refine Z7 [.blk b6 (.cells ([.int .i64 a,.int .i64 b]:List Value).toArray 32 (0,0))] [] Q5 ?_;exact h0'.o):p:=h ⟨hq⟩
theorem Qnf(h:Hq q->p:=by intro h0';refine yo zA<|yl<|yn<|yq<|yr<|yo zA<|yl<|yn<|yq<|yq<|yr<|yo zA<|yl<|yn<|yb ?_;exact h0'.o):p:=h ⟨hq⟩
theorem QoU(h:Hq q->p:=by intro h0';refine Q4 Q9q ?_;refine yW 1 ?_;refine yl<|yn<|yt<|yk<|yc<|yc<|yk<|yc ?_;exact h0'.o):p:=h ⟨hq⟩
theorem QrS(h:Hq q->p:=by intro h0';refine yq<|yr<|yo zF<|yo (zB 0)<|yo zef<|yo zM<|yo zF<|yo (zB 0)<|yo zef<|yo zN<|yo zM<|yo zF<|yo (zB 0)<|yo zef<|yo zN<|yl<|yn<|y0<|ys ?_;exact h0'.o):p:=h ⟨hq⟩
theorem Q6z(h:Hq q->p:=by intro h0';refine Q4X ?_;refine Qd zC ?_;exact h0'.o):p:=h ⟨hq⟩
theorem Qsm(h:Hq q->p:=by intro h0';refine Qlv ?_;refine Q6T ?_;refine Qd zM ?_;refine Qd zi ?_;refine Qd zF ?_;refine Qd zR ?_;refine Q7P ?_;refine Qd zsa ?_;exact h0'.o):p:=h ⟨hq⟩
theorem QbT(h:Hq q->p:=by intro h0';refine yW 1 ?_;refine yl<|yn<|yt<|yk<|yc ?_;exact h0'.o):p:=h ⟨hq⟩
theorem QrT(h:Hq q->p:=by intro h0';refine yW 0 ?_;refine yl<|yn ?_;refine Z7 [.blk b3 (.cells ([.int .i64 c,.int .i64 x]:List Value).toArray 32 (0,0))] [] Q5 ?_;exact h0'.o):p:=h ⟨hq⟩
theorem Qdn(h:Hq q->p:=by intro h0';refine Q4 zM ?_;refine Q1g ?_;exact h0'.o):p:=h ⟨hq⟩
theorem Qta(h:Hq q->p:=by intro h0';refine bodyPost_ret (v:=.tuple #[.slice A7 out.length c7,.slice A8 out.length c8]) (by simp [results,Tryz.results46,go_sem]) rfl ?_;exact h0'.o):p:=h ⟨hq⟩
theorem Q8i(h:Hq q->p:=by intro h0';refine yn<|yr<|yo zP<|yo zM<|yl ?_;exact h0'.o):p:=h ⟨hq⟩
theorem Qra(h:Hq q->p:=by intro h0';refine yq<|yr<|yo zlt<|yl<|yn<|yq<|y1<|ys<|yn<|yq<|yb<|yq<|yr<|yo zM<|yo zA<|yl<|yn<|yq<|yr<|yo zM ?_;refine Q4 Q6H ?_;exact h0'.o):p:=h ⟨hq⟩
theorem Qi2(h:Hq q->p:=by intro h0';refine yl<|yn<|yq<|yq<|yr<|yo (zD 2) ?_;exact h0'.o):p:=h ⟨hq⟩
theorem QtG(h:Hq q->p:=by intro h0';refine yq<|yb<|yq<|yr<|yo zM ?_;refine Q4 Q7E ?_;refine yo zF<|yo (zB 0)<|yo zea<|yo zM<|yo zM ?_;refine Q4 mc5 ?_;exact h0'.o):p:=h ⟨hq⟩
theorem Qoo(h:Hq q->p:=by intro h0';refine Qd zP ?_;refine Qd (Qj (f:=106) rfl rfl Q1 rfl rfl (fun w hw=>Q6F _ w)) ?_;refine Q0i ?_;exact h0'.o):p:=h ⟨hq⟩
theorem Ql1(h:Hq q->p:=by intro h0';refine bodyPost_ret (v:=.agg #[.int .i64 cd,.int .i64 ix]) (by simp [results,Tryz.results34,go_sem,r0,r1,z4]) rfl ?_;exact h0'.o):p:=h ⟨hq⟩
theorem Qn7(h:Hq q->p:=by intro h0';refine Qr2 ?_;refine Q4 (Qj rfl rfl Q1 rfl rfl (fun w hw=>Q38 Q4M HC.out)) ?_;refine Q4 Q7E ?_;exact h0'.o):p:=h ⟨hq⟩
theorem Qaw(h:Hq q->p:=by intro h0';refine yo zqr<|yo zY<|yo zA<|yl<|yn<|yt<|yc ?_;exact h0'.o):p:=h ⟨hq⟩
theorem Qlb(h:Hq q->p:=by intro h0';refine Qt (k+1) [1,2,3,4] Q1 hkn Q3 (.cons rfl rfl (.cons rfl rfl (.cons rfl (by go_num) Q0J))) ?_;exact h0'.o):p:=h ⟨hq⟩
theorem QaG(h:Hq q->p:=by intro h0';refine yo zA<|yl<|yn<|yr<|yo zP<|yo zM<|yl ?_;exact h0'.o):p:=h ⟨hq⟩
theorem Qod(h:Hq q->p:=by intro h0';refine yo zA<|yl<|yn<|yq<|yq<|yr<|yo zF<|yo (zB 0)<|yo zet<|yo zM<|yo zF<|yo (zB 0)<|yo zM<|yo zi1<|yo zC ?_;exact h0'.o):p:=h ⟨hq⟩
theorem QfL(h:Hq q->p:=by intro h0';unfold YF;rw[if_neg (by simp [h0]),if_neg h1,h];simp only;exact h0'.o):p:=h ⟨hq⟩
theorem QlX(h:Hq q->p:=by intro h0';rw[List.getElem?_map,List.getElem?_eq_getElem hj,List.getD_eq_getElem?_getD,List.getElem?_eq_getElem hj];exact h0'.o):p:=h ⟨hq⟩
theorem QmH(h:Hq q->p:=by intro h0';refine Q4 Q6H ?_;refine yo zM ?_;refine Q4 (Q8J (k:=.u8) rfl rfl Q1 rfl rfl rfl hsub) ?_;refine Q4 (YH rfl rfl Q1 rfl rfl rfl Tryz.underlying3 hcv2) ?_;refine yo zP<|yo zF<|yo (zB 0)<|yo zgt<|yo zA<|yl<|yn<|y1<|yr<|yo zM ?_;refine QdT ?_;exact h0'.o):p:=h ⟨hq⟩
theorem Qe5(h:Hq q->p:=by intro h0';refine yq<|yr<|yo zA<|yl<|yn<|yq<|Xt Q5 Q5 ?_;exact h0'.o):p:=h ⟨hq⟩
theorem Qb7(h:Hq q->p:=by intro h0';refine yo zY<|yo zA<|yl<|yn<|yt<|yk<|yc ?_;exact h0'.o):p:=h ⟨hq⟩
theorem QfO(h:Hq q->p:=by intro h0';refine Q0i ?_;refine yn<|yr<|yo zM<|yo zP<|yo zA<|yl ?_;exact h0'.o):p:=h ⟨hq⟩
theorem Qe0(h:Hq q->p:=by intro h0';refine yq<|yr<|yo zlf<|yl<|yn<|yq<|y0<|ye<|yx<|yx<|yu ?_;exact h0'.o):p:=h ⟨hq⟩
theorem Qaj(h:Hq q->p:=by intro h0';refine Q4 zlt ?_;refine Qe ?_;exact h0'.o):p:=h ⟨hq⟩
theorem QmO(h:Hq q->p:=by intro h0';refine yq<|yq<|yr<|yo zM<|yo zF<|yo (zB 0)<|yo zL<|yo zlf<|yl<|yn<|y0<|ye<|yn<|yr<|yo zM<|yo zM ?_;exact h0'.o):p:=h ⟨hq⟩
theorem QmJ(h:Hq q->p:=by intro h0';refine bodyPost_ret (v:=.tuple #[.slice none 0 0,.agg #[.int .i64 c,.int .i64 ix]]) QmU rfl ?_;exact h0'.o):p:=h ⟨hq⟩
theorem QfV(h:Hq q->p:=by intro h0';refine yn<|yq<|yq<|yr<|yo zM ?_;refine Q4 Qkr ?_;exact h0'.o):p:=h ⟨hq⟩
theorem Q6I(h:Hq q->p:=by intro h0';refine Q0i ?_;refine yn<|yt ?_;exact h0'.o):p:=h ⟨hq⟩
theorem QjT(h:Hq q->p:=by intro h0';(repeat(first|refine Q4 Kc ?_|refine Q4 Q0t ?_|refine Q4 (Xq rfl rfl Q1 rfl rfl (by exact fun w hw=>hw.cell_old QR Ql)) ?_|refine Q4 QdE ?_|refine Qe ?_|refine Qa ?_|refine Q6 ?_|refine Qq ?_|refine Q9 rfl ?_|refine Qh ?_|refine Q4 Qgf ?_));exact h0'.o):p:=h ⟨hq⟩
theorem Qo7(h:Hq q->p:=by intro h0';refine Qn 12 rfl Q5 Xj (zi (hj:=hkn)) ?_;refine Qn 13 rfl Q5 Xj (Ji rfl rfl Q1 rfl rfl rfl hcn) ?_;exact h0'.o):p:=h ⟨hq⟩
theorem Qop(h:Hq q->p:=by intro h0';refine Q4 zM ?_;refine Q4 zM ?_;refine Q4 zM ?_;refine Q4 (zi1 (hj:=hkn)) ?_;refine Q4 (zG hc) ?_;refine Q4 zea ?_;refine Qe ?_;exact h0'.o):p:=h ⟨hq⟩
theorem Qoa(h:Hq q->p:=by intro h0';(repeat(first|refine Q4 Kc ?_|refine Qe ?_|refine Q6 ?_|refine Q4 QgH ?_));exact h0'.o):p:=h ⟨hq⟩
theorem QmM(h:Hq q->p:=by intro h0';rw[hl2,hb2];refine Qn 13 rfl Q5 QjP mc5 ?_;refine Qn 14 rfl Q5 QjP zF ?_;exact h0'.o):p:=h ⟨hq⟩
theorem QjU(h:Hq q->p:=by intro h0';rw[hl1,hb1];refine Qn 11 rfl Q5 Kd mc5 ?_;refine Qn 12 rfl Q5 Kd zF ?_;exact h0'.o):p:=h ⟨hq⟩
theorem QmI(h:Hq q->p:=by intro h0';refine yq<|yq<|yr<|yo zM<|yo zF<|yo (zB 0)<|yo zL<|yo zlf<|yl<|yn<|y0<|ye<|yx<|yx<|yu ?_;exact h0'.o):p:=h ⟨hq⟩
theorem QeO(h:Hq q->p:=by intro h0';refine yW 0 ?_;refine yl<|yn<|yq<|yr<|yo (zD 0) ?_;exact h0'.o):p:=h ⟨hq⟩
theorem Qec(h:Hq q->p:=by intro h0';refine Q8U 0 (n:=2) (s:=1) rfl rfl Q1 ?_;exact h0'.o):p:=h ⟨hq⟩
end
end
end Go.Proofs.YtphkhfdmlcnoeaaGreatDoor

/- Parts of the proof of ScaleNumbers (CheckBench, Exponent and Largest answer as the reference does), at every input, with no further conditions. -/
import Derived.Test.YtdgocdadfmhjgaaGreatDoorZAT
import Derived.Test.YtdgocdadfmhjgaaGreatDoorZAU
import Derived.Test.YtdgocdadfmhjgaaGreatDoorCards
import Derived.Test.YtdgocdadfmhjgaaGreatDoorTie
import Derived.ProofKit
import Derived.OpenShut
import Derived.Deep.DeepHandedRow
import Derived.Lib.SmallJoins
import Derived.Lay
import Derived.ChangeMaps5
set_option linter.unusedVariables false
set_option linter.unusedSimpArgs false
section
namespace Go.Ai.Pg
open Go Go.Ai Go.Ai.b6 Go.RowKit
set_option maxRecDepth 100000
theorem fV{w:World}{S:Nat->Prop}{one:Bool}{x:AV}{v:Value}{xs:List AV}{vs:List Value}(h1:one=true->v.oneCell'=true)(h2:Rel w S x v [])(h3:Cells w S one xs vs []):Cells w S one (x::xs) (v::vs) []:=⟨v,vs,[],[],rfl,rfl,h1,h2,h3⟩
theorem si{w:World}{S:Nat->Prop}{one:Bool}:Cells w S one [] [] []:=⟨rfl,rfl⟩
theorem rL{w:World}{S:Nat->Prop}{v:Value}(h:scalar v=true):Rel w S (.v v) v []:=by simp only[Rel];exact⟨h,trivial,trivial⟩
theorem EY{w:World}{S:Nat->Prop}{xs:List AV}{cs:Array Value}(h:Cells w S true xs cs.toList []):Rel w S (.agg xs) (.agg cs) []:=by simp only[Rel];exact⟨cs,rfl,h⟩
theorem AO(b:ia)(a:bw)(s:iv)(la:a.length<=9223372036854775807)(l1:s.lo.length<=9223372036854775807)(l2:s.hi.length<=9223372036854775807){w:World}(hG:Laid Go.Proofs.Tryz.prog w):
 Calls Go.Proofs.Tryz.prog 6 #[.agg #[.int .i64 b.c,.int .i64 b.d,.int .i64 b.s,.int .i64 b.g],.string (bs a),.agg #[.string (bs s.lo),.string (bs s.hi)]] w fun e w'=>e=.returned (.bool true)/\Below w.heap.size w w':=by
 have h:=(Lz Ta b a s la l1 l2).calls (w:=w) (vs:=[.agg #[.int .i64 b.c,.int .i64 b.d,.int .i64 b.s,.int .i64 b.g],.string (bs a),.agg #[.string (bs s.lo),.string (bs s.hi)]]) Go.Proofs.Tryz.func6 rfl rfl hG
  (fV (fun h=>by cases h) (EY (fV (fun _=>rfl) (rL rfl) (fV (fun _=>rfl) (rL rfl) (fV (fun _=>rfl) (rL rfl) (fV (fun _=>rfl) (rL rfl) si)))))
    (fV (fun h=>by cases h) (rL rfl) (fV (fun h=>by cases h) (EY (fV (fun _=>rfl) (rL rfl) (fV (fun _=>rfl) (rL rfl) si))) si)))
 refine h.mono fun e w'⟨v,h1,h2,S',F,h3⟩=>?_;simp only[SV.den,Rel]at h3;rw[h1,h3.2.1];exact⟨rfl,h2⟩
end Go.Ai.Pg
namespace Go.Proofs.YtdgocdadfmhjgaaGreatDoor.ScaleNumbersProof
open Go Go.ChangeShapes Go.WideShapes Go.ChangeAt Go.RowKit Go.Ai
set_option maxRecDepth 100000
theorem ta{P:Program}{x:String×DataW Unit}{r:List (String×DataW Unit)}{w:World}(h:laidMet P (x::r) w):laidMet P r w:=by obtain⟨n,d⟩:=x;obtain⟨ps,⟨g,t,cs,fuel,p,q,h1,h2,h3,h4,h5,rfl⟩,hn,hh⟩:=h;exact⟨q,h5,(List.nodup_append.1 hn).2.1,fun b off hb=>hh b off (by simp[hb])⟩
theorem own:ownKnob Tryz.prog.godebug=none:=by kernel_rfl
theorem ac3:Tryz.prog.globalNamed "internal/strconv.uint64pow10"=some 5:=by kernel_rfl
theorem Pj:(Tryz.prog.globals[5]?).map (·.type)=some 352:=by kernel_rfl
theorem WE:Tryz.prog.cellsOf 352=20:=by kernel_rfl
theorem WG:Tryz.prog.cellsOf 253=1:=by kernel_rfl
theorem Kz:Tryz.prog.cellsOf 28=4:=by kernel_rfl
theorem Ky:Tryz.prog.cellsOf 67=2:=by kernel_rfl
theorem table{W:World}(h:laidMetH Tryz.prog Rows.scaleNumbersRow.laid W):Laid Tryz.prog W:=by have h':laidMet Tryz.prog Rows.scaleNumbersRow.laid W:=h;exact Lib.tabIs_of_head (rest:=[("strconv.ErrRange",Rows.laid_strconv_ErrRange),("strconv.ErrSyntax",Rows.laid_strconv_ErrSyntax)]) ac3 Pj Tryz.underlying352 Tryz.underlying253 WG WE (ta (ta h'))
theorem AP{w w':World}{may:MemPlace->Prop}(h:Below w.heap.size w w'):w.keptBut w' may:=by
 refine⟨h.os,h.output,fun i hi=>?_⟩;rw[h.block i hi];cases hh:w.heap[i]?with
 |none=>rfl
 |some o=>cases o<;>simp
theorem S3(s:ByteArray):bs s.data.toList=s:=by cases s;rfl
theorem PO(H:Type)(enc:TypeId×Value->H)(W:World)(base:Nat)(args:Array Value)(ds gs:List (DataW H))(before:List MemPlace)
 (uV:∀(j:Nat)t v,Tryz.f6.params[j]?=some t->args[j]?=some v->Value.okWide Tryz.prog W .any base t v)
 (hW:DataW.Whole enc Tryz.prog Tryz.f6.params.toList Rows.scaleNumbersSpec.vars false W args.toList ds gs before)(hL:laidMetH Tryz.prog Rows.scaleNumbersRow.laid W):
 Calls Tryz.prog 6 args W fun e W'=>∃v,e=.returned v/\Rows.scaleNumbersSpec.post enc Tryz.prog Tryz.f6 false true false false W args v W':=by
 have hW':=hW;obtain⟨p,q,hA0,hV,rfl,hfz,AG⟩:=hW;have hA:DataW.TrodAll enc Tryz.prog W 0 (fun _=>true) true Tryz.f6.params.toList args.toList ds p:=hA0;rw[Tryz.params6]at hA uV;obtain⟨v0,v1,v2,d0,d1,d2,p0,p1,p2,rfl,rfl,rfl,h0,h1,h2⟩:=trodAll_three hA;obtain⟨rfl,rfl⟩:=trodVars_none hV;obtain⟨a0,a1,a2,a3,y0,y1,y2,y3,n,rfl,rfl,rfl,k0,k1,k2,k3⟩:=Joins.open_agg4 Tryz.underlying28 (by kernel_rfl) Kz (uV 0 28 v0 rfl rfl) h0;obtain⟨s,rfl,rfl,rfl,hs⟩:=ChangeMaps.open_string Tryz.underlying46 (uV 1 46 v1 rfl rfl) h1;obtain⟨b0,b1,z0,z1,m,rfl,rfl,rfl,j0,j1⟩:=Joins.open_agg2 Tryz.underlying67 (by kernel_rfl) Ky (uV 2 67 v2 rfl rfl) h2;obtain⟨i0,e0,rfl,w0⟩:=DataW.trod_int Tryz.underlying3 k0;obtain⟨i1,e1,rfl,w1⟩:=DataW.trod_int Tryz.underlying3 k1;obtain⟨i2,e2,rfl,w2⟩:=DataW.trod_int Tryz.underlying3 k2;obtain⟨i3,e3,rfl,w3⟩:=DataW.trod_int Tryz.underlying3 k3;obtain⟨t0,f0,rfl,u0⟩:=DataW.trod_string Tryz.underlying46 j0;obtain⟨t1,f1,rfl,u1⟩:=DataW.trod_string Tryz.underlying46 j1;simp only[List.cons.injEq,and_true]at e0 e1 e2 e3 f0 f1;subst e0;subst e1;subst e2;subst e3;subst f0;subst f1;have hlen:∀x:ByteArray,x.size<=maxLen->x.data.toList.length<=9223372036854775807:=fun x hx=>by rw[Array.length_toList];exact hx
 have walk:=Go.Ai.Pg.AO ⟨i0,i1,i2,i3⟩ s.data.toList ⟨t0.data.toList,t1.data.toList⟩ (hlen s hs) (hlen t0 u0) (hlen t1 u1) (table hL);simp only[S3]at walk;refine walk.mono fun e W'⟨he,hb⟩=>?_;subst he;refine⟨_,rfl,_,_,_,[],[],[],hW',?_,?_,?_,AP hb,fun h=>by cases h⟩
 ·exact trodAll_mk1 (shut_bool Tryz.underlying4 true)
 ·have hi:∀{k:Int},(Lit.int .i64 k).wf=true->∃n,DataW.trod enc Tryz.prog W' 0 (fun b=>decide (b<W.heap.size)) true n 3 [.int .i64 k]=some (.lit (.int .i64 k),[]):=fun h=>by
   obtain⟨n,hn⟩:=shut_int (enc:=enc) (w:=W') (base:=0) (spare:=fun b=>decide (b<W.heap.size)) (held:=true) Tryz.underlying3 h;exact⟨n,by simpa[Value.cells]using hn⟩
  have ON:∀{x:ByteArray},x.size<=maxLen->∃n,DataW.trod enc Tryz.prog W' 0 (fun b=>decide (b<W.heap.size)) true n 46 [.string x]=some (.lit (.string x.data.toList),[]):=fun h=>by obtain⟨n,hn⟩:=ChangeMaps.shut_string (enc:=enc) (w:=W') (base:=0) (sp:=fun b=>decide (b<W.heap.size)) (held:=true) Tryz.underlying46 h;exact⟨n,by simpa[Value.cells]using hn⟩
  exact trodAll_mk3 (Joins.shut_agg4 (y0:=(_,[])) (y1:=(_,[])) (y2:=(_,[])) (y3:=(_,[])) Tryz.underlying28 (by kernel_rfl) Kz (hi w0) (hi w1) (hi w2) (hi w3)) (ChangeMaps.shut_string Tryz.underlying46 hs) (Joins.shut_agg2 (y0:=(_,[])) (y1:=(_,[])) Tryz.underlying67 (by kernel_rfl) Ky (ON u0) (ON u1))
 rfl
def Jn:Array Value:=#[.agg #[.int .i64 0,.int .i64 0,.int .i64 0,.int .i64 0],.string ⟨#[]⟩,.agg #[.string ⟨#[]⟩,.string ⟨#[]⟩]]
theorem Om(os:Os):laidMet Tryz.prog Rows.scaleNumbersRow.laid ((World.laidAll Tryz.prog os Rows.scaleNumbersRow.laid).forCall (fun _ _=>0) ⟨#[],Jn,[]⟩).memory:=laidMet_laidAll _ (by kernel_rfl) (by kernel_rfl)
theorem reads(os:Os){H:Type}(enc:TypeId×Value->H):∃places,DataW.whole enc Tryz.prog ((World.laidAll Tryz.prog os Rows.scaleNumbersRow.laid).forCall (fun _ _=>0) ⟨#[],Jn,[]⟩).memory Tryz.f6.params.toList Rows.scaleNumbersSpec.vars false Jn.toList 8=some ([.agg [.lit (.int .i64 0),.lit (.int .i64 0),.lit (.int .i64 0),.lit (.int .i64 0)],.lit (.string []),.agg [.lit (.string []),.lit (.string [])]],[],places):=⟨[],by kernel_rfl⟩
theorem lifted(os:Os)(started:os.Started)(H:Type)(enc:TypeId×Value->H)(F:Stop.Interp):
 ReturnsInHanded {} Tryz.checked os 6 .any ((OpenSpec.ofChange Rows.scaleNumbersSpec).preRow enc Tryz.prog Tryz.f6 Rows.scaleNumbersRow.domain false Rows.scaleNumbersRow.laid) (((OpenSpec.ofChange Rows.scaleNumbersSpec).at F).post enc Tryz.prog Tryz.f6 false true false false):=by
 obtain⟨places,hx⟩:=reads os enc;refine returnsInHanded_of_row (C:=Tryz.checked) (s:=OpenSpec.ofChange Rows.scaleNumbersSpec) own started (by kernel_rfl) Tryz.func6
  (witness_row_at (enc:=enc) (C:=Tryz.checked) false (World.laidAll Tryz.prog os Rows.scaleNumbersRow.laid) Jn (World.laidAll_os _ _ _) (by kernel_rfl) (by kernel_rfl) (by kernel_rfl)
    (OpenSpec.preRow_of_cond 8 hx (by kernel_rfl) (fun k hk=>by cases hk) (by kernel_rfl) (Om os))) ?_
 intro W base args ds gs before uV hW _ _ _ hL _ _;exact PO H enc W base args ds gs before uV hW hL
theorem said:Rows.ScaleNumbersSaid:=
 OpenClaim.holds_of_cond 6 Tryz.f6 rfl rfl rfl rfl rfl rfl rfl ⟨rfl,rfl,rfl,rfl,rfl⟩ rfl rfl rfl rfl rfl eQ.named Tryz.func6 eQ.closed
  eQ.inst eQ.wrap
  (fun os started H enc _ F=>by rw[OpenClaim.pre_eq_preRow];exact lifted os started H enc F)
end Go.Proofs.YtdgocdadfmhjgaaGreatDoor.ScaleNumbersProof
end

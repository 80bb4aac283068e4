/-
  Contracts of single functions of the program, each shown by the engine: what a call returns for arguments within the contract's bounds.
-/
import Derived.Test.YtkafaeeianofnaaFFnRunSelfa
import Derived.Test.YtkafaeeianofnaaEd
import Derived.Test.YtkafaeeianofnaaEe
set_option linter.unusedSimpArgs false
set_option linter.unusedVariables false
set_option linter.unusedSectionVars false

namespace Go.Proofs.Ytkafaeeianofnaa
open Go.SE Go.RowKit
set_option linter.unusedSimpArgs false
set_option linter.unusedVariables false
set_option maxHeartbeats 1000000
set_option maxRecDepth 100000
abbrev c_l9Lists:Con:=⟨[.rdr],[.state],fun _=>True,.inr fun (rr,_) r=>r.1.vals.length=8/\r.1.heap.length=8,fun (rr,_)=>8⟩
abbrev L_l9Lists:List (FuncId × Con):=[(80,c_num),(91,c_l2Blank)]
abbrev P_l9Lists:List (FuncId × PT):=[]
def an_l9Lists (rr:Unit):Nat->St->Option Ann
 | 4,se=>some { α:=Nat × Int × List Int × List Int,ok:=fun a=>1<=a.1/\a.1<=3/\(1:Int)<=a.2.1/\a.2.1<=3 * (a.1:Int) - 2/\a.2.2.1.length=8/\a.2.2.2.length=8,mu:=fun a=>3 - a.1,i0:=fun _=>((1,1,List.replicate 8 0,List.replicate 8 (-1)):Nat × Int × List Int × List Int),nx:=fun a st=>(a.1+1,intAt st 4,slAt .int st (.cell 63 0),slAt .int st (.cell 63 1)),live:=[0,2,3],sets:=fun a=>[(5,sv (.int .i64 a.1)),(4,sv (.int .i64 a.2.1))],mids:=[32,33,47],blks:=fun a=>[(63,.blk [.own 7,.own 8])],owns:=fun a=>[⟨7,.cell 63 0,.int,a.2.2.1⟩,⟨8,.cell 63 1,.int,a.2.2.2⟩],rd:=fun r a=>rdPlus r (a.1 - 1),base:=100000 }
 | 10,se=>some { α:=Nat × List Int,ok:=fun a=>1<=a.1/\(a.1:Int)<=intAt se 6+1/\a.2.length=8,mu:=fun a=>5 - a.1,i0:=fun st=>(1,slAt .int st (.cell 63 1)),nx:=fun a st=>(a.1+1,slAt .int st (.cell 63 1)),live:=[0,2,3,5,6],sets:=fun a=>[(7,sv (.int .i64 a.1)),(4,sv (.int .i64 (intAt se 4+a.1 - 1)))],mids:=[32,33,47],blks:=fun a=>[(63,.blk [.own 7,.own 8])],owns:=fun a=>[⟨7,.cell 63 0,.int,slAt .int se (.cell 63 0)⟩,⟨8,.cell 63 1,.int,a.2⟩],rd:=fun r _=>r,base:=200000 }
 | 17,se=>some { α:=Nat × List Int,ok:=fun a=>3<=a.1/\a.1<=9/\a.2.length=8,mu:=fun a=>9 - a.1,i0:=fun st=>(3,slAt .int st (.cell 63 0)),nx:=fun a st=>(a.1+1,slAt .int st (.cell 63 0)),live:=[0,2,3],sets:=fun a=>[(8,sv (.int .i64 a.1))],mids:=[32,33,47],blks:=fun a=>[(63,.blk [.own 7,.own 8])],owns:=fun a=>[⟨7,.cell 63 0,.int,a.2⟩,⟨8,.cell 63 1,.int,slAt .int se (.cell 63 1)⟩],rd:=fun r a=>rdPlus r (a.1 - 3),base:=300000 }
 | _,_=>none
def VC_l9Lists_1 :Prop:=RM [some (.sl 32 .int ([]:List Int)),some (.sl 33 .int ([]:List Int)),some (.blk [.own 32,.own 33])]
def VC_l9Lists_2 (a1:Nat × Int × List Int × List Int) (r2:Int × Unit):Prop:=RL [.s (.c (.rdr)),.s (.c (.ptr 47 0)),.s (.c (.ptr 63 0)),.s (.c (.d (.val (.int .i64 (a1.1:Int))))),.s (.c (.d (.val (.int .i64 r2.1))))]
def VC_l9Lists_3 (a1:Nat × Int × List Int × List Int):Prop:=([.s (.c (.d (.val (.int .i64 (1:Int))))),.s (.c (.d (.val (.int .i64 (a1.2.1:Int)))))]:List S)=[.s (.c (.d (.val (.int .i64 ((1,a1.2.2.2).1:Int))))),.s (.c (.d (.val (.int .i64 ((a1.2.1:Int)+(1,a1.2.2.2).1 - 1:Int)))))]
def VC_l9Lists_4 (a1:Nat × Int × List Int × List Int):Prop:=(some (a1.2.2.1.set ((a1.1:Int) - (1:Int)).toNat (a1.2.1:Int)):Option (List Int))=some (a1.2.2.1.set ((a1.1:Int) - (1:Int)).toNat (a1.2.1:Int))
def VC_l9Lists_5 (a1:Nat × Int × List Int × List Int) (a3:Nat × List Int):Prop:=0<=(((a1.2.1:Int)+a3.1 - 1:Int) - (1:Int))/\(((a1.2.1:Int)+a3.1 - 1:Int) - (1:Int)) < ((a3.2.length:Nat):Int)
def VC_l9Lists_6 (a1:Nat × Int × List Int × List Int) (a3:Nat × List Int):Prop:=0<=(((a1.2.1:Int)+a3.1 - 1:Int) - (1:Int))/\(((a1.2.1:Int)+a3.1 - 1:Int) - (1:Int)) < (((a3.2.set (((a1.2.1:Int)+a3.1 - 1:Int) - (1:Int)).toNat (0:Int)).length:Nat):Int)
def VC_l9Lists_7 (a3:Nat × List Int) (a1:Nat × Int × List Int × List Int) (r2:Int × Unit):Prop:=1<=(a3.1+1,((a3.2.set (((a1.2.1:Int)+a3.1 - 1:Int) - (1:Int)).toNat (0:Int)).set (((a1.2.1:Int)+a3.1 - 1:Int) - (1:Int)).toNat (((a1.2.1:Int)+a3.1 - 1:Int)+(1:Int)))).1/\((a3.1+1,((a3.2.set (((a1.2.1:Int)+a3.1 - 1:Int) - (1:Int)).toNat (0:Int)).set (((a1.2.1:Int)+a3.1 - 1:Int) - (1:Int)).toNat (((a1.2.1:Int)+a3.1 - 1:Int)+(1:Int)))).1:Int)<=r2.1+1/\(a3.1+1,((a3.2.set (((a1.2.1:Int)+a3.1 - 1:Int) - (1:Int)).toNat (0:Int)).set (((a1.2.1:Int)+a3.1 - 1:Int) - (1:Int)).toNat (((a1.2.1:Int)+a3.1 - 1:Int)+(1:Int)))).2.length=8
def VC_l9Lists_8 (a3:Nat × List Int) (a1:Nat × Int × List Int × List Int):Prop:=5 - (a3.1+1,((a3.2.set (((a1.2.1:Int)+a3.1 - 1:Int) - (1:Int)).toNat (0:Int)).set (((a1.2.1:Int)+a3.1 - 1:Int) - (1:Int)).toNat (((a1.2.1:Int)+a3.1 - 1:Int)+(1:Int)))).1 < 5 - a3.1
def VC_l9Lists_9 (a3:Nat × List Int) (a1:Nat × Int × List Int × List Int):Prop:=([.s (.c (.d (.val (.int .i64 ((a3.1:Int)+(1:Int)))))),.s (.c (.d (.val (.int .i64 (((a1.2.1:Int)+a3.1 - 1:Int)+(1:Int))))))]:List S)=[.s (.c (.d (.val (.int .i64 ((a3.1+1,((a3.2.set (((a1.2.1:Int)+a3.1 - 1:Int) - (1:Int)).toNat (0:Int)).set (((a1.2.1:Int)+a3.1 - 1:Int) - (1:Int)).toNat (((a1.2.1:Int)+a3.1 - 1:Int)+(1:Int)))).1:Int))))),.s (.c (.d (.val (.int .i64 ((a1.2.1:Int)+(a3.1+1,((a3.2.set (((a1.2.1:Int)+a3.1 - 1:Int) - (1:Int)).toNat (0:Int)).set (((a1.2.1:Int)+a3.1 - 1:Int) - (1:Int)).toNat (((a1.2.1:Int)+a3.1 - 1:Int)+(1:Int)))).1 - 1:Int)))))]
def VC_l9Lists_10 (a3:Nat × List Int) (a1:Nat × Int × List Int × List Int):Prop:=((some ((a3.2.set (((a1.2.1:Int)+a3.1 - 1:Int) - (1:Int)).toNat (0:Int)).set (((a1.2.1:Int)+a3.1 - 1:Int) - (1:Int)).toNat (((a1.2.1:Int)+a3.1 - 1:Int)+(1:Int))):Option (List Int))=some ((a3.1+1,((a3.2.set (((a1.2.1:Int)+a3.1 - 1:Int) - (1:Int)).toNat (0:Int)).set (((a1.2.1:Int)+a3.1 - 1:Int) - (1:Int)).toNat (((a1.2.1:Int)+a3.1 - 1:Int)+(1:Int)))).2))/\True
def VC_l9Lists_11 (a3:Nat × List Int) (a1:Nat × Int × List Int × List Int) (r2:Int × Unit):Prop:=1<=(a3.1+1,(a3.2.set (((a1.2.1:Int)+a3.1 - 1:Int) - (1:Int)).toNat (0:Int))).1/\((a3.1+1,(a3.2.set (((a1.2.1:Int)+a3.1 - 1:Int) - (1:Int)).toNat (0:Int))).1:Int)<=r2.1+1/\(a3.1+1,(a3.2.set (((a1.2.1:Int)+a3.1 - 1:Int) - (1:Int)).toNat (0:Int))).2.length=8
def VC_l9Lists_12 (a3:Nat × List Int) (a1:Nat × Int × List Int × List Int):Prop:=5 - (a3.1+1,(a3.2.set (((a1.2.1:Int)+a3.1 - 1:Int) - (1:Int)).toNat (0:Int))).1 < 5 - a3.1
def VC_l9Lists_13 (a3:Nat × List Int) (a1:Nat × Int × List Int × List Int):Prop:=([.s (.c (.d (.val (.int .i64 ((a3.1:Int)+(1:Int)))))),.s (.c (.d (.val (.int .i64 (((a1.2.1:Int)+a3.1 - 1:Int)+(1:Int))))))]:List S)=[.s (.c (.d (.val (.int .i64 ((a3.1+1,(a3.2.set (((a1.2.1:Int)+a3.1 - 1:Int) - (1:Int)).toNat (0:Int))).1:Int))))),.s (.c (.d (.val (.int .i64 ((a1.2.1:Int)+(a3.1+1,(a3.2.set (((a1.2.1:Int)+a3.1 - 1:Int) - (1:Int)).toNat (0:Int))).1 - 1:Int)))))]
def VC_l9Lists_14 (a3:Nat × List Int) (a1:Nat × Int × List Int × List Int):Prop:=((some (a3.2.set (((a1.2.1:Int)+a3.1 - 1:Int) - (1:Int)).toNat (0:Int)):Option (List Int))=some ((a3.1+1,(a3.2.set (((a1.2.1:Int)+a3.1 - 1:Int) - (1:Int)).toNat (0:Int))).2))/\True
def VC_l9Lists_15 (a3:Nat × List Int) (r2:Int × Unit) (a1:Nat × Int × List Int × List Int) (k:Nat):Prop:=(True/\(vcIf (decide ((a3.1:Int)<=r2.1)) (True/\True/\True/\(inK .i64 (((a1.2.1:Int)+a3.1 - 1:Int) - (1:Int)))/\(VC_l9Lists_5 a1 a3)/\(TF/\TF/\True/\((8:Nat) ∉ ([]:List Nat)))/\True/\True/\True/\(vcIf (decide ((a3.1:Int) < r2.1)) (True/\True/\True/\(inK .i64 (((a1.2.1:Int)+a3.1 - 1:Int) - (1:Int)))/\True/\(inK .i64 (((a1.2.1:Int)+a3.1 - 1:Int)+(1:Int)))/\(VC_l9Lists_6 a1 a3)/\(TF/\TF/\True/\((8:Nat) ∉ ([]:List Nat)))/\True/\(inK .i64 (((a1.2.1:Int)+a3.1 - 1:Int)+(1:Int)))/\True/\True/\(inK .i64 ((a3.1:Int)+(1:Int)))/\True/\(VC_l9Lists_7 a3 a1 r2)/\(VC_l9Lists_8 a3 a1)/\TT/\(VC_l9Lists_2 a1 r2)/\(VC_l9Lists_9 a3 a1)/\VC_l9Lists_1/\(RM [some (.blk [.own 7,.own 8])])/\((VC_l9Lists_4 a1)/\(VC_l9Lists_10 a3 a1))/\(k+(a1.1 - 1)+1<=k+(a1.1 - 1)+1/\k+(a1.1 - 1)+1<=1099511627776)) (True/\(inK .i64 (((a1.2.1:Int)+a3.1 - 1:Int)+(1:Int)))/\True/\True/\(inK .i64 ((a3.1:Int)+(1:Int)))/\True/\(VC_l9Lists_11 a3 a1 r2)/\(VC_l9Lists_12 a3 a1)/\TT/\(VC_l9Lists_2 a1 r2)/\(VC_l9Lists_13 a3 a1)/\VC_l9Lists_1/\(RM [some (.blk [.own 7,.own 8])])/\((VC_l9Lists_4 a1)/\(VC_l9Lists_14 a3 a1))/\(k+(a1.1 - 1)+1<=k+(a1.1 - 1)+1/\k+(a1.1 - 1)+1<=1099511627776)))) (True/\(inK .i64 ((a1.1:Int)+(1:Int)))/\True/\(1<=(a1.1+1,((a1.2.1:Int)+a3.1 - 1:Int),(a1.2.2.1.set ((a1.1:Int) - (1:Int)).toNat (a1.2.1:Int)),a3.2).1/\(a1.1+1,((a1.2.1:Int)+a3.1 - 1:Int),(a1.2.2.1.set ((a1.1:Int) - (1:Int)).toNat (a1.2.1:Int)),a3.2).1<=3/\(1:Int)<=(a1.1+1,((a1.2.1:Int)+a3.1 - 1:Int),(a1.2.2.1.set ((a1.1:Int) - (1:Int)).toNat (a1.2.1:Int)),a3.2).2.1/\(a1.1+1,((a1.2.1:Int)+a3.1 - 1:Int),(a1.2.2.1.set ((a1.1:Int) - (1:Int)).toNat (a1.2.1:Int)),a3.2).2.1<=3 * ((a1.1+1,((a1.2.1:Int)+a3.1 - 1:Int),(a1.2.2.1.set ((a1.1:Int) - (1:Int)).toNat (a1.2.1:Int)),a3.2).1:Int) - 2/\(a1.1+1,((a1.2.1:Int)+a3.1 - 1:Int),(a1.2.2.1.set ((a1.1:Int) - (1:Int)).toNat (a1.2.1:Int)),a3.2).2.2.1.length=8/\(a1.1+1,((a1.2.1:Int)+a3.1 - 1:Int),(a1.2.2.1.set ((a1.1:Int) - (1:Int)).toNat (a1.2.1:Int)),a3.2).2.2.2.length=8)/\(3 - (a1.1+1,((a1.2.1:Int)+a3.1 - 1:Int),(a1.2.2.1.set ((a1.1:Int) - (1:Int)).toNat (a1.2.1:Int)),a3.2).1 < 3 - a1.1)/\TT/\(RL [.s (.c (.rdr)),.s (.c (.ptr 47 0)),.s (.c (.ptr 63 0))])/\(([.s (.c (.d (.val (.int .i64 ((a1.1:Int)+(1:Int)))))),.s (.c (.d (.val (.int .i64 ((a1.2.1:Int)+a3.1 - 1:Int)))))]:List S)=[.s (.c (.d (.val (.int .i64 ((a1.1+1,((a1.2.1:Int)+a3.1 - 1:Int),(a1.2.2.1.set ((a1.1:Int) - (1:Int)).toNat (a1.2.1:Int)),a3.2).1:Int))))),.s (.c (.d (.val (.int .i64 ((a1.1+1,((a1.2.1:Int)+a3.1 - 1:Int),(a1.2.2.1.set ((a1.1:Int) - (1:Int)).toNat (a1.2.1:Int)),a3.2).2.1:Int)))))])/\VC_l9Lists_1/\(RM [some (.blk [.own 7,.own 8])])/\(((some (a1.2.2.1.set ((a1.1:Int) - (1:Int)).toNat (a1.2.1:Int)):Option (List Int))=some ((a1.1+1,((a1.2.1:Int)+a3.1 - 1:Int),(a1.2.2.1.set ((a1.1:Int) - (1:Int)).toNat (a1.2.1:Int)),a3.2).2.2.1))/\((some a3.2:Option (List Int))=some ((a1.1+1,((a1.2.1:Int)+a3.1 - 1:Int),(a1.2.2.1.set ((a1.1:Int) - (1:Int)).toNat (a1.2.1:Int)),a3.2).2.2.2))/\True)/\(k+(a1.1 - 1)+1<=k+((a1.1+1,((a1.2.1:Int)+a3.1 - 1:Int),(a1.2.2.1.set ((a1.1:Int) - (1:Int)).toNat (a1.2.1:Int)),a3.2).1 - 1)/\k+((a1.1+1,((a1.2.1:Int)+a3.1 - 1:Int),(a1.2.2.1.set ((a1.1:Int) - (1:Int)).toNat (a1.2.1:Int)),a3.2).1 - 1)<=1099511627776))))
def VC_l9Lists_16 (a4:Nat × List Int) (r2:Int × Unit) (a1:Nat × Int × List Int × List Int) (k:Nat):Prop:=(1<=a4.1/\(a4.1:Int)<=r2.1+1/\a4.2.length=8)->True/\True/\True/\(vcIf (decide ((a4.1:Int)<=r2.1)) (True/\True/\True/\(inK .i64 (((a1.2.1:Int)+a4.1 - 1:Int) - (1:Int)))/\(VC_l9Lists_5 a1 a4)/\(TF/\TF/\True/\((8:Nat) ∉ ([]:List Nat)))/\True/\True/\True/\(vcIf (decide ((a4.1:Int) < r2.1)) (True/\True/\True/\(inK .i64 (((a1.2.1:Int)+a4.1 - 1:Int) - (1:Int)))/\True/\(inK .i64 (((a1.2.1:Int)+a4.1 - 1:Int)+(1:Int)))/\(VC_l9Lists_6 a1 a4)/\(TF/\TF/\True/\((8:Nat) ∉ ([]:List Nat)))/\True/\(inK .i64 (((a1.2.1:Int)+a4.1 - 1:Int)+(1:Int)))/\True/\True/\(inK .i64 ((a4.1:Int)+(1:Int)))/\True/\(VC_l9Lists_7 a4 a1 r2)/\(VC_l9Lists_8 a4 a1)/\TT/\(VC_l9Lists_2 a1 r2)/\(VC_l9Lists_9 a4 a1)/\VC_l9Lists_1/\(RM [some (.blk [.own 7,.own 8])])/\(((some a1.2.2.1:Option (List Int))=some a1.2.2.1)/\(VC_l9Lists_10 a4 a1))/\(k+(a1.1 - 1)+1<=k+(a1.1 - 1)+1/\k+(a1.1 - 1)+1<=1099511627776)) (True/\(inK .i64 (((a1.2.1:Int)+a4.1 - 1:Int)+(1:Int)))/\True/\True/\(inK .i64 ((a4.1:Int)+(1:Int)))/\True/\(VC_l9Lists_11 a4 a1 r2)/\(VC_l9Lists_12 a4 a1)/\TT/\(VC_l9Lists_2 a1 r2)/\(VC_l9Lists_13 a4 a1)/\VC_l9Lists_1/\(RM [some (.blk [.own 7,.own 8])])/\(((some a1.2.2.1:Option (List Int))=some a1.2.2.1)/\(VC_l9Lists_14 a4 a1))/\(k+(a1.1 - 1)+1<=k+(a1.1 - 1)+1/\k+(a1.1 - 1)+1<=1099511627776)))) (True/\(inK .i64 ((a1.1:Int)+(1:Int)))/\True/\(1<=(a1.1+1,((a1.2.1:Int)+a4.1 - 1:Int),a1.2.2.1,a4.2).1/\(a1.1+1,((a1.2.1:Int)+a4.1 - 1:Int),a1.2.2.1,a4.2).1<=3/\(1:Int)<=(a1.1+1,((a1.2.1:Int)+a4.1 - 1:Int),a1.2.2.1,a4.2).2.1/\(a1.1+1,((a1.2.1:Int)+a4.1 - 1:Int),a1.2.2.1,a4.2).2.1<=3 * ((a1.1+1,((a1.2.1:Int)+a4.1 - 1:Int),a1.2.2.1,a4.2).1:Int) - 2/\(a1.1+1,((a1.2.1:Int)+a4.1 - 1:Int),a1.2.2.1,a4.2).2.2.1.length=8/\(a1.1+1,((a1.2.1:Int)+a4.1 - 1:Int),a1.2.2.1,a4.2).2.2.2.length=8)/\(3 - (a1.1+1,((a1.2.1:Int)+a4.1 - 1:Int),a1.2.2.1,a4.2).1 < 3 - a1.1)/\TT/\(RL [.s (.c (.rdr)),.s (.c (.ptr 47 0)),.s (.c (.ptr 63 0))])/\(([.s (.c (.d (.val (.int .i64 ((a1.1:Int)+(1:Int)))))),.s (.c (.d (.val (.int .i64 ((a1.2.1:Int)+a4.1 - 1:Int)))))]:List S)=[.s (.c (.d (.val (.int .i64 ((a1.1+1,((a1.2.1:Int)+a4.1 - 1:Int),a1.2.2.1,a4.2).1:Int))))),.s (.c (.d (.val (.int .i64 ((a1.1+1,((a1.2.1:Int)+a4.1 - 1:Int),a1.2.2.1,a4.2).2.1:Int)))))])/\VC_l9Lists_1/\(RM [some (.blk [.own 7,.own 8])])/\(((some a1.2.2.1:Option (List Int))=some ((a1.1+1,((a1.2.1:Int)+a4.1 - 1:Int),a1.2.2.1,a4.2).2.2.1))/\((some a4.2:Option (List Int))=some ((a1.1+1,((a1.2.1:Int)+a4.1 - 1:Int),a1.2.2.1,a4.2).2.2.2))/\True)/\(k+(a1.1 - 1)+1<=k+((a1.1+1,((a1.2.1:Int)+a4.1 - 1:Int),a1.2.2.1,a4.2).1 - 1)/\k+((a1.1+1,((a1.2.1:Int)+a4.1 - 1:Int),a1.2.2.1,a4.2).1 - 1)<=1099511627776)))
def VC_l9Lists_17 (a1:Nat × Int × List Int × List Int) (k:Nat):Prop:=(True/\(vcIf (decide ((a1.1:Int)<=(2:Int))) (True/\(TN/\True)/\((0 < ([(2:Int),(1:Int),(0:Int),(3:Int)]:List Int).length/\([(2:Int),(1:Int),(0:Int),(3:Int)]:List Int).length<=1000)/\(k+(a1.1 - 1)+1<=1099511627776)/\True)/\(∀ r2:Int × Unit,(r2.1 ∈ ([(2:Int),(1:Int),(0:Int),(3:Int)]:List Int))->True/\True/\True/\(vcIf (decide ((0:Int) < r2.1)) (True/\True/\True/\(inK .i64 ((a1.1:Int) - (1:Int)))/\True/\(0<=((a1.1:Int) - (1:Int))/\((a1.1:Int) - (1:Int)) < ((a1.2.2.1.length:Nat):Int))/\(TF/\TF/\True/\((7:Nat) ∉ ([]:List Nat)))/\True/\((1<=(1,a1.2.2.2).1/\((1,a1.2.2.2).1:Int)<=r2.1+1/\(1,a1.2.2.2).2.length=8)/\TT/\(VC_l9Lists_2 a1 r2)/\(VC_l9Lists_3 a1)/\VC_l9Lists_1/\(RM [some (.blk [.own 7,.own 8])])/\((VC_l9Lists_4 a1)/\((some a1.2.2.2:Option (List Int))=some ((1,a1.2.2.2).2))/\True)/\(k+(a1.1 - 1)+1<=k+(a1.1 - 1)+1/\k+(a1.1 - 1)+1<=1099511627776))/\(∀ a3:Nat × List Int,(1<=a3.1/\(a3.1:Int)<=r2.1+1/\a3.2.length=8)->True/\True/\(VC_l9Lists_15 a3 r2 a1 k))) (True/\((1<=(1,a1.2.2.2).1/\((1,a1.2.2.2).1:Int)<=r2.1+1/\(1,a1.2.2.2).2.length=8)/\TT/\(VC_l9Lists_2 a1 r2)/\(VC_l9Lists_3 a1)/\VC_l9Lists_1/\(RM [some (.blk [.own 7,.own 8])])/\(((some a1.2.2.1:Option (List Int))=some a1.2.2.1)/\((some a1.2.2.2:Option (List Int))=some ((1,a1.2.2.2).2))/\True)/\(k+(a1.1 - 1)+1<=k+(a1.1 - 1)+1/\k+(a1.1 - 1)+1<=1099511627776))/\(∀ a4:Nat × List Int,(VC_l9Lists_16 a4 r2 a1 k)))))) (True/\((3<=(3,a1.2.2.1).1/\(3,a1.2.2.1).1<=9/\(3,a1.2.2.1).2.length=8)/\TT/\(RL [.s (.c (.rdr)),.s (.c (.ptr 47 0)),.s (.c (.ptr 63 0))])/\(([.s (.c (.d (.val (.int .i64 (3:Int)))))]:List S)=[.s (.c (.d (.val (.int .i64 ((3,a1.2.2.1).1:Int)))))])/\VC_l9Lists_1/\(RM [some (.blk [.own 7,.own 8])])/\(((some a1.2.2.1:Option (List Int))=some ((3,a1.2.2.1).2))/\((some a1.2.2.2:Option (List Int))=some a1.2.2.2)/\True)/\(k+(a1.1 - 1)<=k+(a1.1 - 1)+((3,a1.2.2.1).1 - 3)/\k+(a1.1 - 1)+((3,a1.2.2.1).1 - 3)<=1099511627776))/\(∀ a5:Nat × List Int,(3<=a5.1/\a5.1<=9/\a5.2.length=8)->True/\True/\(vcIf (decide ((a5.1:Int)<=(8:Int))) (True/\True/\True/\(inK .i64 ((a5.1:Int) - (1:Int)))/\True/\(TN/\True)/\((0 < ([(0:Int),(1:Int),(2:Int),(0:Int),(3:Int)]:List Int).length/\([(0:Int),(1:Int),(2:Int),(0:Int),(3:Int)]:List Int).length<=1000)/\(k+(a1.1 - 1)+(a5.1 - 3)+1<=1099511627776)/\True)/\(∀ r6:Int × Unit,(r6.1 ∈ ([(0:Int),(1:Int),(2:Int),(0:Int),(3:Int)]:List Int))->(0<=((a5.1:Int) - (1:Int))/\((a5.1:Int) - (1:Int)) < ((a5.2.length:Nat):Int))/\(TF/\TF/\True/\((7:Nat) ∉ ([]:List Nat)))/\True/\(inK .i64 ((a5.1:Int)+(1:Int)))/\True/\(3<=(a5.1+1,(a5.2.set ((a5.1:Int) - (1:Int)).toNat r6.1)).1/\(a5.1+1,(a5.2.set ((a5.1:Int) - (1:Int)).toNat r6.1)).1<=9/\(a5.1+1,(a5.2.set ((a5.1:Int) - (1:Int)).toNat r6.1)).2.length=8)/\(9 - (a5.1+1,(a5.2.set ((a5.1:Int) - (1:Int)).toNat r6.1)).1 < 9 - a5.1)/\TT/\(RL [.s (.c (.rdr)),.s (.c (.ptr 47 0)),.s (.c (.ptr 63 0))])/\(([.s (.c (.d (.val (.int .i64 ((a5.1:Int)+(1:Int))))))]:List S)=[.s (.c (.d (.val (.int .i64 ((a5.1+1,(a5.2.set ((a5.1:Int) - (1:Int)).toNat r6.1)).1:Int)))))])/\VC_l9Lists_1/\(RM [some (.blk [.own 7,.own 8])])/\(((some (a5.2.set ((a5.1:Int) - (1:Int)).toNat r6.1):Option (List Int))=some ((a5.1+1,(a5.2.set ((a5.1:Int) - (1:Int)).toNat r6.1)).2))/\((some a1.2.2.2:Option (List Int))=some a1.2.2.2)/\True)/\(k+(a1.1 - 1)+(a5.1 - 3)+1<=k+(a1.1 - 1)+((a5.1+1,(a5.2.set ((a5.1:Int) - (1:Int)).toNat r6.1)).1 - 3)/\k+(a1.1 - 1)+((a5.1+1,(a5.2.set ((a5.1:Int) - (1:Int)).toNat r6.1)).1 - 3)<=1099511627776))) (True/\(TF/\TF)/\((⟨a5.2,a1.2.2.2⟩:GState).vals.length=8/\(⟨a5.2,a1.2.2.2⟩:GState).heap.length=8)/\((((7:Nat) ≠ 8)/\True)/\True/\True)/\((TF/\TF)/\(TF/\TF)/\True)/\True/\(True/\True/\True)/\(k+(a1.1 - 1)+(a5.1 - 3)<=k+8)))))))
def VC_l9Lists (rr:Unit) (k:Nat):Prop:=(TN/\TN/\TN/\True)/\(True/\True/\TN/\TN/\True)/\(TN/\TN/\TN/\True)/\(TF/\TF)/\True/\True/\((1<=((1,1,List.replicate 8 0,List.replicate 8 (-1)):Nat × Int × List Int × List Int).1/\((1,1,List.replicate 8 0,List.replicate 8 (-1)):Nat × Int × List Int × List Int).1<=3/\(1:Int)<=((1,1,List.replicate 8 0,List.replicate 8 (-1)):Nat × Int × List Int × List Int).2.1/\((1,1,List.replicate 8 0,List.replicate 8 (-1)):Nat × Int × List Int × List Int).2.1<=3 * (((1,1,List.replicate 8 0,List.replicate 8 (-1)):Nat × Int × List Int × List Int).1:Int) - 2/\((1,1,List.replicate 8 0,List.replicate 8 (-1)):Nat × Int × List Int × List Int).2.2.1.length=8/\((1,1,List.replicate 8 0,List.replicate 8 (-1)):Nat × Int × List Int × List Int).2.2.2.length=8)/\TT/\(RL [.s (.c (.rdr)),.s (.c (.ptr 47 0)),.s (.c (.ptr 63 0))])/\(([.s (.c (.d (.val (.int .i64 (1:Int))))),.s (.c (.d (.val (.int .i64 (1:Int)))))]:List S)=[.s (.c (.d (.val (.int .i64 (((1,1,List.replicate 8 0,List.replicate 8 (-1)):Nat × Int × List Int × List Int).1:Int))))),.s (.c (.d (.val (.int .i64 (((1,1,List.replicate 8 0,List.replicate 8 (-1)):Nat × Int × List Int × List Int).2.1:Int)))))])/\VC_l9Lists_1/\(RM [some (.blk [.own 144,.own 145])])/\(((some (List.replicate 8 0):Option (List Int))=some (((1,1,List.replicate 8 0,List.replicate 8 (-1)):Nat × Int × List Int × List Int).2.2.1))/\((some (List.replicate 8 (-1)):Option (List Int))=some (((1,1,List.replicate 8 0,List.replicate 8 (-1)):Nat × Int × List Int × List Int).2.2.2))/\True)/\(k<=k+(((1,1,List.replicate 8 0,List.replicate 8 (-1)):Nat × Int × List Int × List Int).1 - 1)/\k+(((1,1,List.replicate 8 0,List.replicate 8 (-1)):Nat × Int × List Int × List Int).1 - 1)<=1099511627776))/\(∀ a1:Nat × Int × List Int × List Int,(1<=a1.1/\a1.1<=3/\(1:Int)<=a1.2.1/\a1.2.1<=3 * (a1.1:Int) - 2/\a1.2.2.1.length=8/\a1.2.2.2.length=8)->True/\(VC_l9Lists_17 a1 k))
theorem vcn_l9Lists (rr:Unit) (k:Nat) (hk:k+(8)<=1099511627776):VC_l9Lists rr k:=by
 unfold VC_l9Lists VC_l9Lists_17 VC_l9Lists_16 VC_l9Lists_15 VC_l9Lists_14 VC_l9Lists_13 VC_l9Lists_12 VC_l9Lists_11 VC_l9Lists_10 VC_l9Lists_9 VC_l9Lists_8 VC_l9Lists_7 VC_l9Lists_6 VC_l9Lists_5 VC_l9Lists_4 VC_l9Lists_3 VC_l9Lists_2 VC_l9Lists_1
 simp only [cln,Nat.reduceEqDiff,Nat.reduceLeDiff,Nat.reduceAdd]
 all_goals (try simp only [vcIf_iff,decide_eq_true_eq,decide_eq_false_iff_not,bne_iff_ne,ne_eq,beq_iff_eq,beq_eq_false_iff_ne,bne_eq_false_iff_eq,Bool.not_eq_true',Bool.not_eq_false',Int.ofNat_lt,Int.natCast_inj])
 all_goals (repeat' (first | apply And.intro | intro _))
 all_goals (repeat (cases ‹_/\_›))
 all_goals (first | omega | with_reducible assumption | with_reducible rfl | rfl | skip)
 all_goals (first | omega | (simp_all;done) | grind [pickP] | skip)
theorem ok_l9Lists:FnOk Try.prog E 56 c_l9Lists :=
 fn_okQ (l:=L_l9Lists) (lp:=P_l9Lists) (hp:=fun _=>false) (gcs:=fun _=>none) (perm:=fun _=>[]) tabOk mix ⟨ok_num,ok_l2Blank,trivial⟩ trivial Try.func56 rfl (by kernel_rfl) (by decide) (by kernel_rfl) (anns:=fun x _=>an_l9Lists x.1) (fun ⟨rr,_⟩ k _ hk=>Eq.mp (by kernel_rfl) (vcn_l9Lists rr k (hk rfl))) (fun _ _=>⟨((⟨List.replicate 8 0,List.replicate 8 0⟩:GState),()),⟨rfl,rfl⟩⟩)
abbrev c_l8Simple:Con:=⟨[.rdr],[.cmd],fun _=>True,.inr fun (rr,_) r=>r.1.test=⟨false,0,0⟩/\r.1.inv=⟨[],[]⟩/\r.1.body=[]/\r.1.els=[],fun (rr,_)=>3⟩
abbrev L_l8Simple:List (FuncId × Con):=[(43,c_pick),(80,c_num)]
abbrev P_l8Simple:List (FuncId × PT):=[]
def VC_l8Simple_1 (r1:Int × Unit) (r2:Int × Unit) (k:Nat):Prop:=True/\(TF/\TF)/\True/\(TF/\TF)/\((GCmd.mk ((1:Int)+r1.1) r2.1 (0:Int) (⟨false,(0:Int),(0:Int)⟩:GFact) (⟨([]:List GFact),([]:List GAtom)⟩:GAsn) ([]:List GCmd) ([]:List GCmd)).test=⟨false,0,0⟩/\(GCmd.mk ((1:Int)+r1.1) r2.1 (0:Int) (⟨false,(0:Int),(0:Int)⟩:GFact) (⟨([]:List GFact),([]:List GAtom)⟩:GAsn) ([]:List GCmd) ([]:List GCmd)).inv=⟨[],[]⟩/\(GCmd.mk ((1:Int)+r1.1) r2.1 (0:Int) (⟨false,(0:Int),(0:Int)⟩:GFact) (⟨([]:List GFact),([]:List GAtom)⟩:GAsn) ([]:List GCmd) ([]:List GCmd)).body=[]/\(GCmd.mk ((1:Int)+r1.1) r2.1 (0:Int) (⟨false,(0:Int),(0:Int)⟩:GFact) (⟨([]:List GFact),([]:List GAtom)⟩:GAsn) ([]:List GCmd) ([]:List GCmd)).els=[])/\True/\True/\(TF/\TF/\TF/\TF/\True)/\True/\(k+1+1+1<=k+3)
def VC_l8Simple (rr:Unit) (k:Nat):Prop:=(TN/\TN/\TN/\TN/\TN/\True)/\True/\(True/\(k+1<=1099511627776)/\True)/\(∀ r1:Int × Unit,(pickP (5:Int) r1.1)->(inK .i64 ((1:Int)+r1.1))/\True/\(TN/\True)/\((0 < ([(1:Int),(2:Int),(3:Int),(1:Int),(4:Int)]:List Int).length/\([(1:Int),(2:Int),(3:Int),(1:Int),(4:Int)]:List Int).length<=1000)/\(k+1+1<=1099511627776)/\True)/\(∀ r2:Int × Unit,(r2.1 ∈ ([(1:Int),(2:Int),(3:Int),(1:Int),(4:Int)]:List Int))->True/\(TN/\True)/\((0 < ([(2:Int),(0:Int),(1:Int),(3:Int),(5:Int)]:List Int).length/\([(2:Int),(0:Int),(1:Int),(3:Int),(5:Int)]:List Int).length<=1000)/\(k+1+1+1<=1099511627776)/\True)/\(∀ r3:Int × Unit,(r3.1 ∈ ([(2:Int),(0:Int),(1:Int),(3:Int),(5:Int)]:List Int))->(TN/\TN/\TN/\TN/\True)/\(TN/\TN/\TN/\TN/\TN/\True)/\(TF/\TF)/\True/\True/\True/\True/\(vcIf (((1:Int)+r1.1) == (4:Int)) (True/\(VC_l8Simple_1 r1 r2 k)) (True/\True/\True/\True/\(vcIf (((1:Int)+r1.1) == (5:Int)) (VC_l8Simple_1 r1 r2 k) (True/\(TF/\TF)/\((GCmd.mk ((1:Int)+r1.1) r2.1 r3.1 (⟨false,(0:Int),(0:Int)⟩:GFact) (⟨([]:List GFact),([]:List GAtom)⟩:GAsn) ([]:List GCmd) ([]:List GCmd)).test=⟨false,0,0⟩/\(GCmd.mk ((1:Int)+r1.1) r2.1 r3.1 (⟨false,(0:Int),(0:Int)⟩:GFact) (⟨([]:List GFact),([]:List GAtom)⟩:GAsn) ([]:List GCmd) ([]:List GCmd)).inv=⟨[],[]⟩/\(GCmd.mk ((1:Int)+r1.1) r2.1 r3.1 (⟨false,(0:Int),(0:Int)⟩:GFact) (⟨([]:List GFact),([]:List GAtom)⟩:GAsn) ([]:List GCmd) ([]:List GCmd)).body=[]/\(GCmd.mk ((1:Int)+r1.1) r2.1 r3.1 (⟨false,(0:Int),(0:Int)⟩:GFact) (⟨([]:List GFact),([]:List GAtom)⟩:GAsn) ([]:List GCmd) ([]:List GCmd)).els=[])/\True/\True/\(TF/\TF/\TF/\TF/\True)/\True/\(k+1+1+1<=k+3))))))))
theorem vcn_l8Simple (rr:Unit) (k:Nat) (hk:k+(3)<=1099511627776):VC_l8Simple rr k:=by
 unfold VC_l8Simple VC_l8Simple_1
 simp only [cln,Nat.reduceEqDiff,Nat.reduceLeDiff,Nat.reduceAdd]
 all_goals (try simp only [vcIf_iff,decide_eq_true_eq,decide_eq_false_iff_not,bne_iff_ne,ne_eq,beq_iff_eq,beq_eq_false_iff_ne,bne_eq_false_iff_eq,Bool.not_eq_true',Bool.not_eq_false',Int.ofNat_lt,Int.natCast_inj])
 all_goals (repeat' (first | apply And.intro | intro _))
 all_goals (repeat (cases ‹_/\_›))
 all_goals (first | omega | with_reducible assumption | with_reducible rfl | rfl | skip)
 all_goals (first | omega | (simp_all;done) | grind [pickP] | skip)
theorem ok_l8Simple:FnOk Try.prog E 57 c_l8Simple :=
 fn_okQ (l:=L_l8Simple) (lp:=P_l8Simple) (hp:=fun _=>false) (gcs:=fun _=>none) (perm:=fun _=>[]) tabOk mix ⟨ok_pick,ok_num,trivial⟩ trivial Try.func57 rfl (by kernel_rfl) (by decide) (by kernel_rfl) (anns:=fun x _=>fun _ _=>none) (fun ⟨rr,_⟩ k _ hk=>Eq.mp (by kernel_rfl) (vcn_l8Simple rr k (hk rfl))) (fun _ _=>⟨(GCmd.mk 0 0 0 ⟨false,0,0⟩ ⟨[],[]⟩ [] [],()),⟨rfl,rfl,rfl,rfl⟩⟩)
abbrev c_DrawRunBasic:Con:=⟨[.sl .u8],[.state,.cmd],fun _=>True,.inr fun (code,_) r=>r.1.vals.length<=8/\r.1.heap.length<=9/\wtC r.2.1<=1000,fun (code,_)=>20⟩
abbrev L_DrawRunBasic:List (FuncId × Con):=[(44,c_l8Mutate),(55,c_l2Mutate),(56,c_l9Lists),(57,c_l8Simple)]
abbrev P_DrawRunBasic:List (FuncId × PT):=[]
def perm_DrawRunBasic:Nat->List (List Nat)
 | 4=>[[0,1,2,3,4,5],[1,0,2,3,4,5],[0,1,2,4,3,5],[1,0,2,4,3,5],[0,1,4,2,3,5],[1,0,4,2,3,5],[0,4,1,2,3,5],[1,2,0,3,4,5],[1,2,3,0,4,5],[1,2,0,4,3,5]]
 | _=>[]
def VC_DrawRunBasic_1 (r2:GState × Unit) (r4:(List GCmd) × Unit):Prop:=(TF/\TF)/\(r2.1.vals.length<=8/\r2.1.heap.length<=9/\wtC (GCmd.mk ((r4.1.getD 0 (Ty.zero .cmd)).kind) ((r4.1.getD 0 (Ty.zero .cmd)).a) ((r4.1.getD 0 (Ty.zero .cmd)).b) ((r4.1.getD 0 (Ty.zero .cmd)).test) ((r4.1.getD 0 (Ty.zero .cmd)).inv) ((r4.1.getD 0 (Ty.zero .cmd)).body) ((r4.1.getD 0 (Ty.zero .cmd)).els))<=1000)/\((((192:Nat) ≠ 193)/\True)/\True/\True)/\((TF/\TF)/\(TF/\TF)/\True)/\True/\(True/\True/\True)/\(0+8+2+3+3<=0+20)
def VC_DrawRunBasic_2 (r2:GState × Unit) (r4:(List GCmd) × Unit):Prop:=True/\(TF/\TF)/\(VC_DrawRunBasic_1 r2 r4)
def VC_DrawRunBasic_3 (r4:(List GCmd) × Unit) (r2:GState × Unit):Prop:=True/\True/\(0<=(0:Int)/\(0:Int) < ((r4.1.length:Nat):Int))/\(VC_DrawRunBasic_2 r2 r4)
def VC_DrawRunBasic_4 (r2:GState × Unit) (r4:(List GCmd) × Unit):Prop:=True/\(VC_DrawRunBasic_1 r2 r4)
def VC_DrawRunBasic_5 (r2:GState × Unit) (r4:(List GCmd) × Unit):Prop:=(TF/\TF)/\(VC_DrawRunBasic_4 r2 r4)
def VC_DrawRunBasic_6 (r4:(List GCmd) × Unit) (r2:GState × Unit):Prop:=True/\True/\(0<=(0:Int)/\(0:Int) < ((r4.1.length:Nat):Int))/\(VC_DrawRunBasic_5 r2 r4)
def VC_DrawRunBasic_7 (r4:(List GCmd) × Unit) (r2:GState × Unit):Prop:=(0<=(0:Int)/\(0:Int) < ((r4.1.length:Nat):Int))/\(VC_DrawRunBasic_4 r2 r4)
def VC_DrawRunBasic_8 (r4:(List GCmd) × Unit) (r2:GState × Unit):Prop:=True/\True/\(TF/\TF)/\(VC_DrawRunBasic_7 r4 r2)
def VC_DrawRunBasic_9 (r4:(List GCmd) × Unit) (r2:GState × Unit):Prop:=True/\(0<=(0:Int)/\(0:Int) < ((r4.1.length:Nat):Int))/\True/\(VC_DrawRunBasic_2 r2 r4)
def VC_DrawRunBasic (code:List UInt8) (k:Nat):Prop:=(TN/\TN/\TN/\True)/\(TN/\TN/\TN/\TN/\TN/\True)/\(((7:Nat) < 22)/\((8:Nat) < 22)/\((4:Nat) < 22)/\((7:Nat) ≠ 0))/\((none:Option Nat)=none)/\TT/\TT/\True/\True/\True/\(True/\(0+8<=1099511627776)/\TN/\TN/\True)/\(∀ r1:GState × Unit,(r1.1.vals.length=8/\r1.1.heap.length=8)->((r1.1.vals.length<=1048576/\r1.1.heap.length<=1048576)/\(0+8+2<=1099511627776)/\TN/\TN/\True)/\(∀ r2:GState × Unit,(r2.1.vals.length<=r1.1.vals.length/\r2.1.heap.length<=r1.1.heap.length+1)->(TN/\TN/\TN/\True)/\(TF/\TF)/\True/\True/\(True/\True/\(0+8+2+3<=1099511627776)/\True)/\(∀ r3:GCmd × Unit,(r3.1.test=⟨false,0,0⟩/\r3.1.inv=⟨[],[]⟩/\r3.1.body=[]/\r3.1.els=[])->(TN/\True)/\((SimL ([(GCmd.mk r3.1.kind r3.1.a r3.1.b r3.1.test r3.1.inv r3.1.body r3.1.els)]:List GCmd))/\(TF/\True)/\(0+8+2+3+3<=1099511627776)/\TN/\True)/\(∀ r4:(List GCmd) × Unit,(0 < r4.1.length/\r4.1.length+wcL r4.1<=1000)->True/\(VC_DrawRunBasic_3 r4 r2)/\(VC_DrawRunBasic_3 r4 r2)/\(VC_DrawRunBasic_6 r4 r2)/\(VC_DrawRunBasic_6 r4 r2)/\(VC_DrawRunBasic_8 r4 r2)/\(VC_DrawRunBasic_8 r4 r2)/\(True/\(TF/\TF)/\True/\(VC_DrawRunBasic_7 r4 r2))/\(VC_DrawRunBasic_9 r4 r2)/\(VC_DrawRunBasic_9 r4 r2)/\(True/\(0<=(0:Int)/\(0:Int) < ((r4.1.length:Nat):Int))/\True/\(VC_DrawRunBasic_5 r2 r4))/\True))))
theorem vcn_DrawRunBasic (code:List UInt8) (k:Nat):VC_DrawRunBasic code k:=by
 unfold VC_DrawRunBasic VC_DrawRunBasic_9 VC_DrawRunBasic_8 VC_DrawRunBasic_7 VC_DrawRunBasic_6 VC_DrawRunBasic_5 VC_DrawRunBasic_4 VC_DrawRunBasic_3 VC_DrawRunBasic_2 VC_DrawRunBasic_1
 simp only [cln,Nat.reduceEqDiff,Nat.reduceLeDiff,Nat.reduceAdd,GCmd.eta]
 all_goals (try simp only [vcIf_iff,decide_eq_true_eq,decide_eq_false_iff_not,bne_iff_ne,ne_eq,beq_iff_eq,beq_eq_false_iff_ne,bne_eq_false_iff_eq,Bool.not_eq_true',Bool.not_eq_false',Int.ofNat_lt,Int.natCast_inj])
 all_goals (repeat' (first | apply And.intro | intro _))
 all_goals (repeat (cases ‹_/\_›))
 all_goals (first | omega | with_reducible assumption | with_reducible rfl | with_reducible exact True.intro | skip)
 all_goals (first
  | with_reducible exact SimL.one ‹_› ‹_› ‹_›
  | (simp only [Int.ofNat_pos,Int.natCast_pos];assumption)
  | (refine Nat.le_trans (wcL_get (l:=_) (i:=0) ‹_›) ?_;omega)
  | skip)
theorem ok_DrawRunBasic:FnOk Try.prog E 27 c_DrawRunBasic :=
 draw_fnQ (hp:=fun _=>false) (perm:=perm_DrawRunBasic) (gl:=([0,2,3],[32,33,47,54,55,56,57,63])) tabOk mix (kall_of (l:=L_DrawRunBasic) ⟨ok_l8Mutate,ok_l2Mutate,ok_l9Lists,ok_l8Simple,trivial⟩) (pall_of (l:=P_DrawRunBasic) trivial) open_l18Open fn_l18Open Try.func27 rfl (by kernel_rfl) (by decide) (by kernel_rfl) rfl rfl (anns:=fun x=>fun _ _=>none) (fun ⟨code,_⟩ _=>Eq.mp (by kernel_rfl) (vcn_DrawRunBasic code 0)) (fun _ _=>⟨((⟨[],[]⟩:GState),GCmd.mk 0 0 0 ⟨false,0,0⟩ ⟨[],[]⟩ [] [],()),⟨Nat.zero_le _,Nat.zero_le _,by rw [wtC_sim rfl rfl rfl];omega⟩⟩)
abbrev c_isValue:Con:=⟨[.int],[.bool],fun _=>True,.inl fun (t,_)=>(isT t,()),fun _=>0⟩
abbrev L_isValue:List (FuncId × Con):=[]
abbrev P_isValue:List (FuncId × PT):=[]
def VC_isValue (t:Int) (k:Nat):Prop:=True/\True/\True/\True/\(vcIf (decide ((0:Int)<=t)) (True/\True/\True/\True/\(((decide (t<=(8:Int)),()):Bool × Unit)=(isT t,()))/\True/\True/\True/\True/\TF) (True/\True/\(((false,()):Bool × Unit)=(isT t,()))/\True/\True/\True/\True/\TF))
theorem vcn_isValue (t:Int) (k:Nat):VC_isValue t k:=by
 unfold VC_isValue
 simp only [cln,Nat.reduceEqDiff,Nat.reduceLeDiff,Nat.reduceAdd]
 cases h:decide (0<=t) <;> simp [vcIf,isT,h]
theorem ok_isValue:FnOk Try.prog E 66 c_isValue :=
 fn_okQ (l:=L_isValue) (lp:=P_isValue) (hp:=fun _=>false) (gcs:=fun _=>none) (perm:=fun _=>[]) tabOk mix trivial trivial Try.func66 rfl (by kernel_rfl) (by decide) (by kernel_rfl) (anns:=fun x _=>fun _ _=>none) (fun ⟨t,_⟩ k _ _=>Eq.mp (by kernel_rfl) (vcn_isValue t k)) tot_fn
abbrev c_iStateValid:Con:=⟨[.state],[.bool],fun (s,_)=>s.vals.length<=281474976710656/\s.heap.length<=281474976710656,.inl fun (s,_)=>(stV s,()),fun _=>0⟩
abbrev L_iStateValid:List (FuncId × Con):=[(66,c_isValue)]
abbrev P_iStateValid:List (FuncId × PT):=[]
def an_iStateValid (s:GState):Nat->St->Option Ann
 | 4,se=>some { α:=Nat,ok:=fun i=>i<=s.vals.length/\s.vals.length=8/\s.heap.length=8/\(s.vals.take i).all isT=true,mu:=fun i=>s.vals.length - i,i0:=fun _=>0,nx:=fun a _=>(fun i=>i+1) a,live:=[1,18,19],sets:=fun i=>[(20,sv (.int .i64 i))],mids:=[31],blks:=fun i=>[],owns:=fun i=>[],rd:=fun r _=>r,base:=100000 }
 | 10,se=>some { α:=Nat,ok:=fun i=>i<=s.heap.length/\s.vals.length=8/\s.heap.length=8/\s.vals.all isT=true/\(s.heap.take i).all hv=true,mu:=fun i=>s.heap.length - i,i0:=fun _=>0,nx:=fun a _=>(fun i=>i+1) a,live:=[29,30],sets:=fun i=>[(31,sv (.int .i64 i))],mids:=[],blks:=fun i=>[],owns:=fun i=>[],rd:=fun r _=>r,base:=200000 }
 | _,_=>none
def VC_iStateValid_1 (s:GState):Prop:=True/\(((false,()):Bool × Unit)=(stV s,()))/\True/\True/\True/\True/\TF
def VC_iStateValid_2 (s:GState):Prop:=RL [.s (.c (.ptr 31 0)),.s (.c (.d (.arr .int s.vals))),.s (.c (.d (.val (.int .i64 ((s.vals.length:Nat):Int)))))]
def VC_iStateValid_3 :Prop:=([.s (.c (.d (.val (.int .i64 (0:Int)))))]:List S)=[.s (.c (.d (.val (.int .i64 ((0:Nat):Int)))))]
def VC_iStateValid_4 (i1:Nat):Prop:=([.s (.c (.d (.val (.int .i64 (((i1:Nat):Int)+(1:Int))))))]:List S)=[.s (.c (.d (.val (.int .i64 (((i1+1):Nat):Int)))))]
def VC_iStateValid_5 (s:GState):Prop:=RL [.s (.c (.d (.arr .int s.heap))),.s (.c (.d (.val (.int .i64 ((s.heap.length:Nat):Int)))))]
def VC_iStateValid_6 (i2:Nat) (s:GState):Prop:=(inK .i64 (((i2:Nat):Int)+(1:Int)))/\True/\((i2+1)<=s.heap.length/\s.vals.length=8/\s.heap.length=8/\s.vals.all isT=true/\(s.heap.take (i2+1)).all hv=true)/\(s.heap.length - (i2+1) < s.heap.length - i2)/\TT/\(VC_iStateValid_5 s)/\(VC_iStateValid_4 i2)/\(RM [])/\(RM [])/\True/\TT
def VC_iStateValid (s:GState) (k:Nat):Prop:=TN/\True/\True/\True/\True/\True/\True/\(vcIf (((s.vals.length:Nat):Int) != (8:Int)) (True/\(VC_iStateValid_1 s)) (True/\True/\True/\True/\True/\(vcIf (((s.heap.length:Nat):Int) != (8:Int)) (VC_iStateValid_1 s) (True/\True/\True/\True/\((0<=s.vals.length/\s.vals.length=8/\s.heap.length=8/\(s.vals.take 0).all isT=true)/\TT/\(VC_iStateValid_2 s)/\VC_iStateValid_3/\(RM [some (.blk [.d (.arr .int s.vals),.d (.arr .int s.heap)])])/\(RM [])/\True/\TT)/\(∀ i1:Nat,(i1<=s.vals.length/\s.vals.length=8/\s.heap.length=8/\(s.vals.take i1).all isT=true)->True/\(vcIf (decide (((i1:Nat):Int) < ((s.vals.length:Nat):Int))) ((0<=((i1:Nat):Int)/\((i1:Nat):Int) < ((s.vals.length:Nat):Int))/\True/\True/\True/\(True/\True/\True)/\True/\(vcIf (!(isT (s.vals.getD i1 (0:Int)))) (VC_iStateValid_1 s) ((inK .i64 (((i1:Nat):Int)+(1:Int)))/\True/\((i1+1)<=s.vals.length/\s.vals.length=8/\s.heap.length=8/\(s.vals.take (i1+1)).all isT=true)/\(s.vals.length - (i1+1) < s.vals.length - i1)/\TT/\(VC_iStateValid_2 s)/\(VC_iStateValid_4 i1)/\(RM [some (.blk [.d (.arr .int s.vals),.d (.arr .int s.heap)])])/\(RM [])/\True/\TT))) (True/\True/\True/\True/\((0<=s.heap.length/\s.vals.length=8/\s.heap.length=8/\s.vals.all isT=true/\(s.heap.take 0).all hv=true)/\TT/\(VC_iStateValid_5 s)/\VC_iStateValid_3/\(RM [])/\(RM [])/\True/\TT)/\(∀ i2:Nat,(i2<=s.heap.length/\s.vals.length=8/\s.heap.length=8/\s.vals.all isT=true/\(s.heap.take i2).all hv=true)->True/\(vcIf (decide (((i2:Nat):Int) < ((s.heap.length:Nat):Int))) ((0<=((i2:Nat):Int)/\((i2:Nat):Int) < ((s.heap.length:Nat):Int))/\True/\True/\True/\True/\True/\(vcIf ((s.heap.getD i2 (0:Int)) != (-1:Int)) (True/\(True/\True/\True)/\True/\True/\(vcIf (!(isT (s.heap.getD i2 (0:Int)))) (VC_iStateValid_1 s) (VC_iStateValid_6 i2 s))) (True/\(VC_iStateValid_6 i2 s)))) (True/\(((true,()):Bool × Unit)=(stV s,()))/\True/\True/\True/\True/\TF))))))))))
theorem vcn_iStateValid (s:GState) (k:Nat) (hp:s.vals.length<=281474976710656/\s.heap.length<=281474976710656):VC_iStateValid s k:=by
 unfold VC_iStateValid VC_iStateValid_6 VC_iStateValid_5 VC_iStateValid_4 VC_iStateValid_3 VC_iStateValid_2 VC_iStateValid_1
 simp only [cln,Nat.reduceEqDiff,Nat.reduceLeDiff,Nat.reduceAdd]
 all_goals (try simp only [opn])
 all_goals (repeat' (first | apply And.intro | intro _))
 all_goals (first | omega | (simp_all;done) | grind [stV,hv,take_all,all_take,take_full])
theorem ok_iStateValid:FnOk Try.prog E 31 c_iStateValid :=
 fn_okQ (l:=L_iStateValid) (lp:=P_iStateValid) (hp:=fun _=>false) (gcs:=fun _=>none) (perm:=fun _=>[]) tabOk mix ⟨ok_isValue,trivial⟩ trivial Try.func31 rfl (by kernel_rfl) (by decide) (by kernel_rfl) (anns:=fun x _=>an_iStateValid x.1) (fun ⟨s,_⟩ k hp _=>Eq.mp (by kernel_rfl) (vcn_iStateValid s k hp)) tot_fn
abbrev c_isBasic:Con:=⟨[.cmd],[.bool],fun _=>True,.inl fun (c,_)=>(decide (1<=c.kind) && decide (c.kind<=5),()),fun _=>0⟩
abbrev L_isBasic:List (FuncId × Con):=[]
abbrev P_isBasic:List (FuncId × PT):=[]
def VC_isBasic (c:GCmd) (k:Nat):Prop:=TN/\True/\True/\True/\True/\True/\(vcIf (decide ((1:Int)<=c.kind)) (True/\True/\True/\True/\True/\(((decide (c.kind<=(5:Int)),()):Bool × Unit)=(decide (1<=c.kind) && decide (c.kind<=5),()))/\True/\True/\True/\True/\TF) (True/\True/\(((false,()):Bool × Unit)=(decide (1<=c.kind) && decide (c.kind<=5),()))/\True/\True/\True/\True/\TF))
theorem vcn_isBasic (c:GCmd) (k:Nat):VC_isBasic c k:=by
 unfold VC_isBasic
 simp only [cln,Nat.reduceEqDiff,Nat.reduceLeDiff,Nat.reduceAdd]
 all_goals (try simp only [vcIf_iff,decide_eq_true_eq,decide_eq_false_iff_not,bne_iff_ne,ne_eq,beq_iff_eq,beq_eq_false_iff_ne,bne_eq_false_iff_eq,Bool.not_eq_true',Bool.not_eq_false',Int.ofNat_lt,Int.natCast_inj])
 all_goals (repeat' (first | apply And.intro | intro _))
 all_goals (repeat (cases ‹_/\_›))
 all_goals (first | omega | (simp_all;done) | grind [pvV,noA,fokC,fokB,prV,cvB,cvN] | skip)
theorem ok_isBasic:FnOk Try.prog E 58 c_isBasic :=
 fn_okQ (l:=L_isBasic) (lp:=P_isBasic) (hp:=fun _=>false) (gcs:=fun _=>none) (perm:=fun _=>[]) tabOk mix trivial trivial Try.func58 rfl (by kernel_rfl) (by decide) (by kernel_rfl) (anns:=fun x _=>fun _ _=>none) (fun ⟨c,_⟩ k _ _=>Eq.mp (by kernel_rfl) (vcn_isBasic c k)) tot_fn
abbrev c_noAssn:Con:=⟨[.asn],[.bool],fun (a,_)=>a.facts.length<=281474976710656/\a.atoms.length<=281474976710656,.inl fun (a,_)=>(noA a,()),fun _=>0⟩
abbrev L_noAssn:List (FuncId × Con):=[]
abbrev P_noAssn:List (FuncId × PT):=[]
def VC_noAssn (a:GAsn) (k:Nat):Prop:=TN/\True/\True/\True/\True/\True/\True/\(vcIf (((a.facts.length:Nat):Int) == (0:Int)) (True/\True/\True/\True/\True/\True/\(((((a.atoms.length:Nat):Int) == (0:Int),()):Bool × Unit)=(noA a,()))/\True/\True/\True/\True/\TF) (True/\True/\(((false,()):Bool × Unit)=(noA a,()))/\True/\True/\True/\True/\TF))
theorem vcn_noAssn (a:GAsn) (k:Nat) (hp:a.facts.length<=281474976710656/\a.atoms.length<=281474976710656):VC_noAssn a k:=by
 unfold VC_noAssn
 simp only [cln,Nat.reduceEqDiff,Nat.reduceLeDiff,Nat.reduceAdd]
 all_goals (try simp only [vcIf_iff,decide_eq_true_eq,decide_eq_false_iff_not,bne_iff_ne,ne_eq,beq_iff_eq,beq_eq_false_iff_ne,bne_eq_false_iff_eq,Bool.not_eq_true',Bool.not_eq_false',Int.ofNat_lt,Int.natCast_inj])
 all_goals (repeat' (first | apply And.intro | intro _))
 all_goals (repeat (cases ‹_/\_›))
 all_goals (first | omega | (simp_all;done) | grind [pvV,noA,fokC,fokB,prV,cvB,cvN] | skip)
theorem ok_noAssn:FnOk Try.prog E 92 c_noAssn :=
 fn_okQ (l:=L_noAssn) (lp:=P_noAssn) (hp:=fun _=>false) (gcs:=fun _=>none) (perm:=fun _=>[]) tabOk mix trivial trivial Try.func92 rfl (by kernel_rfl) (by decide) (by kernel_rfl) (anns:=fun x _=>fun _ _=>none) (fun ⟨a,_⟩ k hp _=>Eq.mp (by kernel_rfl) (vcn_noAssn a k hp)) tot_fn
abbrev c_isPV:Con:=⟨[.int],[.bool],fun _=>True,.inl fun (t,_)=>(pvV t,()),fun _=>0⟩
abbrev L_isPV:List (FuncId × Con):=[]
abbrev P_isPV:List (FuncId × PT):=[]
def VC_isPV (t:Int) (k:Nat):Prop:=True/\True/\True/\True/\(vcIf (decide ((1:Int)<=t)) (True/\True/\True/\True/\(((decide (t<=(4:Int)),()):Bool × Unit)=(pvV t,()))/\True/\True/\True/\True/\TF) (True/\True/\(((false,()):Bool × Unit)=(pvV t,()))/\True/\True/\True/\True/\TF))
theorem vcn_isPV (t:Int) (k:Nat):VC_isPV t k:=by
 unfold VC_isPV
 simp only [cln,Nat.reduceEqDiff,Nat.reduceLeDiff,Nat.reduceAdd]
 all_goals (try simp only [vcIf_iff,decide_eq_true_eq,decide_eq_false_iff_not,bne_iff_ne,ne_eq,beq_iff_eq,beq_eq_false_iff_ne,bne_eq_false_iff_eq,Bool.not_eq_true',Bool.not_eq_false',Int.ofNat_lt,Int.natCast_inj])
 all_goals (repeat' (first | apply And.intro | intro _))
 all_goals (repeat (cases ‹_/\_›))
 all_goals (first | omega | (simp_all;done) | grind [pvV,noA,fokC,fokB,prV,cvB,cvN] | skip)
theorem ok_isPV:FnOk Try.prog E 93 c_isPV :=
 fn_okQ (l:=L_isPV) (lp:=P_isPV) (hp:=fun _=>false) (gcs:=fun _=>none) (perm:=fun _=>[]) tabOk mix trivial trivial Try.func93 rfl (by kernel_rfl) (by decide) (by kernel_rfl) (anns:=fun x _=>fun _ _=>none) (fun ⟨t,_⟩ k _ _=>Eq.mp (by kernel_rfl) (vcn_isPV t k)) tot_fn
abbrev c_isTerm:Con:=⟨[.int],[.bool],fun _=>True,.inl fun (t,_)=>(isT t,()),fun _=>0⟩
abbrev L_isTerm:List (FuncId × Con):=[]
abbrev P_isTerm:List (FuncId × PT):=[]
def VC_isTerm (t:Int) (k:Nat):Prop:=True/\True/\True/\True/\(vcIf (decide ((0:Int)<=t)) (True/\True/\True/\True/\(((decide (t<=(8:Int)),()):Bool × Unit)=(isT t,()))/\True/\True/\True/\True/\TF) (True/\True/\(((false,()):Bool × Unit)=(isT t,()))/\True/\True/\True/\True/\TF))
theorem vcn_isTerm (t:Int) (k:Nat):VC_isTerm t k:=by
 unfold VC_isTerm
 simp only [cln,Nat.reduceEqDiff,Nat.reduceLeDiff,Nat.reduceAdd]
 cases h:decide (0<=t) <;> simp [vcIf,isT,h]
theorem ok_isTerm:FnOk Try.prog E 94 c_isTerm :=
 fn_okQ (l:=L_isTerm) (lp:=P_isTerm) (hp:=fun _=>false) (gcs:=fun _=>none) (perm:=fun _=>[]) tabOk mix trivial trivial Try.func94 rfl (by kernel_rfl) (by decide) (by kernel_rfl) (anns:=fun x _=>fun _ _=>none) (fun ⟨t,_⟩ k _ _=>Eq.mp (by kernel_rfl) (vcn_isTerm t k)) tot_fn
abbrev c_iFactValid:Con:=⟨[.fact],[.bool],fun _=>True,.inl fun (f,_)=>(fV f,()),fun _=>0⟩
abbrev L_iFactValid:List (FuncId × Con):=[(94,c_isTerm)]
abbrev P_iFactValid:List (FuncId × PT):=[]
def VC_iFactValid (f:GFact) (k:Nat):Prop:=TN/\True/\True/\True/\(True/\True/\True)/\True/\(vcIf (isT f.a) (True/\True/\(True/\True/\True)/\True/\True/\((((isT f.b),()):Bool × Unit)=(fV f,()))/\True/\True/\True/\True/\TF) (True/\True/\(((false,()):Bool × Unit)=(fV f,()))/\True/\True/\True/\True/\TF))
theorem vcn_iFactValid (f:GFact) (k:Nat):VC_iFactValid f k:=by
 unfold VC_iFactValid
 simp only [cln,Nat.reduceEqDiff,Nat.reduceLeDiff,Nat.reduceAdd]
 cases h:isT f.a <;> simp [vcIf,fV,h]
theorem ok_iFactValid:FnOk Try.prog E 95 c_iFactValid :=
 fn_okQ (l:=L_iFactValid) (lp:=P_iFactValid) (hp:=fun _=>false) (gcs:=fun _=>none) (perm:=fun _=>[]) tabOk mix ⟨ok_isTerm,trivial⟩ trivial Try.func95 rfl (by kernel_rfl) (by decide) (by kernel_rfl) (anns:=fun x _=>fun _ _=>none) (fun ⟨f,_⟩ k _ _=>Eq.mp (by kernel_rfl) (vcn_iFactValid f k)) tot_fn
abbrev c_iFactsValid:Con:=⟨[.sl .fact],[.bool],fun (l,_)=>l.length<=281474976710656,.inl fun (l,_)=>(fsV l,()),fun _=>0⟩
abbrev L_iFactsValid:List (FuncId × Con):=[(95,c_iFactValid)]
abbrev P_iFactsValid:List (FuncId × PT):=[]
def an_iFactsValid (l:List GFact):Nat->St->Option Ann
 | 4,se=>some { α:=Nat,ok:=fun i=>i<=l.length/\l.length<=12/\(l.take i).all fV=true,mu:=fun i=>l.length - i,i0:=fun _=>0,nx:=fun a _=>(fun i=>i+1) a,live:=[8,9],sets:=fun i=>[(10,sv (.int .i64 i))],mids:=[],blks:=fun i=>[],owns:=fun i=>[],rd:=fun r _=>r,base:=100000 }
 | _,_=>none
def VC_iFactsValid_1 (l:List GFact):Prop:=True/\(((false,()):Bool × Unit)=(fsV l,()))/\True/\True/\True/\True/\TF
def VC_iFactsValid_2 (l:List GFact):Prop:=RL [.s (.c (.d (.arr .fact l))),.s (.c (.d (.val (.int .i64 ((l.length:Nat):Int)))))]
def VC_iFactsValid (l:List GFact) (k:Nat):Prop:=True/\True/\True/\True/\(vcIf (decide ((12:Int) < ((l.length:Nat):Int))) (VC_iFactsValid_1 l) (True/\True/\True/\((0<=l.length/\l.length<=12/\(l.take 0).all fV=true)/\TT/\(VC_iFactsValid_2 l)/\(([.s (.c (.d (.val (.int .i64 (0:Int)))))]:List S)=[.s (.c (.d (.val (.int .i64 ((0:Nat):Int)))))])/\(RM [])/\(RM [])/\True/\TT)/\(∀ i1:Nat,(i1<=l.length/\l.length<=12/\(l.take i1).all fV=true)->True/\(vcIf (decide (((i1:Nat):Int) < ((l.length:Nat):Int))) ((0<=((i1:Nat):Int)/\((i1:Nat):Int) < ((l.length:Nat):Int))/\True/\(TN/\True)/\(TF/\TF)/\True/\(True/\True/\True)/\True/\(vcIf (!(fV (l.getD i1 (⟨false,0,0⟩:GFact)))) (VC_iFactsValid_1 l) ((inK .i64 (((i1:Nat):Int)+(1:Int)))/\True/\((i1+1)<=l.length/\l.length<=12/\(l.take (i1+1)).all fV=true)/\(l.length - (i1+1) < l.length - i1)/\TT/\(VC_iFactsValid_2 l)/\(([.s (.c (.d (.val (.int .i64 (((i1:Nat):Int)+(1:Int))))))]:List S)=[.s (.c (.d (.val (.int .i64 (((i1+1):Nat):Int)))))])/\(RM [])/\(RM [])/\True/\TT))) (True/\(((true,()):Bool × Unit)=(fsV l,()))/\True/\True/\True/\True/\TF)))))
theorem vcn_iFactsValid (l:List GFact) (k:Nat) (hp:l.length<=281474976710656):VC_iFactsValid l k:=by
 unfold VC_iFactsValid VC_iFactsValid_2 VC_iFactsValid_1
 simp only [cln,Nat.reduceEqDiff,Nat.reduceLeDiff,Nat.reduceAdd]
 all_goals (try simp only [opn])
 all_goals (repeat' (first | apply And.intro | intro _))
 all_goals (first | omega | (simp_all;done) | grind [fsV,take_all,all_take,take_full,Ty.zero])
theorem ok_iFactsValid:FnOk Try.prog E 124 c_iFactsValid :=
 fn_okQ (l:=L_iFactsValid) (lp:=P_iFactsValid) (hp:=fun _=>false) (gcs:=fun _=>none) (perm:=fun _=>[]) tabOk mix ⟨ok_iFactValid,trivial⟩ trivial Try.func124 rfl (by kernel_rfl) (by decide) (by kernel_rfl) (anns:=fun x _=>an_iFactsValid x.1) (fun ⟨l,_⟩ k hp _=>Eq.mp (by kernel_rfl) (vcn_iFactsValid l k hp)) tot_fn
abbrev c_iAtomValid:Con:=⟨[.atom],[.bool],fun _=>True,.inl fun (x,_)=>(atV x,()),fun _=>0⟩
abbrev L_iAtomValid:List (FuncId × Con):=[(94,c_isTerm)]
abbrev P_iAtomValid:List (FuncId × PT):=[]
def VC_iAtomValid_1 (x:GAtom):Prop:=True/\True/\(((false,()):Bool × Unit)=(atV x,()))/\True/\True/\True/\True/\TF
def VC_iAtomValid_2 (x:GAtom):Prop:=True/\True/\(True/\True/\True)/\True/\True/\(vcIf (isT x.a) (True/\True/\(True/\True/\True)/\True/\True/\((((isT x.b),()):Bool × Unit)=(atV x,()))/\True/\True/\True/\True/\TF) (VC_iAtomValid_1 x))
def VC_iAtomValid (x:GAtom) (k:Nat):Prop:=TN/\True/\True/\True/\True/\True/\(vcIf (x.kind == (1:Int)) (True/\True/\(VC_iAtomValid_2 x)) (True/\True/\True/\True/\True/\(vcIf (x.kind == (2:Int)) (VC_iAtomValid_2 x) (True/\True/\(VC_iAtomValid_1 x)))))
theorem vcn_iAtomValid (x:GAtom) (k:Nat):VC_iAtomValid x k:=by
 unfold VC_iAtomValid VC_iAtomValid_2 VC_iAtomValid_1
 simp only [cln,Nat.reduceEqDiff,Nat.reduceLeDiff,Nat.reduceAdd]
 all_goals (try simp only [opn])
 all_goals (repeat' (first | apply And.intro | intro _))
 all_goals (first | omega | (simp_all;done) | grind [atV])
theorem ok_iAtomValid:FnOk Try.prog E 125 c_iAtomValid :=
 fn_okQ (l:=L_iAtomValid) (lp:=P_iAtomValid) (hp:=fun _=>false) (gcs:=fun _=>none) (perm:=fun _=>[]) tabOk mix ⟨ok_isTerm,trivial⟩ trivial Try.func125 rfl (by kernel_rfl) (by decide) (by kernel_rfl) (anns:=fun x _=>fun _ _=>none) (fun ⟨x,_⟩ k _ _=>Eq.mp (by kernel_rfl) (vcn_iAtomValid x k)) tot_fn
abbrev c_iAssertionValid:Con:=⟨[.asn],[.bool],fun (a,_)=>a.facts.length<=281474976710656/\a.atoms.length<=281474976710656,.inl fun (a,_)=>(asV a,()),fun _=>0⟩
abbrev L_iAssertionValid:List (FuncId × Con):=[(124,c_iFactsValid),(125,c_iAtomValid)]
abbrev P_iAssertionValid:List (FuncId × PT):=[]
def an_iAssertionValid (a:GAsn):Nat->St->Option Ann
 | 4,se=>some { α:=Nat,ok:=fun i=>i<=a.atoms.length/\a.atoms.length<=6/\fsV a.facts=true/\(a.atoms.take i).all atV=true,mu:=fun i=>a.atoms.length - i,i0:=fun _=>0,nx:=fun a _=>(fun i=>i+1) a,live:=[16,17],sets:=fun i=>[(18,sv (.int .i64 i))],mids:=[],blks:=fun i=>[],owns:=fun i=>[],rd:=fun r _=>r,base:=100000 }
 | _,_=>none
def VC_iAssertionValid_1 (a:GAsn):Prop:=True/\(((false,()):Bool × Unit)=(asV a,()))/\True/\True/\True/\True/\TF
def VC_iAssertionValid_2 (a:GAsn):Prop:=RL [.s (.c (.d (.arr .atom a.atoms))),.s (.c (.d (.val (.int .i64 ((a.atoms.length:Nat):Int)))))]
def VC_iAssertionValid (a:GAsn) (k:Nat):Prop:=TN/\True/\True/\True/\((a.facts.length<=281474976710656)/\True/\True)/\True/\True/\(vcIf (!(fsV a.facts)) (True/\(VC_iAssertionValid_1 a)) (True/\True/\True/\True/\True/\(vcIf (decide ((6:Int) < ((a.atoms.length:Nat):Int))) (VC_iAssertionValid_1 a) (True/\True/\True/\True/\((0<=a.atoms.length/\a.atoms.length<=6/\fsV a.facts=true/\(a.atoms.take 0).all atV=true)/\TT/\(VC_iAssertionValid_2 a)/\(([.s (.c (.d (.val (.int .i64 (0:Int)))))]:List S)=[.s (.c (.d (.val (.int .i64 ((0:Nat):Int)))))])/\(RM [])/\(RM [])/\True/\TT)/\(∀ i1:Nat,(i1<=a.atoms.length/\a.atoms.length<=6/\fsV a.facts=true/\(a.atoms.take i1).all atV=true)->True/\(vcIf (decide (((i1:Nat):Int) < ((a.atoms.length:Nat):Int))) ((0<=((i1:Nat):Int)/\((i1:Nat):Int) < ((a.atoms.length:Nat):Int))/\True/\(TN/\True)/\(TF/\TF)/\True/\(True/\True/\True)/\True/\(vcIf (!(atV (a.atoms.getD i1 (⟨0,0,0⟩:GAtom)))) (VC_iAssertionValid_1 a) ((inK .i64 (((i1:Nat):Int)+(1:Int)))/\True/\((i1+1)<=a.atoms.length/\a.atoms.length<=6/\fsV a.facts=true/\(a.atoms.take (i1+1)).all atV=true)/\(a.atoms.length - (i1+1) < a.atoms.length - i1)/\TT/\(VC_iAssertionValid_2 a)/\(([.s (.c (.d (.val (.int .i64 (((i1:Nat):Int)+(1:Int))))))]:List S)=[.s (.c (.d (.val (.int .i64 (((i1+1):Nat):Int)))))])/\(RM [])/\(RM [])/\True/\TT))) (True/\(((true,()):Bool × Unit)=(asV a,()))/\True/\True/\True/\True/\TF)))))))
theorem vcn_iAssertionValid (a:GAsn) (k:Nat) (hp:a.facts.length<=281474976710656/\a.atoms.length<=281474976710656):VC_iAssertionValid a k:=by
 unfold VC_iAssertionValid VC_iAssertionValid_2 VC_iAssertionValid_1
 simp only [cln,Nat.reduceEqDiff,Nat.reduceLeDiff,Nat.reduceAdd]
 all_goals (try simp only [opn])
 all_goals (repeat' (first | apply And.intro | intro _))
 all_goals (first | omega | (simp_all;done) | grind [asV,take_all,all_take,take_full,Ty.zero])
theorem ok_iAssertionValid:FnOk Try.prog E 96 c_iAssertionValid :=
 fn_okQ (l:=L_iAssertionValid) (lp:=P_iAssertionValid) (hp:=fun _=>false) (gcs:=fun _=>none) (perm:=fun _=>[]) tabOk mix ⟨ok_iFactsValid,ok_iAtomValid,trivial⟩ trivial Try.func96 rfl (by kernel_rfl) (by decide) (by kernel_rfl) (anns:=fun x _=>an_iAssertionValid x.1) (fun ⟨a,_⟩ k hp _=>Eq.mp (by kernel_rfl) (vcn_iAssertionValid a k hp)) tot_fn
abbrev c_fieldsValid:Con:=⟨[.cmd],[.bool],fun (c,_)=>BdC c,.inl fun (c,_)=>(fokC c,()),fun _=>0⟩
abbrev L_fieldsValid:List (FuncId × Con):=[(58,c_isBasic),(92,c_noAssn),(93,c_isPV),(94,c_isTerm),(95,c_iFactValid),(96,c_iAssertionValid)]
abbrev P_fieldsValid:List (FuncId × PT):=[]
def VC_fieldsValid_1 (c:GCmd):Prop:=True/\(((false,()):Bool × Unit)=(fokC c,()))/\True/\True/\True/\True/\TF
def VC_fieldsValid_2 (c:GCmd):Prop:=True/\(VC_fieldsValid_1 c)
def VC_fieldsValid_3 (c:GCmd):Prop:=True/\(VC_fieldsValid_2 c)
def VC_fieldsValid_4 (c:GCmd):Prop:=True/\(VC_fieldsValid_3 c)
def VC_fieldsValid_5 (c:GCmd):Prop:=True/\(VC_fieldsValid_4 c)
def VC_fieldsValid_6 (c:GCmd):Prop:=True/\(VC_fieldsValid_5 c)
def VC_fieldsValid_7 (c:GCmd):Prop:=True/\(VC_fieldsValid_6 c)
def VC_fieldsValid_8 (c:GCmd):Prop:=(c.inv.facts.length<=281474976710656/\c.inv.atoms.length<=281474976710656)/\True/\True
def VC_fieldsValid_9 (c:GCmd):Prop:=True/\True/\(True/\True/\True)/\True/\True/\((((isT c.b),()):Bool × Unit)=(fokC c,()))/\True/\True/\True/\True/\TF
def VC_fieldsValid_10 (c:GCmd):Prop:=True/\True/\(True/\True/\True)/\True/\(vcIf (pvV c.a) (VC_fieldsValid_9 c) (VC_fieldsValid_2 c))
def VC_fieldsValid_11 (c:GCmd):Prop:=True/\True/\True/\True/\True/\(((c.b == (0:Int),()):Bool × Unit)=(fokC c,()))/\True/\True/\True/\True/\TF
def VC_fieldsValid_12 (c:GCmd):Prop:=True/\True/\(vcIf (c.kind == (3:Int)) (True/\True/\(True/\True/\True)/\True/\(vcIf (isT c.a) (VC_fieldsValid_9 c) (VC_fieldsValid_2 c))) (True/\True/\(vcIf (c.kind == (4:Int)) (True/\True/\(True/\True/\True)/\True/\(vcIf (pvV c.a) (VC_fieldsValid_11 c) (VC_fieldsValid_2 c))) (True/\True/\(vcIf (c.kind == (5:Int)) (True/\True/\(True/\True/\True)/\True/\(vcIf (isT c.a) (VC_fieldsValid_11 c) (VC_fieldsValid_2 c))) (True/\True/\(vcIf (c.kind == (6:Int)) (True/\True/\True/\True/\(vcIf (c.a == (0:Int)) (True/\True/\True/\True/\True/\(vcIf (c.b == (0:Int)) (True/\True/\(True/\True/\True)/\True/\True/\(vcIf (fV c.test) (True/\True/\(VC_fieldsValid_8 c)/\True/\True/\((((noA c.inv),()):Bool × Unit)=(fokC c,()))/\True/\True/\True/\True/\TF) (VC_fieldsValid_2 c))) (VC_fieldsValid_4 c))) (VC_fieldsValid_6 c))) (True/\True/\(vcIf (c.kind == (7:Int)) (True/\True/\True/\True/\(vcIf (c.a == (0:Int)) (True/\True/\True/\True/\True/\(vcIf (c.b == (0:Int)) (True/\True/\(True/\True/\True)/\True/\True/\(vcIf (fV c.test) (True/\True/\(VC_fieldsValid_8 c)/\True/\True/\(vcIf (asV c.inv) (True/\True/\True/\True/\True/\True/\(((((c.els.length:Nat):Int) == (0:Int),()):Bool × Unit)=(fokC c,()))/\True/\True/\True/\True/\TF) (VC_fieldsValid_2 c))) (VC_fieldsValid_4 c))) (VC_fieldsValid_6 c))) (True/\(VC_fieldsValid_7 c)))) (VC_fieldsValid_1 c))))))))))
def VC_fieldsValid_13 (c:GCmd):Prop:=True/\True/\True/\True/\(vcIf (c.kind == (1:Int)) (vcIf (c.kind == (1:Int)) (VC_fieldsValid_10 c) (VC_fieldsValid_12 c)) (True/\True/\(vcIf (c.kind == (2:Int)) (VC_fieldsValid_10 c) (VC_fieldsValid_12 c))))
def VC_fieldsValid (c:GCmd) (k:Nat):Prop:=TN/\True/\True/\(True/\True/\True)/\True/\(vcIf (decide (1<=(GCmd.mk c.kind c.a c.b c.test c.inv c.body c.els).kind) && decide ((GCmd.mk c.kind c.a c.b c.test c.inv c.body c.els).kind<=5)) (True/\True/\True/\True/\True/\(vcIf (!((c.test.eq == false) && ((c.test.a == (0:Int)) && ((c.test.b == (0:Int)) && true)))) (VC_fieldsValid_7 c) (True/\True/\(VC_fieldsValid_8 c)/\True/\True/\True/\(vcIf (!(noA c.inv)) (VC_fieldsValid_5 c) (True/\True/\True/\True/\True/\True/\(vcIf (decide ((0:Int) < ((c.body.length:Nat):Int))) (VC_fieldsValid_3 c) (True/\True/\True/\True/\True/\True/\(vcIf (decide ((0:Int) < ((c.els.length:Nat):Int))) (VC_fieldsValid_1 c) (VC_fieldsValid_13 c))))))))) (True/\(VC_fieldsValid_13 c)))
theorem vcn_fieldsValid (c:GCmd) (k:Nat) (hp:BdC c):VC_fieldsValid c k:=by
 unfold VC_fieldsValid VC_fieldsValid_13 VC_fieldsValid_12 VC_fieldsValid_11 VC_fieldsValid_10 VC_fieldsValid_9 VC_fieldsValid_8 VC_fieldsValid_7 VC_fieldsValid_6 VC_fieldsValid_5 VC_fieldsValid_4 VC_fieldsValid_3 VC_fieldsValid_2 VC_fieldsValid_1
 simp only [cln,Nat.reduceEqDiff,Nat.reduceLeDiff,Nat.reduceAdd,GCmd.eta]
 have b1:=hp.f
 have b2:=hp.a
 have ht:=gf_zero c.test
 all_goals (try simp only [vcIf_iff,← gf_zero,decide_eq_true_eq,decide_eq_false_iff_not,bne_iff_ne,ne_eq,beq_iff_eq,beq_eq_false_iff_ne,bne_eq_false_iff_eq,Bool.not_eq_true',Bool.not_eq_false',Int.ofNat_lt,Int.natCast_inj])
 all_goals (repeat' (first | apply And.intro | intro _))
 all_goals (repeat (cases ‹_/\_›))
 all_goals (first | omega | (simp_all;done) | grind [pvV,noA,fokC,fokB,prV,cvB,cvN] | skip)
theorem ok_fieldsValid:FnOk Try.prog E 59 c_fieldsValid :=
 fn_okQ (l:=L_fieldsValid) (lp:=P_fieldsValid) (hp:=fun _=>false) (gcs:=fun _=>none) (perm:=fun _=>[]) tabOk mix ⟨ok_isBasic,ok_noAssn,ok_isPV,ok_isTerm,ok_iFactValid,ok_iAssertionValid,trivial⟩ trivial Try.func59 rfl (by kernel_rfl) (by decide) (by kernel_rfl) (anns:=fun x _=>fun _ _=>none) (fun ⟨c,_⟩ k hp _=>Eq.mp (by kernel_rfl) (vcn_fieldsValid c k hp)) tot_fn
abbrev c_copyInts:Con:=⟨[.sl .int],[.sl .int],fun (l,_)=>l.length<=1048576,.inl fun (l,_)=>(l,()),fun _=>0⟩
abbrev L_copyInts:List (FuncId × Con):=[]
abbrev P_copyInts:List (FuncId × PT):=[]
def VC_copyInts (l:List Int) (k:Nat):Prop:=TN/\True/\True/\(TN/\(0<=((l.length:Nat):Int)/\((l.length:Nat):Int)<=((l.length:Nat):Int)/\((l.length:Nat):Int)<=4294967296/\True))/\True/\True/\True/\(TF/\TF)/\True/\True/\(((l.take (List.replicate l.length (0:Int)).length ++ (List.replicate l.length (0:Int)).drop l.length,()):(List Int) × Unit)=(l,()))/\(True/\True)/\((TF/\TF)/\True)/\True/\(True/\True)/\TF
theorem vcn_copyInts (l:List Int) (k:Nat) (hp:l.length<=1048576):VC_copyInts l k:=by
 unfold VC_copyInts
 simp only [cln,Nat.reduceEqDiff,Nat.reduceLeDiff,Nat.reduceAdd]
 all_goals (try simp only [opn])
 all_goals (repeat' (first | apply And.intro | intro _))
 all_goals (first | omega | (simp_all;done) | grind [])
theorem ok_copyInts:FnOk Try.prog E 97 c_copyInts :=
 fn_okQ (l:=L_copyInts) (lp:=P_copyInts) (hp:=fun _=>false) (gcs:=fun _=>none) (perm:=fun _=>[]) tabOk mix trivial trivial Try.func97 rfl (by kernel_rfl) (by decide) (by kernel_rfl) (anns:=fun x _=>fun _ _=>none) (fun ⟨l,_⟩ k hp _=>Eq.mp (by kernel_rfl) (vcn_copyInts l k hp)) tot_fn
abbrev c_copyState:Con:=⟨[.state],[.state],fun (s,_)=>s.vals.length<=1048576/\s.heap.length<=1048576,.inl fun (s,_)=>(s,()),fun _=>0⟩
abbrev L_copyState:List (FuncId × Con):=[(97,c_copyInts)]
abbrev P_copyState:List (FuncId × PT):=[]
def VC_copyState (s:GState) (k:Nat):Prop:=TN/\(TN/\TN/\TN/\True)/\True/\True/\((s.vals.length<=1048576)/\True/\TN/\True)/\True/\True/\((s.heap.length<=1048576)/\True/\TN/\True)/\(TN/\TN/\True)/\(TF/\TF)/\(((s,()):GState × Unit)=(s,()))/\((((80:Nat) ≠ 128)/\True)/\True/\True)/\((TF/\TF)/\(TF/\TF)/\True)/\True/\(True/\True/\True)/\TF
theorem vcn_copyState (s:GState) (k:Nat) (hp:s.vals.length<=1048576/\s.heap.length<=1048576):VC_copyState s k:=by
 unfold VC_copyState
 simp only [cln,Nat.reduceEqDiff,Nat.reduceLeDiff,Nat.reduceAdd]
 all_goals (try simp only [opn])
 all_goals (repeat' (first | apply And.intro | intro _))
 all_goals (repeat (cases ‹_/\_›))
 all_goals (first | trivial | (exfalso;contradiction) | omega | with_reducible assumption | with_reducible rfl | skip)
 all_goals (first
  | (with_reducible refine Nat.le_trans (m:=200) ?_ (by decide);first
   | with_reducible exact starL_one (by omega) | with_reducible exact starL_oneA (by omega)
   | with_reducible exact starL_bdF (by omega) (by omega) | with_reducible exact starL_bdA (by omega) (by omega)
   | with_reducible exact sub1F (by omega) | with_reducible exact sub1A (by omega)
   | with_reducible exact subL200F (by omega) | with_reducible exact subL200A (by omega)
   | with_reducible exact nf200F (by omega) | with_reducible exact nf200A (by omega)
   | with_reducible exact md200V | with_reducible exact md200H | with_reducible exact rev200 (by omega)
   | with_reducible exact fc200F (by omega) | with_reducible exact fc200A (by omega))
  | with_reducible exact (en_cons ‹_› ‹_› ‹_›).elim | with_reducible exact (en_none ‹_› ‹_› ‹_› ‹_›).elim
  | with_reducible exact en_star ‹_› ‹_› ‹_›
  | with_reducible exact en_fact1 ‹_› ‹_› ‹_› | with_reducible exact en_fact0 ‹_› ‹_› ‹_›
  | with_reducible exact en_sub ‹_› ‹_› ‹_›
  | with_reducible exact en_refl | with_reducible exact (en_refl0 ‹_› ‹_›).elim
  | with_reducible exact rev_step ‹_› | with_reducible exact (rev_no ‹_› ‹_› ‹_›).elim
  | with_reducible exact en_nf ‹_›
  | with_reducible exact ent_hol ‹_› ‹_› | with_reducible exact (en_mdN ‹_› ‹_› ‹_›).elim
  | (simp_all;done)
  | skip)
theorem ok_copyState:FnOk Try.prog E 60 c_copyState :=
 fn_okQ (l:=L_copyState) (lp:=P_copyState) (hp:=fun _=>false) (gcs:=fun _=>none) (perm:=fun _=>[]) tabOk mix ⟨ok_copyInts,trivial⟩ trivial Try.func60 rfl (by kernel_rfl) (by decide) (by kernel_rfl) (anns:=fun x _=>fun _ _=>none) (fun ⟨s,_⟩ k hp _=>Eq.mp (by kernel_rfl) (vcn_copyState s k hp)) tot_fn
end Go.Proofs.Ytkafaeeianofnaa
